/-
  'TopTaught': for every input the law returns true, and what is handed in reads as before. No condition.
-/
import Derived.Test.YtbhlmkgliflhaaaGreatQtta
set_option linter.unusedVariables false
set_option linter.unusedSectionVars false
set_option linter.unusedSimpArgs false
namespace Go.Proofs.YtbhlmkgliflhaaaGreat
open Go.RowKit
abbrev Je : List Ty := [.int .i64]
set_option maxRecDepth 100000
namespace Sp
def outs (lo hi : Int) (xs : Dt) : Nat -> Nat -> Bool
 | _, 0 => false
 | i, n + 1 => !inr (cel xs i 0).int lo hi || outs lo hi xs (i + 1) n
def out (lo hi : Int) (xs : Dt) : Bool := outs lo hi xs 0 xs.length
def outI (lo hi : Int) (xs : Dt) : Nat -> Nat -> Nat
 | i, 0 => i
 | i, n + 1 => if inr (cel xs i 0).int lo hi = true then outI lo hi xs (i + 1) n else i
end Sp
noncomputable def T11 : Tab Tryz.prog := ⟨[Xdd], [], []⟩
def Xja [InW] (e : List Ed) (K : Nat -> List Ed -> Prop) : Prop := match e with
 | [.ro _ xs, .i n, .i i, .i lo, .i hi] => Pre (n = xs.xs.length /\ 0 <= i /\ i <= n) (Vif (Sp.outs lo hi xs.xs i.toNat (xs.xs.length - i.toNat)) (K 1 [.i (Sp.outI lo hi xs.xs i.toNat (xs.xs.length - i.toNat)), .i lo, .i hi]) (K 0 [.i lo, .i hi]))
 | _ => False
noncomputable def Xkj : LC where
 len := 19
 T := [(0, .rs Je), (1, (.fn (.func 86) [] [(.ptr 1 0), (.ptr 4 0)])), (7, .int .i64), (8, .int .i64)]
 H := [(1, .blk 3 [.int .i64]), (4, .blk 3 [.int .i64])]
 W := ([4, 5] ++ rgg 9 10)
 outs := [⟨.exit 0, [(1, (.fn (.func 86) [] [(.ptr 1 0), (.ptr 4 0)]))], [(1, .blk 3 [.int .i64]), (4, .blk 3 [.int .i64])], ([0, 4, 5] ++ rgg 7 12)⟩, ⟨.ret, [(1, (.fn (.func 86) [] [(.ptr 1 0), (.ptr 4 0)])), (4, .int .i64)], [(1, .blk 3 [.int .i64]), (4, .blk 3 [.int .i64])], ([0, 5] ++ rgg 7 12)⟩]
 spec := Xja
def Xic [W : InW] (xs : Ro Je) (n i lo hi : Int) (A : List Ed -> Prop) (K : Nat -> List Ed -> Prop) : Prop :=
 Vif (decide (i < n)) (Need (decide (0 <= i) && decide (i < (↑(xs.xs.length) : Int))) (Need (decide (i.toNat < xs.xs.length)) (Vif (decide ((cel xs.xs i.toNat (0 : Nat)).int < lo)) (K (0+1) [.i i, .i lo, .i hi]) (Vif (decide (hi < (cel xs.xs i.toNat (0 : Nat)).int)) (K (0+1) [.i i, .i lo, .i hi]) (Ar .i64 (i + 1) fun z => A [.ro _ xs, .i n, .i z, .i lo, .i hi]))))) (K 0 [.i lo, .i hi])
theorem Xr2 (W : InW) (xs n i lo hi A K) : Ye9 { cxT Tryz.prog TT T11 1000 50 with fn := 98 } 1000 (Ynh Tryz.prog 98 3) (Ydy 19 [(0, .rs _ xs), (1, .fn (.func 86) [] [.ptr 1 0, .ptr 4 0]), (7, .si .i64 n), (8, .si .i64 i)] ([4, 5] ++ rgg 9 10)) [(1, .blk 3 [.si .i64 lo]), (4, .blk 3 [.si .i64 hi])] (Yth Xkj A K) = Xic xs n i lo hi A K := by kernel_rfl
def Xjz : Prop := ∀ (W : InW) (body a : Code), (Tryz.prog.funcs[98]?).bind (·.body) = some body -> a ∈ Yw body -> Yfu a = 3 -> @Yma W Tryz.prog a (@Ysp W Xkj)
theorem Xs7 (meas : [InW] -> List Ed -> Nat) (hyp_ : ∀ (W : InW) xs n i lo hi K, Xja [.ro _ xs, .i n, .i i, .i lo, .i hi] K -> ∀ A : List Ed -> Prop, (∀ e, meas e < meas [.ro _ xs, .i n, .i i, .i lo, .i hi] -> Xja e K -> A e) -> Xic xs n i lo hi A K) : Xjz :=
 LE.okOf' (fun W => @TT W) (fun W => @Xb W) Xa T11 1000 50 (by kernel_rfl) Xkj (fun W => @meas W) fun W xs n i lo hi K hs =>
  (Xr2 W xs n i lo hi (fun e => meas e < meas [.ro _ xs, .i n, .i i, .i lo, .i hi] /\ Xja e K) K).mpr (hyp_ W xs n i lo hi K hs _ fun e h1 h2 => ⟨h1, h2⟩)
theorem Xvy : Xjz := Xs7 (fun e => match e with | .ro _ xs :: .i n :: .i i :: _ => (n - i).toNat | _ => 0) fun W xs n i lo hi K hs A hA => by
 obtain ⟨⟨rfl, h0, h1⟩, hk⟩ := hs;unfold Xic;have hm := xs.len;simp only [maxLen] at hm;refine vifd (fun e => ?_) fun e => ?_
 ·rw [show xs.xs.length - i.toNat = (xs.xs.length - (i.toNat + 1)) + 1 by omega] at hk;have hc : (cel xs.xs i.toNat 0).int < lo \/ hi < (cel xs.xs i.toNat 0).int -> K 1 [.i i, .i lo, .i hi] := fun h => by
   have hf : Sp.inr (cel xs.xs i.toNat 0).int lo hi = false := by simp only [Sp.inr, Bool.and_eq_false_iff, decide_eq_false_iff_not]; omega
   have := hk.1 (by simp [Sp.outs, hf]);unfold Sp.outI at this;rw [if_neg (by simp [hf]), Int.toNat_of_nonneg h0] at this;exact this
  refine ned (by simp; omega) (nedd (by omega) (vifd (fun e2 => hc (.inl e2)) fun e2 => vifd (fun e3 => hc (.inr e3)) fun e3 => ar64 (by omega) (hA _ ?_ ?_)))
  ·show ((xs.xs.length : Int) - (i + 1)).toNat < ((xs.xs.length : Int) - i).toNat
   omega
  ·have hf : Sp.inr (cel xs.xs i.toNat 0).int lo hi = true := by simp only [Sp.inr, Bool.and_eq_true, decide_eq_true_eq]; omega
   refine ⟨⟨rfl, by omega, by omega⟩, ?_⟩;rw [show (i + 1).toNat = i.toNat + 1 by omega];simp only [Sp.outs, hf, Bool.not_true, Bool.false_or, Sp.outI, if_true] at hk;exact hk
 ·rw [show xs.xs.length - i.toNat = 0 by omega] at hk;exact hk.2 rfl
noncomputable def Xwm : LE Tryz.prog := ⟨98, 3, fun W => @Ysp W Xkj, Xvy⟩
noncomputable def T12 : Tab Tryz.prog := ⟨T11.pcs, [Xwm], []⟩
def Xoc [W : InW] (lo hi : Int) (xs : Ro Je) (Q : DS -> Prop) : Prop :=
 Pre ((↑(xs.xs.length) : Int) = (↑(xs.xs.length) : Int) /\ Ze <= 0 /\ Ze <= (↑(xs.xs.length) : Int)) (Vif (Sp.outs lo hi xs.xs Zu (xs.xs.length - Int.toNat Ze)) (Q [[Cl.b (decide (Ze <= (↑(Sp.outI lo hi xs.xs Zu (xs.xs.length - Int.toNat Ze)) : Int)))]]) (Q [[Cl.b false]]))
theorem Xuz (W : InW) (lo hi xs Q) : Yvp (cxT Tryz.prog TT T12 1000 50) 1000 61 [.si .i64 lo, .si .i64 hi, .rs _ xs] [] 0 (Yzq [(false, [.bool])] Q) (fun _ _ _ _ => Stuck 421) = Xoc lo hi xs Q := by kernel_rfl
abbrev Xhy : List AT := [.one (.int .i64), .one (.int .i64), .one (.sl Je)]
theorem Xvl {pre : DS -> Prop} {res : DS -> DS} (hyp_ : ∀ (W : InW) (lo hi : Int) (xs : Ro Je), pre [[.i lo], [.i hi], [.l xs.xs]] -> ∀ Q : DS -> Prop, Q (res [[.i lo], [.i hi], [.l xs.xs]]) -> Xoc lo hi xs Q) : PureOk Tryz.prog 61 Xhy [(false, [.bool])] pre res :=
 PureOk.of' (fun W => @TT W) (fun W => @Xb W) Xa T12 1000 50 fun W lo hi xs hp =>
  (Xuz W lo hi xs (fun o => o = res [[.i lo], [.i hi], [.l xs.xs]])).mpr (hyp_ W lo hi xs hp _ rfl)
abbrev Xhi (ds : DS) : DS := match ds with | [[.i lo], [.i hi], [.l xs]] => [[.b (Sp.out lo hi xs)]] | _ => []
theorem okout : PureOk Tryz.prog 61 Xhy [(false, [.bool])] (fun _ => True) Xhi :=
 Xvl fun W lo hi xs _ Q h => by
  unfold Xoc;delta Zu Ze;simp only [Xhi, Sp.out] at h;rw [show Int.toNat 0 = 0 from rfl, Nat.sub_zero];refine ⟨⟨rfl, by omega, by omega⟩, vif (fun e => ?_) fun e => ?_⟩
  ·rw [e] at h;rw [decide_eq_true (by omega)];exact h
  ·rw [e] at h;exact h
theorem out1 (lo hi n : Int) : Sp.out lo hi [[Cl.i n]] = !Sp.inr n lo hi := by simp [Sp.out, Sp.outs, cel, Cl.int]
theorem out2 (lo hi n m : Int) : Sp.out lo hi [[Cl.i n], [Cl.i m]] = (!Sp.inr n lo hi || !Sp.inr m lo hi) := by simp [Sp.out, Sp.outs, cel, Cl.int]
noncomputable def Xdk : PC Tryz.prog := ⟨61, Xhy, [(false, [.bool])], fun _ => True, Xhi, okout⟩
namespace Sp
def dupI (xs : Dt) (name : ByteArray) : Nat -> Nat -> Nat
 | k, 0 => k
 | k, n + 1 => if eqS (nm xs k) name = true then k else dupI xs name (k + 1) n
end Sp
noncomputable def T13 : Tab Tryz.prog := ⟨[Xdd, Xdk], [], []⟩
def Xjb [InW] (e : List Ed) (K : Nat -> List Ed -> Prop) : Prop := match e with
 | [.ro _ xs, .i n, .i i, .s last] => Pre (n = (xs.xs.length : Int) /\ 0 <= i /\ i <= n) (Vif (Sp.dup xs.xs last i.toNat (xs.xs.length - i.toNat)) (K 1 [.i (Sp.dupI xs.xs last i.toNat (xs.xs.length - i.toNat)), .s last]) (K 0 [.s last]))
 | _ => False
noncomputable def Xkk : LC where
 len := 19
 T := [(0, .rs Jd), (1, (.fn (.func 107) [] [(.ptr 1 0), (.ptr 4 0)])), (7, .int .i64), (8, .int .i64)]
 H := [(1, .blk 152 [(.fn (.func 83) [] [])]), (4, .blk 9 [.str])]
 W := ([4, 5] ++ rgg 9 10)
 outs := [⟨.exit 0, [(1, (.fn (.func 107) [] [(.ptr 1 0), (.ptr 4 0)]))], [(1, .blk 152 [(.fn (.func 83) [] [])]), (4, .blk 9 [.str])], ([0, 4, 5] ++ rgg 7 12)⟩, ⟨.ret, [(1, (.fn (.func 107) [] [(.ptr 1 0), (.ptr 4 0)])), (4, .int .i64)], [(1, .blk 152 [(.fn (.func 83) [] [])]), (4, .blk 9 [.str])], ([0, 5] ++ rgg 7 12)⟩]
 spec := Xjb
def Xid [W : InW] (xs : Ro Jd) (n i : Int) (last : ByteArray) (A : List Ed -> Prop) (K : Nat -> List Ed -> Prop) : Prop :=
 Vif (decide (i < n)) (Need (decide (0 <= i) && decide (i < (↑(xs.xs.length) : Int))) (Need (decide (i.toNat < xs.xs.length)) (Vif (eqS (cel xs.xs i.toNat (0 : Nat)).str last) (K (0+1) [.i i, .s last]) (Ar .i64 (i + 1) fun z => A [.ro _ xs, .i n, .i z, .s last])))) (K 0 [.s last])
theorem Xr3 (W : InW) (xs n i last A K) : Ye9 { cxT Tryz.prog TT T13 1000 50 with fn := 123 } 1000 (Ynh Tryz.prog 123 3) (Ydy 19 [(0, .rs _ xs), (1, .fn (.func 107) [] [.ptr 1 0, .ptr 4 0]), (7, .si .i64 n), (8, .si .i64 i)] ([4, 5] ++ rgg 9 10)) [(1, .blk 152 [.fn (.func 83) [] []]), (4, .blk 9 [.ss last])] (Yth Xkk A K) = Xid xs n i last A K := by kernel_rfl
def Xj0 : Prop := ∀ (W : InW) (body a : Code), (Tryz.prog.funcs[123]?).bind (·.body) = some body -> a ∈ Yw body -> Yfu a = 3 -> @Yma W Tryz.prog a (@Ysp W Xkk)
theorem Xs8 (meas : [InW] -> List Ed -> Nat) (hyp_ : ∀ (W : InW) xs n i last K, Xjb [.ro _ xs, .i n, .i i, .s last] K -> ∀ A : List Ed -> Prop, (∀ e, meas e < meas [.ro _ xs, .i n, .i i, .s last] -> Xjb e K -> A e) -> Xid xs n i last A K) : Xj0 :=
 LE.okOf' (fun W => @TT W) (fun W => @Xb W) Xa T13 1000 50 (by kernel_rfl) Xkk (fun W => @meas W) fun W xs n i last K hs =>
  (Xr3 W xs n i last (fun e => meas e < meas [.ro _ xs, .i n, .i i, .s last] /\ Xjb e K) K).mpr (hyp_ W xs n i last K hs _ fun e h1 h2 => ⟨h1, h2⟩)
def Xjd [InW] (e : List Ed) (K : Nat -> List Ed -> Prop) : Prop := match e with
 | [.ro _ xs, .i n, .i i, .s last] => Pre (n = (xs.xs.length : Int) /\ 0 <= i /\ i <= n) (Vif (Sp.dup xs.xs last i.toNat (xs.xs.length - i.toNat)) (K 1 [.i (Sp.dupI xs.xs last i.toNat (xs.xs.length - i.toNat)), .s last]) (K 0 [.s last]))
 | _ => False
noncomputable def Xkm : LC where
 len := 19
 T := [(0, .rs Ivs), (1, (.fn (.func 109) [] [(.ptr 1 0), (.ptr 4 0)])), (7, .int .i64), (8, .int .i64)]
 H := [(1, .blk 154 [(.fn (.func 85) [] [])]), (4, .blk 9 [.str])]
 W := ([4, 5] ++ rgg 9 10)
 outs := [⟨.exit 0, [(1, (.fn (.func 109) [] [(.ptr 1 0), (.ptr 4 0)]))], [(1, .blk 154 [(.fn (.func 85) [] [])]), (4, .blk 9 [.str])], ([0, 4, 5] ++ rgg 7 12)⟩, ⟨.ret, [(1, (.fn (.func 109) [] [(.ptr 1 0), (.ptr 4 0)])), (4, .int .i64)], [(1, .blk 154 [(.fn (.func 85) [] [])]), (4, .blk 9 [.str])], ([0, 5] ++ rgg 7 12)⟩]
 spec := Xjd
def Xif [W : InW] (xs : Ro Ivs) (n i : Int) (last : ByteArray) (A : List Ed -> Prop) (K : Nat -> List Ed -> Prop) : Prop :=
 Vif (decide (i < n)) (Need (decide (0 <= i) && decide (i < (↑(xs.xs.length) : Int))) (Need (decide (i.toNat < xs.xs.length)) (Vif (eqS (cel xs.xs i.toNat (0 : Nat)).str last) (K (0+1) [.i i, .s last]) (Ar .i64 (i + 1) fun z => A [.ro _ xs, .i n, .i z, .s last])))) (K 0 [.s last])
theorem Xr5 (W : InW) (xs n i last A K) : Ye9 { cxT Tryz.prog TT T13 1000 50 with fn := 124 } 1000 (Ynh Tryz.prog 124 3) (Ydy 19 [(0, .rs _ xs), (1, .fn (.func 109) [] [.ptr 1 0, .ptr 4 0]), (7, .si .i64 n), (8, .si .i64 i)] ([4, 5] ++ rgg 9 10)) [(1, .blk 154 [.fn (.func 85) [] []]), (4, .blk 9 [.ss last])] (Yth Xkm A K) = Xif xs n i last A K := by kernel_rfl
def Xj2 : Prop := ∀ (W : InW) (body a : Code), (Tryz.prog.funcs[124]?).bind (·.body) = some body -> a ∈ Yw body -> Yfu a = 3 -> @Yma W Tryz.prog a (@Ysp W Xkm)
theorem Xta (meas : [InW] -> List Ed -> Nat) (hyp_ : ∀ (W : InW) xs n i last K, Xjd [.ro _ xs, .i n, .i i, .s last] K -> ∀ A : List Ed -> Prop, (∀ e, meas e < meas [.ro _ xs, .i n, .i i, .s last] -> Xjd e K -> A e) -> Xif xs n i last A K) : Xj2 :=
 LE.okOf' (fun W => @TT W) (fun W => @Xb W) Xa T13 1000 50 (by kernel_rfl) Xkm (fun W => @meas W) fun W xs n i last K hs =>
  (Xr5 W xs n i last (fun e => meas e < meas [.ro _ xs, .i n, .i i, .s last] /\ Xjd e K) K).mpr (hyp_ W xs n i last K hs _ fun e h1 h2 => ⟨h1, h2⟩)
theorem Xvz : Xj0 := Xs8 (fun e => match e with | .ro _ xs :: .i n :: .i i :: _ => (n - i).toNat | _ => 0) fun W xs n i last K hs A hA => by
 obtain ⟨⟨rfl, h0, h1⟩, hk⟩ := hs;unfold Xid;have hm := xs.len;simp only [maxLen] at hm;refine vifd (fun e => ned (by simp; omega) (nedd (by omega) (vif (fun e2 => ?_) fun e2 => ar64 (by omega) (hA _ ?_ ?_)))) fun e => ?_
 ·rw [show xs.xs.length - i.toNat = (xs.xs.length - (i.toNat + 1)) + 1 by omega] at hk;have := hk.1 (by simp only [Sp.dup, Sp.nm, e2, Bool.true_or]);unfold Sp.dupI at this;rw [if_pos (by exact e2), Int.toNat_of_nonneg h0] at this;exact this
 ·show ((xs.xs.length : Int) - (i + 1)).toNat < ((xs.xs.length : Int) - i).toNat
  omega
 ·refine ⟨⟨rfl, by omega, by omega⟩, ?_⟩;rw [show xs.xs.length - i.toNat = (xs.xs.length - (i.toNat + 1)) + 1 by omega] at hk;simp only [Sp.dup, Sp.nm, e2, Bool.false_or] at hk;unfold Sp.dupI at hk;rw [if_neg (by show ¬ eqS (cel xs.xs i.toNat 0).str last = true; rw [e2]; simp)] at hk;rw [show (i + 1).toNat = i.toNat + 1 by omega];exact hk
 ·rw [show xs.xs.length - i.toNat = 0 by omega] at hk;exact hk.2 rfl
theorem Xv1 : Xj2 := Xta (fun e => match e with | .ro _ xs :: .i n :: .i i :: _ => (n - i).toNat | _ => 0) fun W xs n i last K hs A hA => by
 obtain ⟨⟨rfl, h0, h1⟩, hk⟩ := hs;unfold Xif;have hm := xs.len;simp only [maxLen] at hm;refine vifd (fun e => ned (by simp; omega) (nedd (by omega) (vif (fun e2 => ?_) fun e2 => ar64 (by omega) (hA _ ?_ ?_)))) fun e => ?_
 ·rw [show xs.xs.length - i.toNat = (xs.xs.length - (i.toNat + 1)) + 1 by omega] at hk;have := hk.1 (by simp only [Sp.dup, Sp.nm, e2, Bool.true_or]);unfold Sp.dupI at this;rw [if_pos (by exact e2), Int.toNat_of_nonneg h0] at this;exact this
 ·show ((xs.xs.length : Int) - (i + 1)).toNat < ((xs.xs.length : Int) - i).toNat
  omega
 ·refine ⟨⟨rfl, by omega, by omega⟩, ?_⟩;rw [show xs.xs.length - i.toNat = (xs.xs.length - (i.toNat + 1)) + 1 by omega] at hk;simp only [Sp.dup, Sp.nm, e2, Bool.false_or] at hk;unfold Sp.dupI at hk;rw [if_neg (by show ¬ eqS (cel xs.xs i.toNat 0).str last = true; rw [e2]; simp)] at hk;rw [show (i + 1).toNat = i.toNat + 1 by omega];exact hk
 ·rw [show xs.xs.length - i.toNat = 0 by omega] at hk;exact hk.2 rfl
noncomputable def Xrq : LE Tryz.prog := ⟨123, 3, fun W => @Ysp W Xkk, Xvz⟩
noncomputable def Xrr : LE Tryz.prog := ⟨124, 3, fun W => @Ysp W Xkm, Xv1⟩
noncomputable def T14 : Tab Tryz.prog := ⟨T13.pcs, [Xrq, Xrr], []⟩
def Xjl [InW] (e : List Ed) (K : Nat -> List Ed -> Prop) : Prop := match e with
 | [.i n, .i i, .ro _ rl, .ro _ rc, .i pr, .i ex, .i lo, .i hi, .ro _ rt] => Pre (n = (rl.xs.length : Int) /\ 0 <= i /\ i <= n) (Vif (Sp.hasE (Sp.nameErr rl.xs) i.toNat (rl.xs.length - i.toNat))
   (K 1 [.i (Sp.idxE (Sp.nameErr rl.xs) i.toNat (rl.xs.length - i.toNat)), .i (Sp.nameErr rl.xs (Sp.idxE (Sp.nameErr rl.xs) i.toNat (rl.xs.length - i.toNat)))]) (K 0 [.ro _ rl, .ro _ rc, .i pr, .i ex, .i lo, .i hi, .ro _ rt]))
 | _ => False
noncomputable def Xku : LC where
 len := 160
 T := [(1, (.ptr 1 0)), (60, .int .i64), (61, .int .i64)]
 H := [(1, .blk 32 [.rs Jd, .rs Ivs, .int .i64, .int .i64, .int .i64, .int .i64, .rs Jc])]
 W := (rgg 2 4 ++ rgg 62 13)
 outs := [⟨.exit 1, [(1, (.ptr 1 0))], [(1, .blk 32 [.rs Jd, .rs Ivs, .int .i64, .int .i64, .int .i64, .int .i64, .rs Jc])], (rgg 2 4 ++ rgg 60 15)⟩, ⟨.ret, [(2, (.lit (.int .i64 2))), (3, .int .i64), (4, .int .i64)], [], ([1, 5] ++ rgg 60 15)⟩]
 spec := Xjl
def Xin [W : InW] (n i : Int) (rl : Ro Jd) (rc : Ro Ivs) (pr ex lo hi : Int) (rt : Ro Jc) (A : List Ed -> Prop) (K : Nat -> List Ed -> Prop) : Prop :=
 Vif (decide (i < n)) (Ar .i64 (i + 1) fun z => Need (decide (0 <= z)) (Need (decide (Zh <= z.toNat) && decide (z.toNat <= rl.xs.length)) (Ar .i64 ((↑(List.drop Zh (List.take z.toNat rl.xs)).length : Int) - 1) fun z_1 => Need (decide (0 <= z_1) && decide (z_1 < (↑(List.drop Zh (List.take z.toNat rl.xs)).length : Int))) (Need (decide (z_1.toNat < (List.drop Zh (List.take z.toNat rl.xs)).length)) (Pre True (Vif (!Bk.nameOk (cel (List.drop Zh (List.take z.toNat rl.xs)) z_1.toNat Zh).str) (K (0+1) [.i i, .i (6 : Int)]) (Ar .i64 ((↑(List.drop Zh (List.take z.toNat rl.xs)).length : Int) - 1) fun z_2 => Need (decide (0 <= z_2)) (Need (decide (Zh <= z_2.toNat) && decide (z_2.toNat <= (List.drop Zh (List.take z.toNat rl.xs)).length)) (Pre ((↑(List.drop Zh (List.take z_2.toNat (List.drop Zh (List.take z.toNat rl.xs)))).length : Int) = (↑(List.drop Zh (List.take z_2.toNat (List.drop Zh (List.take z.toNat rl.xs)))).length : Int) /\ Ze <= 0 /\ Ze <= (↑(List.drop Zh (List.take z_2.toNat (List.drop Zh (List.take z.toNat rl.xs)))).length : Int)) (Vif (Sp.dup (List.drop Zh (List.take z_2.toNat (List.drop Zh (List.take z.toNat rl.xs)))) (cel (List.drop Zh (List.take z.toNat rl.xs)) z_1.toNat Zh).str Zu ((List.drop Zh (List.take z_2.toNat (List.drop Zh (List.take z.toNat rl.xs)))).length - Int.toNat Ze)) (Vif (decide (Ze <= (↑(Sp.dupI (List.drop Zh (List.take z_2.toNat (List.drop Zh (List.take z.toNat rl.xs)))) (cel (List.drop Zh (List.take z.toNat rl.xs)) z_1.toNat Zh).str Zu ((List.drop Zh (List.take z_2.toNat (List.drop Zh (List.take z.toNat rl.xs)))).length - Int.toNat Ze)) : Int))) (K (0+1) [.i i, .i (5 : Int)]) (Ar .i64 (i + 1) fun z => A [.i n, .i z, .ro _ rl, .ro _ rc, .i pr, .i ex, .i lo, .i hi, .ro _ rt])) (Ar .i64 (i + 1) fun z => A [.i n, .i z, .ro _ rl, .ro _ rc, .i pr, .i ex, .i lo, .i hi, .ro _ rt]))))))))))) (K 0 [.ro _ rl, .ro _ rc, .i pr, .i ex, .i lo, .i hi, .ro _ rt])
theorem Xsd (W : InW) (n i rl rc pr ex lo hi rt A K) : Ye9 { cxT Tryz.prog TT T14 1000 50 with fn := 60 } 1000 (Ynh Tryz.prog 60 9) (Ydy 160 [(1, .ptr 1 0), (60, .si .i64 n), (61, .si .i64 i)] (rgg 2 4 ++ rgg 62 13)) [(1, .blk 32 [.rs _ rl, .rs _ rc, .si .i64 pr, .si .i64 ex, .si .i64 lo, .si .i64 hi, .rs _ rt])] (Yth Xku A K) = Xin n i rl rc pr ex lo hi rt A K := by kernel_rfl
def Xka : Prop := ∀ (W : InW) (body a : Code), (Tryz.prog.funcs[60]?).bind (·.body) = some body -> a ∈ Yw body -> Yfu a = 9 -> @Yma W Tryz.prog a (@Ysp W Xku)
theorem Xti (meas : [InW] -> List Ed -> Nat) (hyp_ : ∀ (W : InW) n i rl rc pr ex lo hi rt K, Xjl [.i n, .i i, .ro _ rl, .ro _ rc, .i pr, .i ex, .i lo, .i hi, .ro _ rt] K -> ∀ A : List Ed -> Prop, (∀ e, meas e < meas [.i n, .i i, .ro _ rl, .ro _ rc, .i pr, .i ex, .i lo, .i hi, .ro _ rt] -> Xjl e K -> A e) -> Xin n i rl rc pr ex lo hi rt A K) : Xka :=
 LE.okOf' (fun W => @TT W) (fun W => @Xb W) Xa T14 1000 50 (by kernel_rfl) Xku (fun W => @meas W) fun W n i rl rc pr ex lo hi rt K hs =>
  (Xsd W n i rl rc pr ex lo hi rt (fun e => meas e < meas [.i n, .i i, .ro _ rl, .ro _ rc, .i pr, .i ex, .i lo, .i hi, .ro _ rt] /\ Xjl e K) K).mpr (hyp_ W n i rl rc pr ex lo hi rt K hs _ fun e h1 h2 => ⟨h1, h2⟩)
theorem Xfj {xs : Dt} {i k m : Nat} (h : i < m) : cel (xs.take m) i k = cel xs i k := by
 simp [cel, List.getElem?_take, h]
theorem Xfi {xs : Dt} {name : ByteArray} {m : Nat} : ∀ (n k : Nat), k + n <= m -> Sp.dup (xs.take m) name k n = Sp.dup xs name k n
 | 0, _, _ => rfl
 | n + 1, k, h => by
  have h1 := @Xfi xs name m n (k + 1) (by omega);simp only [Sp.dup, Sp.nm, Xfj (show k < m by omega), h1]
theorem Xv9 : Xka := Xti (fun e => match e with | .i n :: .i i :: _ => (n - i).toNat | _ => 0) fun W n i rl rc pr ex lo hi rt K hs A hA => by
 obtain ⟨⟨rfl, h0, h1⟩, hk⟩ := hs;unfold Xin;delta Zu Ze Zh;have hm := rl.len;simp only [maxLen] at hm;simp only [List.drop_zero];refine vifd (fun e => ar64 (by omega) ?_) fun e => ?_
 ·rw [show rl.xs.length - i.toNat = (rl.xs.length - (i.toNat + 1)) + 1 by omega] at hk;obtain ⟨g1, g2⟩ := Xhg (K1 := fun j e => K 1 [.i j, .i e]) hk;rw [Int.toNat_of_nonneg h0] at g1;have ez : (i + 1).toNat = i.toNat + 1 := by omega
  rw [ez];have el : (rl.xs.take (i.toNat + 1)).length = i.toNat + 1 := by rw [List.length_take]; omega
  have hA' : Sp.nameErr rl.xs i.toNat = 0 -> A [.i rl.xs.length, .i (i + 1), .ro _ rl, .ro _ rc, .i pr, .i ex, .i lo, .i hi, .ro _ rt] := fun f => hA _ (by show ((rl.xs.length : Int) - (i + 1)).toNat < ((rl.xs.length : Int) - i).toNat; omega) ⟨⟨rfl, by omega, by omega⟩, by rw [ez]; exact g2 f⟩;have bad : ∀ n, Sp.nameErr rl.xs i.toNat = n -> n ≠ 0 -> K 1 [.i i, .i n] := fun n hn h => by rw [<- hn]; exact g1 (by rw [hn]; exact h)
  clear g1 g2 hk hA;refine ned (decide_eq_true (by omega)) (ned (by simp; omega) ?_);rw [el, show ((i.toNat + 1 : Nat) : Int) - 1 = i by omega];refine ar64 (by omega) (ned (by simp; omega) (nedd (by omega) ⟨trivial, ?_⟩));rw [Xfj (show i.toNat < i.toNat + 1 by omega)];refine vif (fun e2 => bad 6 ?_ (by decide)) fun e2 => ar64 (by omega) (ned (decide_eq_true (by omega)) (ned (by simp) ?_))
  ·clear bad hA'; simp_all [Sp.nameErr, Sp.nm]
  rw [List.take_take, Nat.min_eq_left (by omega), show (rl.xs.take i.toNat).length = i.toNat by rw [List.length_take]; omega, show Int.toNat 0 = 0 from rfl, Nat.sub_zero, Xfi _ _ (by omega)];rw [Bool.not_eq_false'] at e2;refine ⟨⟨trivial, by omega, by omega⟩, vif (fun e3 => vifd (fun _ => bad 5 ?_ (by decide)) fun e4 => absurd (by omega) e4) fun e3 => ar64 (by omega) (hA' ?_)⟩
  ·clear bad hA'; simp_all [Sp.nameErr, Sp.nm]
  ·clear bad hA'; simp_all [Sp.nameErr, Sp.nm]
 ·rw [show rl.xs.length - i.toNat = 0 by omega] at hk;exact hk.2 rfl
noncomputable def Xwv : LE Tryz.prog := ⟨60, 9, fun W => @Ysp W Xku, Xv9⟩
noncomputable def T15 : Tab Tryz.prog := ⟨T13.pcs, [Xrq, Xrr], []⟩
def Xjn [InW] (e : List Ed) (K : Nat -> List Ed -> Prop) : Prop := match e with
 | [.ro _ cs, .i n, .i i, .ro _ rl, .ro _ rc, .i pr, .i ex, .i lo, .i hi, .ro _ rt] => Pre (cs.xs = rc.xs /\ n = (rc.xs.length : Int) /\ 0 <= i /\ i <= n) (Vif (Sp.hasE (Sp.carErr rc.xs) i.toNat (rc.xs.length - i.toNat))
   (K 1 [.i (Sp.idxE (Sp.carErr rc.xs) i.toNat (rc.xs.length - i.toNat)), .i (Sp.carErr rc.xs (Sp.idxE (Sp.carErr rc.xs) i.toNat (rc.xs.length - i.toNat)))]) (K 0 [.ro _ rl, .ro _ rc, .i pr, .i ex, .i lo, .i hi, .ro _ rt]))
 | _ => False
noncomputable def Xkw : LC where
 len := 160
 T := [(1, (.ptr 1 0)), (76, .rs Ivs), (77, .int .i64), (78, .int .i64)]
 H := [(1, .blk 32 [.rs Jd, .rs Ivs, .int .i64, .int .i64, .int .i64, .int .i64, .rs Jc])]
 W := ([2, 3, 4, 6, 7] ++ rgg 79 32)
 outs := [⟨.exit 3, [(1, (.ptr 1 0))], [(1, .blk 32 [.rs Jd, .rs Ivs, .int .i64, .int .i64, .int .i64, .int .i64, .rs Jc])], ([2, 3, 4, 6, 7] ++ rgg 76 35)⟩, ⟨.ret, [(2, (.lit (.int .i64 3))), (3, .int .i64), (4, .int .i64)], [], ([1, 6, 7] ++ rgg 76 35)⟩]
 spec := Xjn
def Zz [W : InW] (cs : Ro Ivs) (n i : Int) (rl : Ro Jd) (rc : Ro Ivs) (pr ex lo hi : Int) (rt : Ro Jc) (A : List Ed -> Prop) (K : Nat -> List Ed -> Prop) := Pre True (Vif (Sp.out Ze (1000000 : Int) [[Cl.i (cel cs.xs i.toNat (0+1)).int]]) (K (0+1) [.i i, .i (7 : Int)]) (Pre True (Vif (Sp.out (1 : Int) (1000000 : Int) [[Cl.i (cel cs.xs i.toNat (Zh + 1 + 1)).int]]) (K (0+1) [.i i, .i (7 : Int)]) (Pre True (Vif (Sp.out Ze (255 : Int) [[Cl.i (cel cs.xs i.toNat (Zh + 1 + 1 + 1)).int]]) (K (0+1) [.i i, .i (7 : Int)]) (Ar .i64 (i + 1) fun z => A [.ro _ cs, .i n, .i z, .ro _ rl, .ro _ rc, .i pr, .i ex, .i lo, .i hi, .ro _ rt]))))))
def Xip [W : InW] (cs : Ro Ivs) (n i : Int) (rl : Ro Jd) (rc : Ro Ivs) (pr ex lo hi : Int) (rt : Ro Jc) (A : List Ed -> Prop) (K : Nat -> List Ed -> Prop) : Prop :=
 Vif (decide (i < n)) (Need (decide (0 <= i) && decide (i < (↑(cs.xs.length) : Int))) (Need (decide (i.toNat < cs.xs.length)) (Ar .i64 (i + 1) fun z => Need (decide (0 <= z)) (Need (decide (Zh <= z.toNat) && decide (z.toNat <= rc.xs.length)) (Ar .i64 ((↑(List.drop Zh (List.take z.toNat rc.xs)).length : Int) - 1) fun z_1 => Need (decide (0 <= z_1) && decide (z_1 < (↑(List.drop Zh (List.take z.toNat rc.xs)).length : Int))) (Need (decide (z_1.toNat < (List.drop Zh (List.take z.toNat rc.xs)).length)) (Pre True (Vif (!Bk.nameOk (cel (List.drop Zh (List.take z.toNat rc.xs)) z_1.toNat Zh).str) (K (0+1) [.i i, .i (6 : Int)]) (Ar .i64 ((↑(List.drop Zh (List.take z.toNat rc.xs)).length : Int) - 1) fun z_2 => Need (decide (0 <= z_2)) (Need (decide (Zh <= z_2.toNat) && decide (z_2.toNat <= (List.drop Zh (List.take z.toNat rc.xs)).length)) (Pre ((↑(List.drop Zh (List.take z_2.toNat (List.drop Zh (List.take z.toNat rc.xs)))).length : Int) = (↑(List.drop Zh (List.take z_2.toNat (List.drop Zh (List.take z.toNat rc.xs)))).length : Int) /\ Ze <= 0 /\ Ze <= (↑(List.drop Zh (List.take z_2.toNat (List.drop Zh (List.take z.toNat rc.xs)))).length : Int)) (Vif (Sp.dup (List.drop Zh (List.take z_2.toNat (List.drop Zh (List.take z.toNat rc.xs)))) (cel (List.drop Zh (List.take z.toNat rc.xs)) z_1.toNat Zh).str Zu ((List.drop Zh (List.take z_2.toNat (List.drop Zh (List.take z.toNat rc.xs)))).length - Int.toNat Ze)) (Vif (decide (Ze <= (↑(Sp.dupI (List.drop Zh (List.take z_2.toNat (List.drop Zh (List.take z.toNat rc.xs)))) (cel (List.drop Zh (List.take z.toNat rc.xs)) z_1.toNat Zh).str Zu ((List.drop Zh (List.take z_2.toNat (List.drop Zh (List.take z.toNat rc.xs)))).length - Int.toNat Ze)) : Int))) (K (0+1) [.i i, .i (5 : Int)]) (Zz cs n i rl rc pr ex lo hi rt A K)) (Zz cs n i rl rc pr ex lo hi rt A K))))))))))))) (K 0 [.ro _ rl, .ro _ rc, .i pr, .i ex, .i lo, .i hi, .ro _ rt])
theorem Xsf (W : InW) (cs n i rl rc pr ex lo hi rt A K) : Ye9 { cxT Tryz.prog TT T15 1000 50 with fn := 60 } 1000 (Ynh Tryz.prog 60 16) (Ydy 160 [(1, .ptr 1 0), (76, .rs _ cs), (77, .si .i64 n), (78, .si .i64 i)] ([2, 3, 4, 6, 7] ++ rgg 79 32)) [(1, .blk 32 [.rs _ rl, .rs _ rc, .si .i64 pr, .si .i64 ex, .si .i64 lo, .si .i64 hi, .rs _ rt])] (Yth Xkw A K) = Xip cs n i rl rc pr ex lo hi rt A K := by kernel_rfl
def Xkc : Prop := ∀ (W : InW) (body a : Code), (Tryz.prog.funcs[60]?).bind (·.body) = some body -> a ∈ Yw body -> Yfu a = 16 -> @Yma W Tryz.prog a (@Ysp W Xkw)
theorem Xtk (meas : [InW] -> List Ed -> Nat) (hyp_ : ∀ (W : InW) cs n i rl rc pr ex lo hi rt K, Xjn [.ro _ cs, .i n, .i i, .ro _ rl, .ro _ rc, .i pr, .i ex, .i lo, .i hi, .ro _ rt] K -> ∀ A : List Ed -> Prop, (∀ e, meas e < meas [.ro _ cs, .i n, .i i, .ro _ rl, .ro _ rc, .i pr, .i ex, .i lo, .i hi, .ro _ rt] -> Xjn e K -> A e) -> Xip cs n i rl rc pr ex lo hi rt A K) : Xkc :=
 LE.okOf' (fun W => @TT W) (fun W => @Xb W) Xa T15 1000 50 (by kernel_rfl) Xkw (fun W => @meas W) fun W cs n i rl rc pr ex lo hi rt K hs =>
  (Xsf W cs n i rl rc pr ex lo hi rt (fun e => meas e < meas [.ro _ cs, .i n, .i i, .ro _ rl, .ro _ rc, .i pr, .i ex, .i lo, .i hi, .ro _ rt] /\ Xjn e K) K).mpr (hyp_ W cs n i rl rc pr ex lo hi rt K hs _ fun e h1 h2 => ⟨h1, h2⟩)
def Xjj [InW] (e : List Ed) (K : Nat -> List Ed -> Prop) : Prop := match e with
 | [.ro _ ts, .i n, .i i, .ro _ rl, .ro _ rc, .i pr, .i ex, .i lo, .i hi, .ro _ rt] => Pre (ts.xs = rt.xs /\ n = (rt.xs.length : Int) /\ 0 <= i /\ i <= n) (Vif (Sp.hasE (Sp.termErr rt.xs) i.toNat (rt.xs.length - i.toNat))
   (K 1 [.i (Sp.idxE (Sp.termErr rt.xs) i.toNat (rt.xs.length - i.toNat)), .i (Sp.termErr rt.xs (Sp.idxE (Sp.termErr rt.xs) i.toNat (rt.xs.length - i.toNat)))]) (K 0 []))
 | _ => False
noncomputable def Xks : LC where
 len := 160
 T := [(1, (.ptr 1 0)), (112, .rs Jc), (113, .int .i64), (114, .int .i64)]
 H := [(1, .blk 32 [.rs Jd, .rs Ivs, .int .i64, .int .i64, .int .i64, .int .i64, .rs Jc])]
 W := ([2, 3, 4, 8, 9] ++ rgg 115 45)
 outs := [⟨.exit 5, [], [], (rgg 1 4 ++ [8, 9] ++ rgg 112 48)⟩, ⟨.ret, [(2, (.lit (.int .i64 4))), (3, .int .i64), (4, .int .i64)], [], ([1, 8, 9] ++ rgg 112 48)⟩]
 spec := Xjj
def Xil [W : InW] (ts : Ro Jc) (n i : Int) (rl : Ro Jd) (rc : Ro Ivs) (pr ex lo hi : Int) (rt : Ro Jc) (A : List Ed -> Prop) (K : Nat -> List Ed -> Prop) : Prop :=
 Vif (decide (i < n)) (Need (decide (0 <= i) && decide (i < (↑(ts.xs.length) : Int))) (Need (decide (i.toNat < ts.xs.length)) (Pre True (Vif (Sp.out (0 : Int) (240 : Int) [[Cl.i (cel ts.xs i.toNat Zh).int]]) (K (0+1) [.i i, .i (7 : Int)]) (Pre True (Vif (Sp.out (0 : Int) (1000 : Int) [[Cl.i (cel ts.xs i.toNat (0+1)).int]]) (K (0+1) [.i i, .i (7 : Int)]) (Vif (decide (0 < i)) (Ar .i64 (i - 1) fun z => Need (decide (0 <= z) && decide (z < (↑(rt.xs.length) : Int))) (Need (decide (z.toNat < rt.xs.length)) (Vif (decide ((cel rt.xs z.toNat Zh).int <= (cel ts.xs i.toNat Zh).int)) (K (0+1) [.i i, .i (2 : Int)]) (Ar .i64 (i - 1) fun z => Need (decide (0 <= z) && decide (z < (↑(rt.xs.length) : Int))) (Need (decide (z.toNat < rt.xs.length)) (Vif (decide ((cel ts.xs i.toNat (0+1)).int < (cel rt.xs z.toNat (0+1)).int)) (K (0+1) [.i i, .i (2 : Int)]) (Ar .i64 (i + 1) fun z => A [.ro _ ts, .i n, .i z, .ro _ rl, .ro _ rc, .i pr, .i ex, .i lo, .i hi, .ro _ rt]))))))) (Ar .i64 (i + 1) fun z => A [.ro _ ts, .i n, .i z, .ro _ rl, .ro _ rc, .i pr, .i ex, .i lo, .i hi, .ro _ rt])))))))) (K 0 [])
theorem Xsb (W : InW) (ts n i rl rc pr ex lo hi rt A K) : Ye9 { cxT Tryz.prog TT T15 1000 50 with fn := 60 } 1000 (Ynh Tryz.prog 60 25) (Ydy 160 [(1, .ptr 1 0), (112, .rs _ ts), (113, .si .i64 n), (114, .si .i64 i)] ([2, 3, 4, 8, 9] ++ rgg 115 45)) [(1, .blk 32 [.rs _ rl, .rs _ rc, .si .i64 pr, .si .i64 ex, .si .i64 lo, .si .i64 hi, .rs _ rt])] (Yth Xks A K) = Xil ts n i rl rc pr ex lo hi rt A K := by kernel_rfl
def Xj8 : Prop := ∀ (W : InW) (body a : Code), (Tryz.prog.funcs[60]?).bind (·.body) = some body -> a ∈ Yw body -> Yfu a = 25 -> @Yma W Tryz.prog a (@Ysp W Xks)
theorem Xtg (meas : [InW] -> List Ed -> Nat) (hyp_ : ∀ (W : InW) ts n i rl rc pr ex lo hi rt K, Xjj [.ro _ ts, .i n, .i i, .ro _ rl, .ro _ rc, .i pr, .i ex, .i lo, .i hi, .ro _ rt] K -> ∀ A : List Ed -> Prop, (∀ e, meas e < meas [.ro _ ts, .i n, .i i, .ro _ rl, .ro _ rc, .i pr, .i ex, .i lo, .i hi, .ro _ rt] -> Xjj e K -> A e) -> Xil ts n i rl rc pr ex lo hi rt A K) : Xj8 :=
 LE.okOf' (fun W => @TT W) (fun W => @Xb W) Xa T15 1000 50 (by kernel_rfl) Xks (fun W => @meas W) fun W ts n i rl rc pr ex lo hi rt K hs =>
  (Xsb W ts n i rl rc pr ex lo hi rt (fun e => meas e < meas [.ro _ ts, .i n, .i i, .ro _ rl, .ro _ rc, .i pr, .i ex, .i lo, .i hi, .ro _ rt] /\ Xjj e K) K).mpr (hyp_ W ts n i rl rc pr ex lo hi rt K hs _ fun e h1 h2 => ⟨h1, h2⟩)
theorem Xwb : Xkc := Xtk (fun e => match e with | _ :: .i n :: .i i :: _ => (n - i).toNat | _ => 0) fun W cs n i rl rc pr ex lo hi rt K hs A hA => by
 obtain ⟨⟨hcs, rfl, h0, h1⟩, hk⟩ := hs;unfold Xip;delta Zz Zu Zh Ze;have hm := rc.len;simp only [maxLen] at hm;simp only [List.drop_zero, hcs];refine vifd (fun e => ned (by simp; omega) (nedd (by omega) (ar64 (by omega) ?_))) fun e => ?_
 ·rw [show rc.xs.length - i.toNat = (rc.xs.length - (i.toNat + 1)) + 1 by omega] at hk;obtain ⟨g1, g2⟩ := Xhg (K1 := fun j e => K 1 [.i j, .i e]) hk;rw [Int.toNat_of_nonneg h0] at g1;have ez : (i + 1).toNat = i.toNat + 1 := by omega
  rw [ez];have el : (rc.xs.take (i.toNat + 1)).length = i.toNat + 1 := by rw [List.length_take]; omega
  have hA' : Sp.carErr rc.xs i.toNat = 0 -> A [.ro _ cs, .i rc.xs.length, .i (i + 1), .ro _ rl, .ro _ rc, .i pr, .i ex, .i lo, .i hi, .ro _ rt] := fun f => hA _ (by show ((rc.xs.length : Int) - (i + 1)).toNat < ((rc.xs.length : Int) - i).toNat; omega) ⟨⟨hcs, rfl, by omega, by omega⟩, by rw [ez]; exact g2 f⟩;have bad : ∀ n, Sp.carErr rc.xs i.toNat = n -> n ≠ 0 -> K 1 [.i i, .i n] := fun n hn h => by rw [<- hn]; exact g1 (by rw [hn]; exact h)
  clear g1 g2 hk hA;refine ned (decide_eq_true (by omega)) (ned (by simp; omega) ?_);rw [el, show ((i.toNat + 1 : Nat) : Int) - 1 = i by omega];refine ar64 (by omega) (ned (by simp; omega) (nedd (by omega) ⟨trivial, ?_⟩));rw [Xfj (show i.toNat < i.toNat + 1 by omega)];refine vif (fun e2 => bad 6 ?_ (by decide)) fun e2 => ar64 (by omega) (ned (decide_eq_true (by omega)) (ned (by simp) ?_))
  ·clear bad hA'; simp_all [Sp.carErr, Sp.nm]
  rw [List.take_take, Nat.min_eq_left (by omega), show (rc.xs.take i.toNat).length = i.toNat by rw [List.length_take]; omega, show Int.toNat 0 = 0 from rfl, Nat.sub_zero, Xfi _ _ (by omega)];rw [Bool.not_eq_false'] at e2;refine ⟨⟨trivial, by omega, by omega⟩, vif (fun e3 => vifd (fun _ => bad 5 ?_ (by decide)) fun e4 => absurd (by omega) e4) fun e3 => ?_⟩
  ·clear bad hA'; simp_all [Sp.carErr, Sp.nm]
  simp only [out1, Nat.zero_add, Nat.reduceAdd];refine ⟨trivial, vif (fun e4 => bad 7 ?_ (by decide)) fun e4 => ⟨trivial, vif (fun e5 => bad 7 ?_ (by decide)) fun e5 => ⟨trivial, vif (fun e6 => bad 7 ?_ (by decide)) fun e6 => ar64 (by omega) (hA' ?_)⟩⟩⟩
  all_goals (clear bad hA'; simp_all [Sp.carErr, Sp.nm])
 ·rw [show rc.xs.length - i.toNat = 0 by omega] at hk;exact hk.2 rfl
theorem Xv7 : Xj8 := Xtg (fun e => match e with | _ :: .i n :: .i i :: _ => (n - i).toNat | _ => 0) fun W ts n i rl rc pr ex lo hi rt K hs A hA => by
 obtain ⟨⟨hcs, rfl, h0, h1⟩, hk⟩ := hs;unfold Xil;delta Zh;have hm := rt.len;simp only [maxLen] at hm;simp only [hcs, out1, Nat.zero_add];refine vifd (fun e => ?_) fun e => ?_
 ·rw [show rt.xs.length - i.toNat = (rt.xs.length - (i.toNat + 1)) + 1 by omega] at hk;obtain ⟨g1, g2⟩ := Xhg (K1 := fun j e => K 1 [.i j, .i e]) hk;rw [Int.toNat_of_nonneg h0] at g1;have hA' : Sp.termErr rt.xs i.toNat = 0 -> A [.ro _ ts, .i rt.xs.length, .i (i + 1), .ro _ rl, .ro _ rc, .i pr, .i ex, .i lo, .i hi, .ro _ rt] := fun f => hA _ (by show ((rt.xs.length : Int) - (i + 1)).toNat < ((rt.xs.length : Int) - i).toNat; omega) ⟨⟨hcs, rfl, by omega, by omega⟩, by
   rw [show (i + 1).toNat = i.toNat + 1 by omega];exact g2 f⟩
  have bad : ∀ n, Sp.termErr rt.xs i.toNat = n -> n ≠ 0 -> K 1 [.i i, .i n] := fun n hn h => by rw [<- hn]; exact g1 (by rw [hn]; exact h)
  clear g1 g2 hk hA;refine ned (by simp; omega) (nedd (by omega) ⟨trivial, vif (fun e2 => bad 7 ?_ (by decide)) fun e2 => ⟨trivial, vif (fun e3 => bad 7 ?_ (by decide)) fun e3 => vifd (fun e4 => ?_) fun e4 => ar64 (by omega) (hA' ?_)⟩⟩)
  ·clear hA' bad; simp_all [Sp.termErr, Sp.before]
  ·clear hA' bad; simp_all [Sp.termErr, Sp.feeOf]
  ·have e5 : (i - 1).toNat = i.toNat - 1 := by omega
   have e6 : 0 < i.toNat := by omega
   refine ar64 (by omega) (ned (by simp; omega) (nedd (by omega) (vifd (fun e7 => bad 2 ?_ (by decide)) fun e7 => ar64 (by omega) (ned (by simp; omega) (nedd (by omega) (vifd (fun e8 => bad 2 ?_ (by decide)) fun e8 => ar64 (by omega) (hA' ?_)))))))
   all_goals clear hA' bad
   all_goals rw [e5] at e7
   all_goals rw [Bool.not_eq_false'] at e2 e3
   ·simp [Sp.termErr, Sp.before, Sp.feeOf, e2, e3, e6, e7]
   all_goals rw [e5] at e8
   ·simp [Sp.termErr, Sp.before, Sp.feeOf, e2, e3, e6, e8]
   ·simp only [Sp.termErr, Sp.before, Sp.feeOf, e2, e3];simp only [Bool.and_self, if_true, Bool.and_eq_true, Bool.or_eq_true, decide_eq_true_eq, e7, e8, or_self, and_false, if_false]
  ·have e6 : ¬ 0 < i.toNat := by omega
   clear hA' bad;rw [Bool.not_eq_false'] at e2 e3;simp only [Sp.termErr, Sp.before, Sp.feeOf, e2, e3];simp only [Bool.and_self, if_true, Bool.and_eq_true, decide_eq_true_eq, e6, false_and, if_false]
 ·rw [show rt.xs.length - i.toNat = 0 by omega] at hk;exact hk.2 rfl
noncomputable def Xwx : LE Tryz.prog := ⟨60, 16, fun W => @Ysp W Xkw, Xwb⟩
noncomputable def Xwt : LE Tryz.prog := ⟨60, 25, fun W => @Ysp W Xks, Xv7⟩
noncomputable def T16 : Tab Tryz.prog := ⟨T13.pcs, [Xwv, Xwx, Xwt], []⟩
def Xd5 [W : InW] (s_Learners : Ro Jd) (s_Cars : Ro Ivs) (s_Price s_Excess s_Lo s_Hi : Int) (s_Terms : Ro Jc) (Q : DS -> Prop) : Prop :=
 Pre True (Vif (Sp.out (1 : Int) (8 : Int) [[Cl.i (↑(s_Learners.xs.length) : Int)]]) (Q Zy) (Pre True (Vif (Sp.out (1 : Int) (5 : Int) [[Cl.i (↑(s_Cars.xs.length) : Int)]]) (Q Zy) (Vif (decide ((4 : Int) < (↑(s_Terms.xs.length) : Int))) (Q Zy) (Pre True (Vif (Sp.out (1 : Int) (10000 : Int) [[Cl.i s_Price]]) (Q Zx) (Pre True (Vif (Sp.out Ze (10000000 : Int) [[Cl.i s_Excess]]) (Q Zx) (Pre True (Vif (Sp.out Ze (24 : Int) [[Cl.i s_Lo], [Cl.i s_Hi]]) (Q Zx) (Vif (decide (s_Hi <= s_Lo)) (Q [[Cl.i 1], [Cl.i 0], [Cl.i 2]]) (Pre ((↑(s_Learners.xs.length) : Int) = (↑(s_Learners.xs.length) : Int) /\ Ze <= 0 /\ Ze <= (↑(s_Learners.xs.length) : Int)) (Vif (Sp.hasE (Sp.nameErr s_Learners.xs) Zu (s_Learners.xs.length - Int.toNat Ze)) (Q [[Cl.i 2], [Cl.i (↑(Sp.idxE (Sp.nameErr s_Learners.xs) Zu (s_Learners.xs.length - Int.toNat Ze)) : Int)], [Cl.i (Sp.nameErr s_Learners.xs (Sp.idxE (Sp.nameErr s_Learners.xs) Zu (s_Learners.xs.length - Int.toNat Ze)))]]) (Pre (s_Cars.xs = s_Cars.xs /\ (↑(s_Cars.xs.length) : Int) = (↑(s_Cars.xs.length) : Int) /\ Ze <= 0 /\ Ze <= (↑(s_Cars.xs.length) : Int)) (Vif (Sp.hasE (Sp.carErr s_Cars.xs) Zu (s_Cars.xs.length - Int.toNat Ze)) (Q [[Cl.i 3], [Cl.i (↑(Sp.idxE (Sp.carErr s_Cars.xs) Zu (s_Cars.xs.length - Int.toNat Ze)) : Int)], [Cl.i (Sp.carErr s_Cars.xs (Sp.idxE (Sp.carErr s_Cars.xs) Zu (s_Cars.xs.length - Int.toNat Ze)))]]) (Pre (s_Terms.xs = s_Terms.xs /\ (↑(s_Terms.xs.length) : Int) = (↑(s_Terms.xs.length) : Int) /\ Ze <= 0 /\ Ze <= (↑(s_Terms.xs.length) : Int)) (Vif (Sp.hasE (Sp.termErr s_Terms.xs) Zu (s_Terms.xs.length - Int.toNat Ze)) (Q [[Cl.i 4], [Cl.i (↑(Sp.idxE (Sp.termErr s_Terms.xs) Zu (s_Terms.xs.length - Int.toNat Ze)) : Int)], [Cl.i (Sp.termErr s_Terms.xs (Sp.idxE (Sp.termErr s_Terms.xs) Zu (s_Terms.xs.length - Int.toNat Ze)))]]) (Q [[Cl.i 0], [Cl.i 0], [Cl.i 0]]))))))))))))))))))
theorem Xmc (W : InW) (s_Learners s_Cars s_Price s_Excess s_Lo s_Hi s_Terms Q) : Yvp (cxT Tryz.prog TT T16 1000 50) 1000 60 [.agg [.rs _ s_Learners, .rs _ s_Cars, .si .i64 s_Price, .si .i64 s_Excess, .si .i64 s_Lo, .si .i64 s_Hi, .rs _ s_Terms]] [] 0 (Yzq [(false, [.int .i64]), (false, [.int .i64]), (false, [.int .i64])] Q) (fun _ _ _ _ => Stuck 421) = Xd5 s_Learners s_Cars s_Price s_Excess s_Lo s_Hi s_Terms Q := by kernel_rfl
abbrev Xc1 : List AT := [.agg [.sl Jd, .sl Ivs, .int .i64, .int .i64, .int .i64, .int .i64, .sl Jc]]
theorem Xnj {pre : DS -> Prop} {res : DS -> DS} (hyp_ : ∀ (W : InW) (s_Learners : Ro Jd) (s_Cars : Ro Ivs) (s_Price s_Excess s_Lo s_Hi : Int) (s_Terms : Ro Jc), pre [[.l s_Learners.xs, .l s_Cars.xs, .i s_Price, .i s_Excess, .i s_Lo, .i s_Hi, .l s_Terms.xs]] -> ∀ Q : DS -> Prop, Q (res [[.l s_Learners.xs, .l s_Cars.xs, .i s_Price, .i s_Excess, .i s_Lo, .i s_Hi, .l s_Terms.xs]]) -> Xd5 s_Learners s_Cars s_Price s_Excess s_Lo s_Hi s_Terms Q) : PureOk Tryz.prog 60 Xc1 [(false, [.int .i64]), (false, [.int .i64]), (false, [.int .i64])] pre res :=
 PureOk.of' (fun W => @TT W) (fun W => @Xb W) Xa T16 1000 50 fun W s_Learners s_Cars s_Price s_Excess s_Lo s_Hi s_Terms hp =>
  (Xmc W s_Learners s_Cars s_Price s_Excess s_Lo s_Hi s_Terms (fun o => o = res [[.l s_Learners.xs, .l s_Cars.xs, .i s_Price, .i s_Excess, .i s_Lo, .i s_Hi, .l s_Terms.xs]])).mpr (hyp_ W s_Learners s_Cars s_Price s_Excess s_Lo s_Hi s_Terms hp _ rfl)
theorem Xqa : PureOk Tryz.prog 60 Xc1 [(false, [.int .i64]), (false, [.int .i64]), (false, [.int .i64])] (fun _ => True) Xby :=
 Xnj fun W rl rc pr ex lo hi rt hp Q h => by
  unfold Xd5;delta Zu Ze Zx Zy;simp only [Xby, Sp.chkP, Sp.chkI, Sp.chkE, Sp.check] at h;simp only [out1, out2];rw [show Int.toNat 0 = 0 from rfl, Nat.sub_zero, Nat.sub_zero, Nat.sub_zero];refine ⟨trivial, vif (fun e1 => ?_) fun e1 => ⟨trivial, vif (fun e2 => ?_) fun e2 => vif (fun e3 => ?_) fun e3 => ⟨trivial, vif (fun e4 => ?_) fun e4 => ⟨trivial, vif (fun e5 => ?_) fun e5 => ⟨trivial, vif (fun e6 => ?_) fun e6 => vif (fun e8 => ?_) fun e8 => ⟨⟨trivial, by omega, by omega⟩, vif (fun e9 => ?_) fun e9 => ⟨⟨trivial, trivial, by omega, by omega⟩, vif (fun e10 => ?_) fun e10 => ⟨⟨trivial, trivial, by omega, by omega⟩, vif (fun e11 => ?_) fun e11 => ?_⟩⟩⟩⟩⟩⟩⟩⟩
  all_goals simp_all
noncomputable def Xdl : PC Tryz.prog := ⟨60, Xc1, [(false, [.int .i64]), (false, [.int .i64]), (false, [.int .i64])], fun _ => True, Xby, Xqa⟩
namespace Sp
def tf (rt : Dt) (b : Int) (i : Nat) : Int := if before rt i <= b then 1 else 0
end Sp
noncomputable def T17 : Tab Tryz.prog := ⟨[Xdk, Xdl], [], []⟩
def Xpl [InW] (e : List Ed) (K : Nat -> List Ed -> Prop) : Prop := match e with
 | [.ro _ xs, .i n, .i i, .i b] => Pre (n = (xs.xs.length : Int) /\ 0 <= i /\ i <= n) (Vif (Sp.hasE (Sp.tf xs.xs b) i.toNat (xs.xs.length - i.toNat)) (K 1 [.i (Sp.idxE (Sp.tf xs.xs b) i.toNat (xs.xs.length - i.toNat)), .i b]) (K 0 [.i b]))
 | _ => False
noncomputable def Xq1 : LC where
 len := 19
 T := [(0, .rs Jc), (1, (.fn (.func 88) [] [(.ptr 1 0)])), (7, .int .i64), (8, .int .i64)]
 H := [(1, .blk 3 [.int .i64])]
 W := ([4, 5] ++ rgg 9 10)
 outs := [⟨.exit 0, [(1, (.fn (.func 88) [] [(.ptr 1 0)]))], [(1, .blk 3 [.int .i64])], ([0, 4, 5] ++ rgg 7 12)⟩, ⟨.ret, [(1, (.fn (.func 88) [] [(.ptr 1 0)])), (4, .int .i64)], [(1, .blk 3 [.int .i64])], ([0, 5] ++ rgg 7 12)⟩]
 spec := Xpl
def Xoi [W : InW] (xs : Ro Jc) (n i b : Int) (A : List Ed -> Prop) (K : Nat -> List Ed -> Prop) : Prop :=
 Vif (decide (i < n)) (Need (decide (0 <= i) && decide (i < (↑(xs.xs.length) : Int))) (Need (decide (i.toNat < xs.xs.length)) (Vif (decide ((cel xs.xs i.toNat (0 : Nat)).int <= b)) (K (0+1) [.i i, .i b]) (Ar .i64 (i + 1) fun z => A [.ro _ xs, .i n, .i z, .i b])))) (K 0 [.i b])
theorem Xuy (W : InW) (xs n i b A K) : Ye9 { cxT Tryz.prog TT T17 1000 50 with fn := 87 } 1000 (Ynh Tryz.prog 87 3) (Ydy 19 [(0, .rs _ xs), (1, .fn (.func 88) [] [.ptr 1 0]), (7, .si .i64 n), (8, .si .i64 i)] ([4, 5] ++ rgg 9 10)) [(1, .blk 3 [.si .i64 b])] (Yth Xq1 A K) = Xoi xs n i b A K := by kernel_rfl
def Xnn : Prop := ∀ (W : InW) (body a : Code), (Tryz.prog.funcs[87]?).bind (·.body) = some body -> a ∈ Yw body -> Yfu a = 3 -> @Yma W Tryz.prog a (@Ysp W Xq1)
theorem Xvh (meas : [InW] -> List Ed -> Nat) (hyp_ : ∀ (W : InW) xs n i b K, Xpl [.ro _ xs, .i n, .i i, .i b] K -> ∀ A : List Ed -> Prop, (∀ e, meas e < meas [.ro _ xs, .i n, .i i, .i b] -> Xpl e K -> A e) -> Xoi xs n i b A K) : Xnn :=
 LE.okOf' (fun W => @TT W) (fun W => @Xb W) Xa T17 1000 50 (by kernel_rfl) Xq1 (fun W => @meas W) fun W xs n i b K hs =>
  (Xuy W xs n i b (fun e => meas e < meas [.ro _ xs, .i n, .i i, .i b] /\ Xpl e K) K).mpr (hyp_ W xs n i b K hs _ fun e h1 h2 => ⟨h1, h2⟩)
theorem okLbf : Xnn := Xvh (fun e => match e with | _ :: .i n :: .i i :: _ => (n - i).toNat | _ => 0) fun W xs n i b K hs A hA => by
 obtain ⟨⟨rfl, h0, h1⟩, hk⟩ := hs;unfold Xoi;have hm := xs.len;simp only [maxLen] at hm;refine vifd (fun e => ?_) fun e => ?_
 ·rw [show xs.xs.length - i.toNat = (xs.xs.length - (i.toNat + 1)) + 1 by omega] at hk;obtain ⟨g1, g2⟩ := Xhg (K1 := fun j e => K 1 [.i j, .i b]) hk;rw [Int.toNat_of_nonneg h0] at g1;refine ned (by simp; omega) (nedd (by omega) (vifd (fun e2 => g1 ?_) fun e2 => ar64 (by omega) (hA _ ?_ ?_)))
  ·simp [Sp.tf, Sp.before, e2]
  ·show ((xs.xs.length : Int) - (i + 1)).toNat < ((xs.xs.length : Int) - i).toNat
   omega
  ·refine ⟨⟨rfl, by omega, by omega⟩, ?_⟩;rw [show (i + 1).toNat = i.toNat + 1 by omega];exact g2 (by unfold Sp.tf Sp.before; rw [if_neg e2])
 ·rw [show xs.xs.length - i.toNat = 0 by omega] at hk;exact hk.2 rfl
theorem Xgv (f : Nat -> Int) : ∀ (n i : Nat), Sp.hasE f i (n + 1) = (Sp.hasE f i n || !decide (f (i + n) = 0))
 | 0, i => by simp [Sp.hasE]
 | n + 1, i => by
  have := Xgv f n (i + 1);rw [Sp.hasE, this, Sp.hasE, show i + 1 + n = i + (n + 1) by omega, Bool.or_assoc]
theorem Xgu (f : Nat -> Int) : ∀ (n i : Nat), Sp.idxE f i (n + 1) = if Sp.hasE f i n = true then Sp.idxE f i n else if f (i + n) = 0 then i + n + 1 else i + n
 | 0, i => by simp [Sp.idxE, Sp.hasE]
 | n + 1, i => by
  have := Xgu f n (i + 1);rw [Sp.idxE, this, Sp.hasE, Sp.idxE, show i + 1 + n = i + (n + 1) by omega]
  by_cases h : f i = 0
  ·simp only [h, if_true, decide_true, Bool.not_true, Bool.false_or]
  ·simp [h]
theorem Xej (rt : Dt) (b : Int) : ∀ (n : Nat) (p : Int), Sp.part rt b n p = if Sp.hasE (Sp.tf rt b) 0 n = true then Sp.feeOf rt (Sp.idxE (Sp.tf rt b) 0 n) else p
 | 0, p => by simp [Sp.part, Sp.hasE]
 | n + 1, p => by
  rw [Sp.part, Xej rt b n, Xgv, Xgu]
  by_cases h : Sp.hasE (Sp.tf rt b) 0 n = true
  ·simp [h]
  ·simp only [h, Nat.zero_add, Bool.false_or, Sp.tf]
   by_cases h2 : Sp.before rt n <= b <;> simp [h2]
noncomputable def le_bf : LE Tryz.prog := ⟨87, 3, fun W => @Ysp W Xq1, okLbf⟩
noncomputable def T18 : Tab Tryz.prog := ⟨T17.pcs, [le_bf], []⟩
def Zba [W : InW] (s_Terms : Ro Jc) (before : Int) := (↑(Sp.idxE (Sp.tf s_Terms.xs before) Zu (s_Terms.xs.length - Int.toNat Ze)) : Int)
def Zbb [W : InW] (s_Price hours : Int) (Q : DS -> Prop) := Ar .i64 (hours * s_Price) fun z => Ar .i64 (z * 1000) fun z => Ar .i64 (z + 1000) fun z => Ar .i64 (z - 1) fun z => Ar .i64 (z.tdiv (1000 : Int)) fun z => Q [[Cl.i z]]
def Xh4 [W : InW] (s_Learners : Ro Jd) (s_Cars : Ro Ivs) (s_Price s_Excess s_Lo s_Hi : Int) (s_Terms : Ro Jc) (hours before : Int) (Q : DS -> Prop) : Prop :=
 Pre ((↑(s_Terms.xs.length) : Int) = (↑(s_Terms.xs.length) : Int) /\ Ze <= 0 /\ Ze <= (↑(s_Terms.xs.length) : Int)) (Vif (Sp.hasE (Sp.tf s_Terms.xs before) Zu (s_Terms.xs.length - Int.toNat Ze)) (Vif (decide (Ze <= (Zba s_Terms before))) (Need (decide (Ze <= (Zba s_Terms before)) && decide ((Zba s_Terms before) < (↑(s_Terms.xs.length) : Int))) (Need (decide ((Zba s_Terms before).toNat < s_Terms.xs.length)) (Ar .i64 (hours * s_Price) fun z => Ar .i64 (z * (cel s_Terms.xs (Zba s_Terms before).toNat (0+1)).int) fun z => Ar .i64 (z + 1000) fun z => Ar .i64 (z - 1) fun z => Ar .i64 (z.tdiv (1000 : Int)) fun z => Q [[Cl.i z]]))) (Zbb s_Price hours Q)) (Zbb s_Price hours Q))
theorem Xst (W : InW) (s_Learners s_Cars s_Price s_Excess s_Lo s_Hi s_Terms hours before Q) : Yvp (cxT Tryz.prog TT T18 1000 50) 1000 62 [.agg [.rs _ s_Learners, .rs _ s_Cars, .si .i64 s_Price, .si .i64 s_Excess, .si .i64 s_Lo, .si .i64 s_Hi, .rs _ s_Terms], .si .i64 hours, .si .i64 before] [] 0 (Yzq [(false, [.int .i64])] Q) (fun _ _ _ _ => Stuck 421) = Xh4 s_Learners s_Cars s_Price s_Excess s_Lo s_Hi s_Terms hours before Q := by kernel_rfl
abbrev Xfm : List AT := [.agg [.sl Jd, .sl Ivs, .int .i64, .int .i64, .int .i64, .int .i64, .sl Jc], .one (.int .i64), .one (.int .i64)]
theorem Xtz {pre : DS -> Prop} {res : DS -> DS} (hyp_ : ∀ (W : InW) (s_Learners : Ro Jd) (s_Cars : Ro Ivs) (s_Price s_Excess s_Lo s_Hi : Int) (s_Terms : Ro Jc) (hours before : Int), pre [[.l s_Learners.xs, .l s_Cars.xs, .i s_Price, .i s_Excess, .i s_Lo, .i s_Hi, .l s_Terms.xs], [.i hours], [.i before]] -> ∀ Q : DS -> Prop, Q (res [[.l s_Learners.xs, .l s_Cars.xs, .i s_Price, .i s_Excess, .i s_Lo, .i s_Hi, .l s_Terms.xs], [.i hours], [.i before]]) -> Xh4 s_Learners s_Cars s_Price s_Excess s_Lo s_Hi s_Terms hours before Q) : PureOk Tryz.prog 62 Xfm [(false, [.int .i64])] pre res :=
 PureOk.of' (fun W => @TT W) (fun W => @Xb W) Xa T18 1000 50 fun W s_Learners s_Cars s_Price s_Excess s_Lo s_Hi s_Terms hours before hp =>
  (Xst W s_Learners s_Cars s_Price s_Excess s_Lo s_Hi s_Terms hours before (fun o => o = res [[.l s_Learners.xs, .l s_Cars.xs, .i s_Price, .i s_Excess, .i s_Lo, .i s_Hi, .l s_Terms.xs], [.i hours], [.i before]])).mpr (hyp_ W s_Learners s_Cars s_Price s_Excess s_Lo s_Hi s_Terms hours before hp _ rfl)
theorem Xnu [InW] {hours pr q : Int} {Q : DS -> Prop} (h1 : 0 <= hours) (h2 : hours <= 100000) (h3 : 0 <= pr) (h4 : pr <= 10000) (hq : 0 <= q /\ q <= 1000) (h : Q [[.i ((hours * pr * q + 999).tdiv 1000)]]) :
  Ar IntKind.i64 (hours * pr) fun z => Ar IntKind.i64 (z * q) fun z => Ar IntKind.i64 (z + 1000) fun z => Ar IntKind.i64 (z - 1) fun z => Ar IntKind.i64 (z.tdiv 1000) fun z => Q [[Cl.i z]] := by
 have m1 : 0 <= hours * pr /\ hours * pr <= 100000 * 10000 := ⟨Int.mul_nonneg h1 h3, Int.mul_le_mul h2 h4 h3 (by omega)⟩;have m2 : 0 <= hours * pr * q /\ hours * pr * q <= 100000 * 10000 * 1000 := ⟨Int.mul_nonneg m1.1 hq.1, Int.mul_le_mul m1.2 hq.2 hq.1 (by omega)⟩;have e : hours * pr * q + 1000 - 1 = hours * pr * q + 999 := by omega
 have m3 : 0 <= (hours * pr * q + 999).tdiv 1000 /\ (hours * pr * q + 999).tdiv 1000 <= 100000 * 10000 * 1000 := by
  rw [Int.tdiv_eq_ediv_of_nonneg (by omega)]; omega
 refine ar64 (by omega) (ar64 (by omega) (ar64 (by omega) (ar64 (by omega) ?_)));rw [e];exact ar64 (by omega) h
theorem Xns {f : Nat -> Int} : ∀ {n i : Nat}, Sp.hasE f i n = true -> Sp.idxE f i n < i + n
 | 0, i, h => by simp [Sp.hasE] at h
 | n + 1, i, h => by
  rw [Sp.idxE]
  by_cases e : f i = 0
  ·rw [if_pos e];have := Xns (f := f) (n := n) (i := i + 1) (by simpa [Sp.hasE, e] using h);omega
  ·rw [if_neg e]; omega
theorem Xvj : PureOk Tryz.prog 62 Xfm [(false, [.int .i64])] Xmp Xhk :=
 Xtz fun W rl rc pr ex lo hi rt hours before hp Q h => by
  obtain ⟨h1, h2, h3, h4, h5⟩ := hp;unfold Xh4;delta Zba Zu Zbb Ze;simp only [Xhk, Sp.fee] at h;rw [Xej] at h;rw [show Int.toNat 0 = 0 from rfl, Nat.sub_zero];refine ⟨⟨rfl, by omega, by omega⟩, vif (fun e => ?_) fun e => ?_⟩
  ·rw [if_pos e] at h;have hl := Xns e;have hf := h5 (Sp.idxE (Sp.tf rt.xs before) 0 rt.xs.length) (by omega);generalize Sp.idxE (Sp.tf rt.xs before) 0 rt.xs.length = j at *;rw [Int.toNat_natCast];exact vifd (fun _ => ned (by simp; omega) (nedd (by omega) (Xnu h1 h2 h3 h4 hf h))) fun e2 => absurd (by omega) e2
  ·rw [if_neg (by simp [e])] at h;exact Xnu h1 h2 h3 h4 (by omega) h
noncomputable def Xhm : PC Tryz.prog := ⟨62, Xfm, [(false, [.int .i64])], Xmp, Xhk, Xvj⟩
namespace Sp
def way (ls : Dt) (i : Nat) (l c s h : Int) : Bool :=
 if (cel ls i 4).int = 0 then (if (cel ls i 0).int = l \/ (cel ls i 1).int = c then !apart (cel ls i 2).int (cel ls i 3).int s h else false) else false
def blocked (ls : Dt) (but l c s h : Int) : Nat -> Nat -> Bool
 | _, 0 => false
 | i, n + 1 => (if (i : Int) = but then false else way ls i l c s h) || blocked ls but l c s h (i + 1) n
end Sp
abbrev I5 : List Ty := [.int .i64, .int .i64, .int .i64, .int .i64, .int .i64]
namespace Sp
def kms (rc : Dt) : Nat -> Nat -> Dt
 | _, 0 => []
 | i, n + 1 => [.i (cel rc i 1).int] :: kms rc (i + 1) n
end Sp
def rfIn : Code -> List LI
 | .seq a b => rfIn a ++ rfIn b
 | .cond _ a b => rfIn a ++ rfIn b
 | .block _ a => rfIn a
 | .loop a => rfIn a
 | .scope a => rfIn a
 | .rangeFunc _ ps asg b => ⟨.ready, none, ps, asg, b⟩ :: rfIn b
 | _ => []
def lpAt (P : Program) (g : FuncId) (k : Nat) : LI := (rfIn (Yjt P g)).getD k ⟨.ready, none, #[], .skip, .skip⟩
def LI.left (L : LI) (j : Code) : LI := { L with st := .done, pend := some j }
namespace Sp
def dryB (rc : Dt) (es : List (Int × Int)) (car hour : Int) : Bool := decide (andI .i64 (cel rc car.toNat 3).int (getI es (hour.tdiv 24)) = 0)
end Sp
noncomputable def TP0 : Tab Tryz.prog := ⟨[], [], []⟩
def Xmi [InW] (e : List Ed) (K : Nat -> List Ed -> Prop) : Prop := match e with
 | [.i car, .i hour, .ro _ rc, .m es] => Pre (0 <= car /\ car < (rc.xs.length : Int) /\ 0 <= hour /\ Sp.Small hour) (K 0 [.b (Sp.dryB rc.xs es car hour), .ro _ rc, .m es])
 | _ => False
noncomputable def Xca : CC where
 g := 90
 args := [(.ptr 1 0), .int .i64, .int .i64]
 H := [(1, .blk 63 [(.opq 22), .rs Ivs, (.opq 25), (.opq 28), (.opq 31), (.opq 34), (.opq 37), (.opq 40), (.opq 43), (.opq 46), (.opq 49), (.mp 16), (.opq 52), (.opq 55), (.opq 58)]), (16, .mpI)]
 outs := [⟨false, .bool, [(1, .blk 63 [(.opq 22), .rs Ivs, (.opq 25), (.opq 28), (.opq 31), (.opq 34), (.opq 37), (.opq 40), (.opq 43), (.opq 46), (.opq 49), (.mp 16), (.opq 52), (.opq 55), (.opq 58)]), (16, .mpI)], false⟩]
 spec := Xmi
def Xf5 [W : InW] (car hour : Int) (rc : Ro Ivs) (es : List (Int × Int)) (K : Nat -> List Ed -> Prop) : Prop :=
 Need (decide (0 <= car) && decide (car < (↑(rc.xs.length) : Int))) (Need (decide (car.toNat < rc.xs.length)) (Ar .i64 (hour.tdiv (24 : Int)) fun z => K 0 [.b (decide (andI IntKind.i64 (cel rc.xs car.toNat (2+1)).int (getI es z) = 0)), .ro _ rc, .m es]))
theorem Xow (W : InW) (car hour rc es K) : Yvm (cxT Tryz.prog TT TP0 1000 50) 1000 90 [.ptr 1 0, .si .i64 car, .si .i64 hour] [(1, .blk 63 [.opq 22, .rs _ rc, .opq 25, .opq 28, .opq 31, .opq 34, .opq 37, .opq 40, .opq 43, .opq 46, .opq 49, .mp 16, .opq 52, .opq 55, .opq 58]), (16, .obj (.mpI es))] (fun v h => outC Xca.H [.ro _ rc, .m es] Xca.outs 0 false v h K) (fun v h => outC Xca.H [.ro _ rc, .m es] Xca.outs 0 true v h K) = Xf5 car hour rc es K := by kernel_rfl
theorem Xp8 (hyp_ : ∀ (W : InW) car hour rc es K, Xmi [.i car, .i hour, .ro _ rc, .m es] K -> Xf5 car hour rc es K) : ∀ W : InW, @CallC W Tryz.prog Xca :=
 CC.okOf (fun W => @TT W) (fun W => @Xb W) Xa TP0 1000 50 Xca fun W car hour rc es K hs => (Xow W car hour rc es K).mpr (hyp_ W car hour rc es K hs)
theorem Xvi : ∀ W : InW, @CallC W Tryz.prog Xca := Xp8 fun W car hour rc es K hs => by
 obtain ⟨⟨h1, h2, h3, h4⟩, hk⟩ := hs;unfold Xf5;simp only [Sp.Small] at h4;have h5 : 0 <= hour.tdiv 24 /\ hour.tdiv 24 <= hour := by rw [Int.tdiv_eq_ediv_of_nonneg h3]; omega
 exact ned (by simp; omega) (nedd (by omega) (ar64 (by omega) hk))
noncomputable def Xhw : CE Tryz.prog := ceOf Xca Xvi
noncomputable abbrev Xcp : LI := lpAt Tryz.prog 91 0
noncomputable abbrev Xha : LI := (lpAt Tryz.prog 91 0).left .ret
def Xeu [InW] (e : List Ed) (K : Nat -> List Ed -> Prop) : Prop := match e with
 | [.i n, .i i, .l ls, .i but, .i l, .i c, .i s, .i h, .i st] => Pre (n = (ls.length : Int) /\ 0 <= i /\ i <= n /\ n <= 1000 /\ Sp.Small s /\ Sp.Small h /\ ∀ j, Sp.Small (cel ls j 2).int /\ Sp.Small (cel ls j 3).int)
   (Vif (Sp.blocked ls but l c s h i.toNat (ls.length - i.toNat)) (K 1 [.l ls, .i but, .i l, .i c, .i s, .i h, .i st]) (K 0 [.l ls, .i but, .i l, .i c, .i s, .i h, .i st]))
 | _ => False
noncomputable def Xe6 : LC where
 len := 26
 T := [(0, (.yl 1)), (9, (.row 4)), (10, .int .i64), (11, .int .i64)]
 H := [(1, .lp Xcp [(.opq 1501), (.opq 1504), (.opq 1507), (.opq 1510), (.ptr 10 0), (.opq 1516), (.ptr 13 0), (.ptr 19 0), (.ptr 22 0), (.opq 324), (.opq 1531), (.opq 1534), (.opq 1537), (.opq 1540), (.opq 339), (.opq 342), (.opq 345), (.opq 348), (.opq 351), (.opq 354), (.opq 357), (.opq 360), (.opq 363), (.opq 366), (.opq 369), (.opq 372), (.opq 375), (.opq 378), (.opq 381)]), (4, .arr 51 Iv5), (10, .blk 57 [(.ptr 28 0)]), (28, .blk 63 [(.opq 1021), (.opq 1060), (.opq 1024), (.opq 1027), (.opq 1030), (.opq 1033), (.opq 1036), (.row 4), (.opq 1042), (.opq 1045), (.opq 1048), (.opq 1063), (.opq 1051), (.opq 1054), (.opq 1057)]), (13, .blk 3 [.int .i64]), (19, .blk 4 [(.lit (.bool false))]), (22, .blk 168 [(.fn (.func 110) [] [(.ptr 31 0)])]), (31, .blk 51 [.int .i64, .int .i64, .int .i64, .int .i64, .int .i64])]
 W := ([3, 4] ++ rgg 12 14)
 outs := [⟨.exit 0, [], [(1, .lp Xcp [(.opq 1501), (.opq 1504), (.opq 1507), (.opq 1510), (.ptr 10 0), (.opq 1516), (.ptr 13 0), (.ptr 19 0), (.ptr 22 0), (.opq 624), (.opq 1531), (.opq 1534), (.opq 1537), (.opq 1540), (.opq 639), (.opq 642), (.opq 645), (.opq 648), (.opq 651), (.opq 654), (.opq 657), (.opq 660), (.opq 663), (.opq 666), (.opq 669), (.opq 672), (.opq 675), (.opq 678), (.opq 681)]), (624, .dead), (639, .dead), (642, .dead), (645, .dead), (648, .dead), (651, .dead), (654, .dead), (657, .dead), (660, .dead), (663, .dead), (666, .dead), (669, .dead), (672, .dead), (675, .dead), (678, .dead), (681, .dead), (4, .arr 51 Iv5), (10, .blk 57 [(.ptr 28 0)]), (28, .blk 63 [(.opq 1021), (.opq 1060), (.opq 1024), (.opq 1027), (.opq 1030), (.opq 1033), (.opq 1036), (.row 4), (.opq 1042), (.opq 1045), (.opq 1048), (.opq 1063), (.opq 1051), (.opq 1054), (.opq 1057)]), (13, .blk 3 [.int .i64]), (19, .blk 4 [(.lit (.bool false))]), (22, .blk 168 [(.fn (.func 110) [] [(.ptr 31 0)])]), (31, .blk 51 [.int .i64, .int .i64, .int .i64, .int .i64, .int .i64])], ([0, 3, 4] ++ rgg 9 17)⟩, ⟨.ret, [], [(1, .lp Xha [(.opq 1501), (.opq 1504), (.opq 1507), (.opq 1510), (.ptr 10 0), (.opq 1516), (.ptr 13 0), (.ptr 19 0), (.ptr 22 0), (.opq 624), (.opq 1531), (.opq 1534), (.opq 1537), (.opq 1540), (.opq 639), (.opq 642), (.opq 645), (.opq 648), (.opq 651), (.opq 654), (.opq 657), (.opq 660), (.opq 663), (.opq 666), (.opq 669), (.opq 672), (.opq 675), (.opq 678), (.opq 681)]), (624, .dead), (639, .dead), (642, .dead), (645, .dead), (648, .dead), (651, .dead), (654, .dead), (657, .dead), (660, .dead), (663, .dead), (666, .dead), (669, .dead), (672, .dead), (675, .dead), (678, .dead), (681, .dead), (4, .arr 51 Iv5), (10, .blk 57 [(.ptr 28 0)]), (28, .blk 63 [(.opq 1021), (.opq 1060), (.opq 1024), (.opq 1027), (.opq 1030), (.opq 1033), (.opq 1036), (.row 4), (.opq 1042), (.opq 1045), (.opq 1048), (.opq 1063), (.opq 1051), (.opq 1054), (.opq 1057)]), (13, .blk 3 [.int .i64]), (19, .blk 4 [(.lit (.bool false))]), (22, .blk 168 [(.fn (.func 110) [] [(.ptr 31 0)])]), (31, .blk 51 [.int .i64, .int .i64, .int .i64, .int .i64, .int .i64])], ([0, 3, 4] ++ rgg 9 17)⟩]
 spec := Xeu
def Zbc [W : InW] (n i : Int) (ls : Dt) (but l c s h st : Int) (A : List Ed -> Prop) := Ar .i64 (i + 1) fun z => PreL Xcp Xcp (A [.i n, .i z, .l ls, .i but, .i l, .i c, .i s, .i h, .i st])
def Zbd [W : InW] (n i : Int) (ls : Dt) (but l c s h st : Int) (A : List Ed -> Prop) (K : Nat -> List Ed -> Prop) := Ar .i64 (s + h) fun z => Vif (decide ((cel ls i.toNat (Zh + 1 + 1)).int < z)) (Ar .i64 ((cel ls i.toNat (Zh + 1 + 1)).int + (cel ls i.toNat (Zh + 1 + 1 + 1)).int) fun z => Vif (decide (s < z)) (PreL Xha Xha (K (0+1) [.l ls, .i but, .i l, .i c, .i s, .i h, .i st])) (Zbc n i ls but l c s h st A)) (Zbc n i ls but l c s h st A)
def Xfx [W : InW] (n i : Int) (ls : Dt) (but l c s h st : Int) (A : List Ed -> Prop) (K : Nat -> List Ed -> Prop) : Prop :=
 Vif (decide (i < n)) (Need (decide (0 <= i) && decide (i < (↑(ls.length) : Int))) (Need (decide (i.toNat < ls.length)) (Vif (decide ((cel ls i.toNat (Zh + 1 + 1 + 1 + 1)).int = 0)) (Vif (!decide (i = but)) (Need (decide (0 <= i) && decide (i < (↑(ls.length) : Int))) (Need (decide (i.toNat < ls.length)) (Vif (decide ((cel ls i.toNat Zh).int = l)) (Zbd n i ls but l c s h st A K) (Vif (decide ((cel ls i.toNat (0+1)).int = c)) (Zbd n i ls but l c s h st A K) (Zbc n i ls but l c s h st A))))) (Zbc n i ls but l c s h st A)) (Zbc n i ls but l c s h st A)))) (PreL Xcp Xcp (K 0 [.l ls, .i but, .i l, .i c, .i s, .i h, .i st]))
theorem Xoo (W : InW) (n i ls but l c s h st A K) : Ye9 { cxT Tryz.prog TT TP0 1000 50 with fn := 125 } 1000 (Ynh Tryz.prog 125 2) (Ydy 26 [(0, .yl 1), (9, .rw 4), (10, .si .i64 n), (11, .si .i64 i)] ([3, 4] ++ rgg 12 14)) [(1, .lp Xcp [.opq 1501, .opq 1504, .opq 1507, .opq 1510, .ptr 10 0, .opq 1516, .ptr 13 0, .ptr 19 0, .ptr 22 0, .opq 324, .opq 1531, .opq 1534, .opq 1537, .opq 1540, .opq 339, .opq 342, .opq 345, .opq 348, .opq 351, .opq 354, .opq 357, .opq 360, .opq 363, .opq 366, .opq 369, .opq 372, .opq 375, .opq 378, .opq 381]), (4, .arr 51 Iv5 ls), (10, .blk 57 [.ptr 28 0]), (28, .blk 63 [.opq 1021, .opq 1060, .opq 1024, .opq 1027, .opq 1030, .opq 1033, .opq 1036, .rw 4, .opq 1042, .opq 1045, .opq 1048, .opq 1063, .opq 1051, .opq 1054, .opq 1057]), (13, .blk 3 [.si .i64 but]), (19, .blk 4 [.v (.bool false)]), (22, .blk 168 [.fn (.func 110) [] [.ptr 31 0]]), (31, .blk 51 [.si .i64 l, .si .i64 c, .si .i64 s, .si .i64 h, .si .i64 st])] (Yth Xe6 A K) = Xfx n i ls but l c s h st A K := by kernel_rfl
def Xgn : Prop := ∀ (W : InW) (body a : Code), (Tryz.prog.funcs[125]?).bind (·.body) = some body -> a ∈ Yw body -> Yfu a = 2 -> @Yma W Tryz.prog a (@Ysp W Xe6)
theorem Xpz (meas : [InW] -> List Ed -> Nat) (hyp_ : ∀ (W : InW) n i ls but l c s h st K, Xeu [.i n, .i i, .l ls, .i but, .i l, .i c, .i s, .i h, .i st] K -> ∀ A : List Ed -> Prop, (∀ e, meas e < meas [.i n, .i i, .l ls, .i but, .i l, .i c, .i s, .i h, .i st] -> Xeu e K -> A e) -> Xfx n i ls but l c s h st A K) : Xgn :=
 LE.okOf' (fun W => @TT W) (fun W => @Xb W) Xa TP0 1000 50 (by kernel_rfl) Xe6 (fun W => @meas W) fun W n i ls but l c s h st K hs =>
  (Xoo W n i ls but l c s h st (fun e => meas e < meas [.i n, .i i, .l ls, .i but, .i l, .i c, .i s, .i h, .i st] /\ Xeu e K) K).mpr (hyp_ W n i ls but l c s h st K hs _ fun e h1 h2 => ⟨h1, h2⟩)
theorem Xt6 : Xgn := Xpz (fun e => match e with | .i n :: .i i :: _ => (n - i).toNat | _ => 0) fun W n i ls but l c s h st K hs A hA => by
 obtain ⟨⟨rfl, h0, h1, hm, h2, h3, h4⟩, hk⟩ := hs;unfold Xfx;delta Zbd Zbc Zh;simp only [Nat.zero_add, Nat.reduceAdd];refine vifd (fun e => ?_) fun e => ?_
 ·rw [show ls.length - i.toNat = (ls.length - (i.toNat + 1)) + 1 by omega] at hk;rw [Sp.blocked, Int.toNat_of_nonneg h0] at hk;have again : (if i = but then false else Sp.way ls i.toNat l c s h) = false -> A [.i (ls.length : Int), .i (i + 1), .l ls, .i but, .i l, .i c, .i s, .i h, .i st] := fun f => hA _ (by show ((ls.length : Int) - (i + 1)).toNat < ((ls.length : Int) - i).toNat; omega) ⟨⟨rfl, by omega, by omega, hm, h2, h3, h4⟩, by
   rw [show (i + 1).toNat = i.toNat + 1 by omega];rw [f, Bool.false_or] at hk;exact hk⟩
  have stop : (if i = but then false else Sp.way ls i.toNat l c s h) = true -> K 1 [.l ls, .i but, .i l, .i c, .i s, .i h, .i st] := fun f => hk.1 (by rw [f]; rfl);clear hk hA;have hx := h4 i.toNat;simp only [Sp.Small] at hx h2 h3;have next : (if i = but then false else Sp.way ls i.toNat l c s h) = false -> Ar IntKind.i64 (i + 1) fun z => PreL Xcp Xcp (A [.i (ls.length : Int), .i z, .l ls, .i but, .i l, .i c, .i s, .i h, .i st]) := fun f => ar64 (by omega) ⟨rfl, again f⟩
  unfold Sp.way Sp.apart at next stop
  have test : ∀ hc : (cel ls i.toNat 0).int = l \/ (cel ls i.toNat 1).int = c, (cel ls i.toNat 4).int = 0 -> ¬ i = but -> Ar IntKind.i64 (s + h) fun z => Vif (decide ((cel ls i.toNat 2).int < z)) (Ar IntKind.i64 ((cel ls i.toNat 2).int + (cel ls i.toNat 3).int) fun z => Vif (decide (s < z)) (PreL Xha Xha (K 1 [.l ls, .i but, .i l, .i c, .i s, .i h, .i st])) (Ar IntKind.i64 (i + 1) fun z => PreL Xcp Xcp (A [.i (ls.length : Int), .i z, .l ls, .i but, .i l, .i c, .i s, .i h, .i st]))) (Ar IntKind.i64 (i + 1) fun z => PreL Xcp Xcp (A [.i (ls.length : Int), .i z, .l ls, .i but, .i l, .i c, .i s, .i h, .i st])) := fun hc hs hb => by
   rw [if_neg hb, if_pos hs, if_pos hc] at next stop
   refine ar64 (by omega) (vifd (fun e1 => ar64 (by omega) (vifd (fun e2 => ⟨rfl, stop ?_⟩) fun e2 => next ?_)) fun e1 => next ?_)
   ·simp; omega
   ·simp; omega
   ·simp; omega
  refine ned (by simp; omega) (nedd (by omega) (vifd (fun e1 => vif (fun e2 => ?_) fun e2 => next (if_pos (by simpa using e2))) fun e1 => next ?_))
  ·have hb : ¬ i = but := by simpa using e2
   refine ned (by simp; omega) (nedd (by omega) (vifd (fun e3 => test (.inl e3) e1 hb) fun e3 => vifd (fun e4 => test (.inr e4) e1 hb) fun e4 => next ?_));rw [if_neg hb, if_pos e1, if_neg (fun hh => hh.elim e3 e4)]
  ·rw [if_neg e1]; split <;> rfl
 ·rw [show ls.length - i.toNat = 0 by omega] at hk;exact ⟨rfl, hk.2 rfl⟩
noncomputable def Xuj : LE Tryz.prog := ⟨125, 2, fun W => @Ysp W Xe6, Xt6⟩
noncomputable def TP1 : Tab Tryz.prog := ⟨[], [Xuj], []⟩
def Xef [InW] (e : List Ed) (K : Nat -> List Ed -> Prop) : Prop := match e with
 | [.i l, .i c, .i s, .i h, .i st, .i but, .l ls] => Pre ((ls.length : Int) <= 1000 /\ Sp.Small s /\ Sp.Small h /\ ∀ j, Sp.Small (cel ls j 2).int /\ Sp.Small (cel ls j 3).int) (K 0 [.b (!Sp.blocked ls but l c s h 0 ls.length), .l ls])
 | _ => False
noncomputable def Xo : CC where
 g := 91
 args := [(.ptr 1 0), .agg [.int .i64, .int .i64, .int .i64, .int .i64, .int .i64], .int .i64]
 H := [(1, .blk 63 [(.opq 1021), (.opq 1060), (.opq 1024), (.opq 1027), (.opq 1030), (.opq 1033), (.opq 1036), (.row 4), (.opq 1042), (.opq 1045), (.opq 1048), (.opq 1063), (.opq 1051), (.opq 1054), (.opq 1057)]), (4, .arr 51 Iv5)]
 outs := [⟨false, .bool, [(1, .blk 63 [(.opq 1021), (.opq 1060), (.opq 1024), (.opq 1027), (.opq 1030), (.opq 1033), (.opq 1036), (.row 4), (.opq 1042), (.opq 1045), (.opq 1048), (.opq 1063), (.opq 1051), (.opq 1054), (.opq 1057)]), (4, .arr 51 Iv5)], false⟩]
 spec := Xef
def Xcn [W : InW] (l c s h st but : Int) (ls : Dt) (K : Nat -> List Ed -> Prop) : Prop :=
 PreL Xcp Xcp (Pre ((↑(ls.length) : Int) = (↑(ls.length) : Int) /\ Ze <= 0 /\ Ze <= (↑(ls.length) : Int) /\ (↑(ls.length) : Int) <= 1000 /\ Sp.Small s /\ Sp.Small h /\ ∀ (j : Nat), Sp.Small (cel ls j (2 : Nat)).int /\ Sp.Small (cel ls j (3 : Nat)).int) (Vif (Sp.blocked ls but l c s h (Int.toNat Ze) (ls.length - Int.toNat Ze)) (K 0 [.b false, .l ls]) (K 0 [.b true, .l ls])))
theorem Xhe (W : InW) (l c s h st but ls K) : Yvm (cxT Tryz.prog TT TP1 1000 50) 1000 91 [.ptr 1 0, .agg [.si .i64 l, .si .i64 c, .si .i64 s, .si .i64 h, .si .i64 st], .si .i64 but] [(1, .blk 63 [.opq 1021, .opq 1060, .opq 1024, .opq 1027, .opq 1030, .opq 1033, .opq 1036, .rw 4, .opq 1042, .opq 1045, .opq 1048, .opq 1063, .opq 1051, .opq 1054, .opq 1057]), (4, .arr 51 Iv5 ls)] (fun v h => outC Xo.H [.l ls] Xo.outs 0 false v h K) (fun v h => outC Xo.H [.l ls] Xo.outs 0 true v h K) = Xcn l c s h st but ls K := by kernel_rfl
theorem Xhq (hyp_ : ∀ (W : InW) l c s h st but ls K, Xef [.i l, .i c, .i s, .i h, .i st, .i but, .l ls] K -> Xcn l c s h st but ls K) : ∀ W : InW, @CallC W Tryz.prog Xo :=
 CC.okOf (fun W => @TT W) (fun W => @Xb W) Xa TP1 1000 50 Xo fun W l c s h st but ls K hs => (Xhe W l c s h st but ls K).mpr (hyp_ W l c s h st but ls K hs)
theorem Xm3 : ∀ W : InW, @CallC W Tryz.prog Xo := Xhq fun W l c s h st but ls K hs => by
 obtain ⟨⟨h1, h2, h3, h4⟩, hk⟩ := hs;unfold Xcn;delta Ze;refine ⟨rfl, ⟨rfl, by omega, by omega, h1, h2, h3, h4⟩, ?_⟩;exact vif (fun e => by rw [show Int.toNat 0 = 0 from rfl, Nat.sub_zero] at e; rw [e] at hk; exact hk) fun e => by rw [show Int.toNat 0 = 0 from rfl, Nat.sub_zero] at e; rw [e] at hk; exact hk
noncomputable def Xcy : CE Tryz.prog := ceOf Xo Xm3
noncomputable def TP2 : Tab Tryz.prog := ⟨[Xdk], [], [Xhw, Xcy]⟩
namespace Sp
def canE (rl rc : Dt) (lo hi : Int) (ls : Dt) (es : List (Int × Int)) (at_ l c s h : Int) : Int :=
 if !(inr l 0 ((rl.length : Int) - 1) && inr c 0 ((rc.length : Int) - 1)) then 4
 else if !(inr h 1 4 && inr s 0 4800) then 7
 else if s <= at_ then 2
 else if !fits lo hi s h then 2
 else if !dryB rc es c s then 9
 else if blocked ls (-1) l c s h 0 ls.length then 5 else 0
structure CalmP (ls : Dt) : Prop where
 many : (ls.length : Int) <= 1000
 ls : ∀ j, Small (cel ls j 2).int /\ Small (cel ls j 3).int
end Sp
def Xrg [InW] (e : List Ed) (K : Nat -> List Ed -> Prop) : Prop := match e with
 | [.i l, .i c, .i s, .i h, .i st, .i at_, .ro _ rl, .ro _ rc, .i lo, .i hi, .l ls, .m es] => Pre (Sp.CalmP ls)
   (Vif (decide (Sp.canE rl.xs rc.xs lo hi ls es at_ l c s h = 0)) (K 0 [.ro _ rl, .ro _ rc, .i lo, .i hi, .l ls, .m es])
   (Vif (decide (Sp.canE rl.xs rc.xs lo hi ls es at_ l c s h = 4)) (K 1 [.ro _ rl, .ro _ rc, .i lo, .i hi, .l ls, .m es])
   (Vif (decide (Sp.canE rl.xs rc.xs lo hi ls es at_ l c s h = 7)) (K 2 [.ro _ rl, .ro _ rc, .i lo, .i hi, .l ls, .m es])
   (Vif (decide (Sp.canE rl.xs rc.xs lo hi ls es at_ l c s h = 2)) (K 3 [.ro _ rl, .ro _ rc, .i lo, .i hi, .l ls, .m es])
   (Vif (decide (Sp.canE rl.xs rc.xs lo hi ls es at_ l c s h = 9)) (K 4 [.ro _ rl, .ro _ rc, .i lo, .i hi, .l ls, .m es])
   (K 5 [.ro _ rl, .ro _ rc, .i lo, .i hi, .l ls, .m es]))))))
 | _ => False
noncomputable def Xda : CC where
 g := 65
 args := [(.ptr 1 0), .agg [.int .i64, .int .i64, .int .i64, .int .i64, .int .i64], .int .i64]
 H := [(1, .blk 63 [.rs Jd, .rs Ivs, (.opq 1024), (.opq 1027), .int .i64, .int .i64, (.opq 1036), (.row 4), (.opq 1042), (.opq 1045), (.opq 1048), (.mp 16), (.opq 1051), (.opq 1054), (.opq 1057)]), (4, .arr 51 Iv5), (16, .mpI)]
 outs := [⟨false, .tup [], [(1, .blk 63 [.rs Jd, .rs Ivs, (.opq 1024), (.opq 1027), .int .i64, .int .i64, (.opq 1036), (.row 4), (.opq 1042), (.opq 1045), (.opq 1048), (.mp 16), (.opq 1051), (.opq 1054), (.opq 1057)]), (4, .arr 51 Iv5), (16, .mpI)], false⟩, ⟨true, (.lit (.iface 41 (.int .i64 4))), [(1, .blk 63 [.rs Jd, .rs Ivs, (.opq 1024), (.opq 1027), .int .i64, .int .i64, (.opq 1036), (.row 4), (.opq 1042), (.opq 1045), (.opq 1048), (.mp 16), (.opq 1051), (.opq 1054), (.opq 1057)]), (4, .arr 51 Iv5), (16, .mpI)], false⟩, ⟨true, (.lit (.iface 41 (.int .i64 7))), [(1, .blk 63 [.rs Jd, .rs Ivs, (.opq 1024), (.opq 1027), .int .i64, .int .i64, (.opq 1036), (.row 4), (.opq 1042), (.opq 1045), (.opq 1048), (.mp 16), (.opq 1051), (.opq 1054), (.opq 1057)]), (4, .arr 51 Iv5), (16, .mpI)], false⟩, ⟨true, (.lit (.iface 41 (.int .i64 2))), [(1, .blk 63 [.rs Jd, .rs Ivs, (.opq 1024), (.opq 1027), .int .i64, .int .i64, (.opq 1036), (.row 4), (.opq 1042), (.opq 1045), (.opq 1048), (.mp 16), (.opq 1051), (.opq 1054), (.opq 1057)]), (4, .arr 51 Iv5), (16, .mpI)], false⟩, ⟨true, (.lit (.iface 41 (.int .i64 9))), [(1, .blk 63 [.rs Jd, .rs Ivs, (.opq 1024), (.opq 1027), .int .i64, .int .i64, (.opq 1036), (.row 4), (.opq 1042), (.opq 1045), (.opq 1048), (.mp 16), (.opq 1051), (.opq 1054), (.opq 1057)]), (4, .arr 51 Iv5), (16, .mpI)], false⟩, ⟨true, (.lit (.iface 41 (.int .i64 5))), [(1, .blk 63 [.rs Jd, .rs Ivs, (.opq 1024), (.opq 1027), .int .i64, .int .i64, (.opq 1036), (.row 4), (.opq 1042), (.opq 1045), (.opq 1048), (.mp 16), (.opq 1051), (.opq 1054), (.opq 1057)]), (4, .arr 51 Iv5), (16, .mpI)], false⟩]
 spec := Xrg
def Zbe [W : InW] (rl : Ro Jd) (rc : Ro Ivs) (lo hi : Int) (ls : Dt) (es : List (Int × Int)) : List Ed := [.ro _ rl, .ro _ rc, .i lo, .i hi, .l ls, .m es]
def Xi1 [W : InW] (l c s h st at_ : Int) (rl : Ro Jd) (rc : Ro Ivs) (lo hi : Int) (ls : Dt) (es : List (Int × Int)) (K : Nat -> List Ed -> Prop) : Prop :=
 Ar .i64 ((↑(rl.xs.length) : Int) - 1) fun z => Pre True (Vif (!Sp.out Ze z [[Cl.i l]]) (Ar .i64 ((↑(rc.xs.length) : Int) - 1) fun z => Pre True (Vif (!!Sp.out Ze z [[Cl.i c]]) (K (0+1) (Zbe rl rc lo hi ls es)) (Pre True (Vif (!Sp.out (1 : Int) (4 : Int) [[Cl.i h]]) (Pre True (Vif (!!Sp.out Ze (4800 : Int) [[Cl.i s]]) (K (Zh + 1 + 1) (Zbe rl rc lo hi ls es)) (Vif (decide (at_ < s)) (Vif (decide (lo <= s.tmod (24 : Int))) (Ar .i64 (s.tmod (24 : Int) + h) fun z => Vif (!decide (z <= hi)) (K (Zh + 1 + 1 + 1) (Zbe rl rc lo hi ls es)) (Pre (0 <= c /\ c < (↑(rc.xs.length) : Int) /\ 0 <= s /\ Sp.Small s) (Vif (!Sp.dryB rc.xs es c s) (K (Zh + 1 + 1 + 1 + 1) (Zbe rl rc lo hi ls es)) (Pre ((↑(ls.length) : Int) <= 1000 /\ Sp.Small s /\ Sp.Small h /\ ∀ (j : Nat), Sp.Small (cel ls j (2 : Nat)).int /\ Sp.Small (cel ls j (3 : Nat)).int) (Vif (!!Sp.blocked ls (-1 : Int) l c s h Zh (ls.length)) (K (Zh + 1 + 1 + 1 + 1 + 1) (Zbe rl rc lo hi ls es)) (K 0 (Zbe rl rc lo hi ls es))))))) (K (Zh + 1 + 1 + 1) (Zbe rl rc lo hi ls es))) (K (Zh + 1 + 1 + 1) (Zbe rl rc lo hi ls es))))) (K (Zh + 1 + 1) (Zbe rl rc lo hi ls es)))))) (K (0+1) (Zbe rl rc lo hi ls es)))
theorem Xsr (W : InW) (l c s h st at_ rl rc lo hi ls es K) : Yvm (cxT Tryz.prog TT TP2 1000 50) 1000 65 [.ptr 1 0, .agg [.si .i64 l, .si .i64 c, .si .i64 s, .si .i64 h, .si .i64 st], .si .i64 at_] [(1, .blk 63 [.rs _ rl, .rs _ rc, .opq 1024, .opq 1027, .si .i64 lo, .si .i64 hi, .opq 1036, .rw 4, .opq 1042, .opq 1045, .opq 1048, .mp 16, .opq 1051, .opq 1054, .opq 1057]), (4, .arr 51 Iv5 ls), (16, .obj (.mpI es))] (fun v h => outC Xda.H [.ro _ rl, .ro _ rc, .i lo, .i hi, .l ls, .m es] Xda.outs 0 false v h K) (fun v h => outC Xda.H [.ro _ rl, .ro _ rc, .i lo, .i hi, .l ls, .m es] Xda.outs 0 true v h K) = Xi1 l c s h st at_ rl rc lo hi ls es K := by kernel_rfl
theorem Xtw (hyp_ : ∀ (W : InW) l c s h st at_ rl rc lo hi ls es K, Xrg [.i l, .i c, .i s, .i h, .i st, .i at_, .ro _ rl, .ro _ rc, .i lo, .i hi, .l ls, .m es] K -> Xi1 l c s h st at_ rl rc lo hi ls es K) : ∀ W : InW, @CallC W Tryz.prog Xda :=
 CC.okOf (fun W => @TT W) (fun W => @Xb W) Xa TP2 1000 50 Xda fun W l c s h st at_ rl rc lo hi ls es K hs => (Xsr W l c s h st at_ rl rc lo hi ls es K).mpr (hyp_ W l c s h st at_ rl rc lo hi ls es K hs)
theorem Xn8 [InW] {e : Int} {k0 k1 k2 k3 k4 k5 : Prop} (h : Vif (decide (e = 0)) k0 (Vif (decide (e = 4)) k1 (Vif (decide (e = 7)) k2 (Vif (decide (e = 2)) k3 (Vif (decide (e = 9)) k4 k5))))) : (e = 0 -> k0) /\ (e = 4 -> k1) /\ (e = 7 -> k2) /\ (e = 2 -> k3) /\ (e = 9 -> k4) /\ (e = 5 -> k5) := by
 simp only [Vif_iff, decide_eq_true_eq, decide_eq_false_iff_not] at h;obtain ⟨a0, a⟩ := h;refine ⟨a0, fun e1 => (a (by omega)).1 e1, fun e1 => ((a (by omega)).2 (by omega)).1 e1, fun e1 => (((a (by omega)).2 (by omega)).2 (by omega)).1 e1, fun e1 => ((((a (by omega)).2 (by omega)).2 (by omega)).2 (by omega)).1 e1, fun e1 => ((((a (by omega)).2 (by omega)).2 (by omega)).2 (by omega)).2 (by omega)⟩
theorem okcan : ∀ W : InW, @CallC W Tryz.prog Xda := Xtw fun W l c s h st at_ rl rc lo hi ls es K hs => by
 obtain ⟨hc, hk⟩ := hs;have hm := rl.len;have hm2 := rc.len;simp only [maxLen] at hm hm2;obtain ⟨k0, k4, k7, k2, k9, k5⟩ := Xn8 hk;clear hk;generalize hE : Sp.canE rl.xs rc.xs lo hi ls es at_ l c s h = E at *;unfold Sp.canE at hE;unfold Xi1;delta Zbe Zh Ze;simp only [out1, Bool.not_not, Nat.zero_add, Nat.reduceAdd];have ht := tm24 s;refine ar64 (by omega) ⟨trivial, vif (fun e1 => ar64 (by omega) ⟨trivial, vif (fun e2 => k4 ?_) fun e2 => ⟨trivial, vif (fun e3 => ⟨trivial, vif (fun e4 => k7 ?_) fun e4 => ?_⟩) fun e3 => k7 ?_⟩⟩) fun e1 => k4 ?_⟩
 ·rw [Bool.not_eq_true'] at e2;rw [<- hE, e2]; simp
 ·rw [Bool.not_eq_true'] at e4;rw [<- hE, e1, e3, e4];rw [Bool.not_eq_false'] at e2;rw [e2]; simp
 ·rw [Bool.not_eq_false'] at e2 e4;rw [e1, e2, e3, e4] at hE;simp only [Bool.and_self, Bool.not_true, Bool.false_eq_true, if_false] at hE;simp only [Sp.inr, Bool.and_eq_true, decide_eq_true_eq] at e1 e2 e3 e4;refine vifd (fun e5 => vifd (fun e6 => ar64 (by omega) (vif (fun e7 => k2 ?_) fun e7 => ⟨⟨by omega, by omega, by omega, by unfold Sp.Small; omega⟩, vif (fun e8 => k9 ?_) fun e8 => ⟨⟨hc.many, by unfold Sp.Small; omega, by unfold Sp.Small; omega, hc.ls⟩, vif (fun e9 => k5 ?_) fun e9 => k0 ?_⟩⟩)) fun e6 => k2 ?_) fun e5 => k2 ?_
  ·rw [<- hE, if_neg (by omega), if_pos];simp only [Sp.fits];simp at e7;simp; omega
  ·rw [<- hE, if_neg (by omega), if_neg, if_pos e8];simp only [Sp.fits];simp at e7;simp; omega
  ·rw [Bool.not_eq_false'] at e8;rw [<- hE, if_neg (by omega), if_neg, e8, if_neg (by simp), if_pos (by simpa using e9)];simp only [Sp.fits];simp at e7;simp; omega
  ·rw [Bool.not_eq_false'] at e8;rw [<- hE, if_neg (by omega), if_neg, e8, if_neg (by simp), if_neg (by simpa using e9)];simp only [Sp.fits];simp at e7;simp; omega
  ·rw [<- hE, if_neg (by omega), if_pos];simp only [Sp.fits];simp; omega
  ·rw [<- hE, if_pos (by omega)]
 ·rw [Bool.not_eq_false'] at e2;rw [<- hE, e1, e2, e3]; simp
 ·rw [<- hE, e1]; simp
noncomputable def Xw3 : CE Tryz.prog := ceOf Xda okcan
namespace Sp
def addA (acc : Dt) (i c : Int) : Dt := acc.set i.toNat [.i ((cel acc i.toNat 0).int + c)]
def postA (acc : Dt) (src dst c : Int) : Dt := if c = 0 then acc else addA (addA acc src (-c)) dst c
def postP (ps : Dt) (ev src dst c : Int) : Dt := if c = 0 then ps else ps ++ [[.i ev, .i src, .i dst, .i c]]
end Sp
noncomputable def TP3 : Tab Tryz.prog := ⟨[Xdk, Xhm], [], []⟩
def Xmg [InW] (e : List Ed) (K : Nat -> List Ed -> Prop) : Prop := match e with
 | [.i src, .i dst, .i c, .i ev, .l acc, .l ps] => Pre (0 <= src /\ src < (acc.length : Int) /\ 0 <= dst /\ dst < (acc.length : Int) /\ Sp.Small c /\ (∀ j, Sp.Small (cel acc j 0).int) /\ (ps.length : Int) <= 1000)
   (K 0 [.i ev, .l (Sp.postA acc src dst c), .l (Sp.postP ps ev src dst c)])
 | _ => False
noncomputable def Xb8 : CC where
 g := 116
 args := [(.ptr 1 0), .int .i64, .int .i64, .int .i64]
 H := [(1, .blk 63 [(.opq 1021), (.opq 1060), (.opq 1024), (.opq 1027), (.opq 1030), (.opq 1033), (.opq 1036), (.opq 1063), (.opq 1042), (.opq 1045), (.row 13), (.opq 1048), (.row 19), (.opq 1051), .int .i64]), (13, .arr 3 Je), (19, .arr 104 Iv4)]
 outs := [⟨false, .tup [], [(1, .blk 63 [(.opq 1021), (.opq 1060), (.opq 1024), (.opq 1027), (.opq 1030), (.opq 1033), (.opq 1036), (.opq 1063), (.opq 1042), (.opq 1045), (.row 13), (.opq 1048), (.row 66), (.opq 1051), .int .i64]), (13, .arr 3 Je), (66, .arr 104 Iv4)], false⟩]
 spec := Xmg
def Xf3 [W : InW] (src dst c ev : Int) (acc ps : Dt) (K : Nat -> List Ed -> Prop) : Prop :=
 Vif (decide (c = 0)) (K 0 [.i ev, .l acc, .l ps]) (Need (decide ((ps.length + [[Cl.i ev, Cl.i src, Cl.i dst, Cl.i c]].length) * 32 <= 140737488355328)) (Need (decide (0 <= src) && decide (src < (↑(acc.length) : Int))) (Need (decide (src.toNat < acc.length)) (Ar .i64 ((cel acc src.toNat (0 : Nat)).int - c) fun z => Need (decide (0 <= src) && decide (src < (↑(acc.length) : Int))) (Need (decide (src.toNat < acc.length)) (Need (decide (0 <= dst) && decide (dst < (↑(List.set acc src.toNat [Cl.i z]).length : Int))) (Need (decide (dst.toNat < (List.set acc src.toNat [Cl.i z]).length)) (Ar .i64 ((cel (List.set acc src.toNat [Cl.i z]) dst.toNat (0 : Nat)).int + c) fun z_1 => Need (decide (0 <= dst) && decide (dst < (↑(List.set acc src.toNat [Cl.i z]).length : Int))) (Need (decide (dst.toNat < (List.set acc src.toNat [Cl.i z]).length)) (K 0 [.i ev, .l ((List.set acc src.toNat [Cl.i z]).set dst.toNat [Cl.i z_1]), .l (ps ++ [[Cl.i ev, Cl.i src, Cl.i dst, Cl.i c]])]))))))))))
theorem Xou (W : InW) (src dst c ev acc ps K) : Yvm (cxT Tryz.prog TT TP3 1000 50) 1000 116 [.ptr 1 0, .si .i64 src, .si .i64 dst, .si .i64 c] [(1, .blk 63 [.opq 1021, .opq 1060, .opq 1024, .opq 1027, .opq 1030, .opq 1033, .opq 1036, .opq 1063, .opq 1042, .opq 1045, .rw 13, .opq 1048, .rw 19, .opq 1051, .si .i64 ev]), (13, .arr 3 Je acc), (19, .arr 104 Iv4 ps)] (fun v h => outC Xb8.H [.i ev, .l acc, .l ps] Xb8.outs 0 false v h K) (fun v h => outC Xb8.H [.i ev, .l acc, .l ps] Xb8.outs 0 true v h K) = Xf3 src dst c ev acc ps K := by kernel_rfl
theorem Xp6 (hyp_ : ∀ (W : InW) src dst c ev acc ps K, Xmg [.i src, .i dst, .i c, .i ev, .l acc, .l ps] K -> Xf3 src dst c ev acc ps K) : ∀ W : InW, @CallC W Tryz.prog Xb8 :=
 CC.okOf (fun W => @TT W) (fun W => @Xb W) Xa TP3 1000 50 Xb8 fun W src dst c ev acc ps K hs => (Xou W src dst c ev acc ps K).mpr (hyp_ W src dst c ev acc ps K hs)
theorem Xb1 (xs : Dt) (i j k : Nat) (r : List Cl) : cel (xs.set i r) j k = if i = j /\ i < xs.length then r.getD k .z else cel xs j k := by
 unfold cel;rw [List.getD_eq_getElem?_getD, List.getD_eq_getElem?_getD, List.getElem?_set]
 by_cases h : i = j
 ·subst h
  by_cases h2 : i < xs.length
  ·simp [h2]
  ·simp [h2, List.getElem?_eq_none (Nat.le_of_not_lt h2)]
 ·simp [h, List.getD_eq_getElem?_getD]
theorem Xvc : ∀ W : InW, @CallC W Tryz.prog Xb8 := Xp6 fun W src dst c ev acc ps K hs => by
 obtain ⟨⟨h1, h2, h3, h4, h5, h6, h7⟩, hk⟩ := hs;unfold Xf3;have a1 := h6 src.toNat;have a2 := h6 dst.toNat;simp only [Sp.Small] at a1 a2 h5;refine vifd (fun e => ?_) fun e => ?_
 ·simpa [Sp.postA, Sp.postP, e] using hk
 ·refine nedd (by simp; omega) (ned (by simp; omega) (nedd (by omega) (ar64 (by omega) (ned (by simp; omega) (nedd (by omega) (ned (by simp; omega) (nedd (by simp; omega) (ar64 ?_ (ned (by simp; omega) (nedd (by simp; omega) ?_))))))))))
  ·rw [Xb1]
   split
   ·simp; omega
   ·omega
  ·rw [Sp.postA, Sp.postP, if_neg e, if_neg e] at hk;unfold Sp.addA at hk;rw [<- Int.sub_eq_add_neg] at hk;exact hk
noncomputable def Xuu : CE Tryz.prog := ceOf Xb8 Xvc
def Xf7 [InW] (e : List Ed) (K : Nat -> List Ed -> Prop) : Prop := match e with
 | [.ro _ rl] => Pre ((rl.xs.length : Int) <= 1000) (K 0 [.i ((rl.xs.length : Int))])
 | _ => False
noncomputable def X4 : CC where
 g := 117
 args := [(.ptr 1 0)]
 H := [(1, .blk 63 [.rs Jd, (.opq 1060), (.opq 1024), (.opq 1027), (.opq 1030), (.opq 1033), (.opq 1036), (.opq 1063), (.opq 1042), (.opq 1045), (.opq 1066), (.opq 1048), (.opq 1069), (.opq 1051), (.opq 1054)])]
 outs := [⟨false, .int .i64, [], true⟩]
 spec := Xf7
def Xen [W : InW] (rl : Ro Jd) (K : Nat -> List Ed -> Prop) : Prop :=
 [Ed.ro _ rl] ++ ([] ++ ([] ++ ([] ++ ([] ++ ([] ++ ([] ++ ([] ++ ([] ++ ([] ++ ([] ++ ([] ++ ([] ++ ([] ++ ([] ++ [])))))))))))))) ++ [] = [Ed.ro _ rl] /\ K 0 [Ed.i (↑(rl.xs.length) : Int)]
theorem Xlg (W : InW) (rl K) : Yvm (cxT Tryz.prog TT TP0 1000 50) 1000 117 [.ptr 1 0] [(1, .blk 63 [.rs _ rl, .opq 1060, .opq 1024, .opq 1027, .opq 1030, .opq 1033, .opq 1036, .opq 1063, .opq 1042, .opq 1045, .opq 1066, .opq 1048, .opq 1069, .opq 1051, .opq 1054])] (fun v h => outC X4.H [.ro _ rl] X4.outs 0 false v h K) (fun v h => outC X4.H [.ro _ rl] X4.outs 0 true v h K) = Xen rl K := by kernel_rfl
theorem Xlp (hyp_ : ∀ (W : InW) rl K, Xf7 [.ro _ rl] K -> Xen rl K) : ∀ W : InW, @CallC W Tryz.prog X4 :=
 CC.okOf (fun W => @TT W) (fun W => @Xb W) Xa TP0 1000 50 X4 fun W rl K hs => (Xlg W rl K).mpr (hyp_ W rl K hs)
theorem Xpr : ∀ W : InW, @CallC W Tryz.prog X4 := Xlp fun W rl K hs => by
 obtain ⟨h1, hk⟩ := hs;exact ⟨rfl, hk⟩
noncomputable def Xn4 : CE Tryz.prog := ceOf X4 Xpr
def Xf9 [InW] (e : List Ed) (K : Nat -> List Ed -> Prop) : Prop := match e with
 | [.ro _ rl] => Pre ((rl.xs.length : Int) <= 1000) (K 0 [.i ((rl.xs.length : Int) + 1)])
 | _ => False
noncomputable def X6 : CC where
 g := 120
 args := [(.ptr 1 0)]
 H := [(1, .blk 63 [.rs Jd, (.opq 1060), (.opq 1024), (.opq 1027), (.opq 1030), (.opq 1033), (.opq 1036), (.opq 1063), (.opq 1042), (.opq 1045), (.opq 1066), (.opq 1048), (.opq 1069), (.opq 1051), (.opq 1054)])]
 outs := [⟨false, .int .i64, [], true⟩]
 spec := Xf9
def Xeo [W : InW] (rl : Ro Jd) (K : Nat -> List Ed -> Prop) : Prop :=
 Ar .i64 ((↑(rl.xs.length) : Int) + 1) fun z => [Ed.ro _ rl] ++ ([] ++ ([] ++ ([] ++ ([] ++ ([] ++ ([] ++ ([] ++ ([] ++ ([] ++ ([] ++ ([] ++ ([] ++ ([] ++ ([] ++ [])))))))))))))) ++ [] = [Ed.ro _ rl] /\ K 0 [Ed.i z]
theorem Xli (W : InW) (rl K) : Yvm (cxT Tryz.prog TT TP0 1000 50) 1000 120 [.ptr 1 0] [(1, .blk 63 [.rs _ rl, .opq 1060, .opq 1024, .opq 1027, .opq 1030, .opq 1033, .opq 1036, .opq 1063, .opq 1042, .opq 1045, .opq 1066, .opq 1048, .opq 1069, .opq 1051, .opq 1054])] (fun v h => outC X6.H [.ro _ rl] X6.outs 0 false v h K) (fun v h => outC X6.H [.ro _ rl] X6.outs 0 true v h K) = Xeo rl K := by kernel_rfl
theorem Xlr (hyp_ : ∀ (W : InW) rl K, Xf9 [.ro _ rl] K -> Xeo rl K) : ∀ W : InW, @CallC W Tryz.prog X6 :=
 CC.okOf (fun W => @TT W) (fun W => @Xb W) Xa TP0 1000 50 X6 fun W rl K hs => (Xli W rl K).mpr (hyp_ W rl K hs)
theorem Xp4 : ∀ W : InW, @CallC W Tryz.prog X6 := Xlr fun W rl K hs => by
 obtain ⟨h1, hk⟩ := hs;exact ar64 (by omega) ⟨rfl, hk⟩
noncomputable def Xn7 : CE Tryz.prog := ceOf X6 Xp4
def Xee [InW] (e : List Ed) (K : Nat -> List Ed -> Prop) : Prop := match e with
 | [.ro _ rl] => Pre ((rl.xs.length : Int) <= 1000) (K 0 [.i ((rl.xs.length : Int) + 2)])
 | _ => False
noncomputable def Xn : CC where
 g := 121
 args := [(.ptr 1 0)]
 H := [(1, .blk 63 [.rs Jd, (.opq 1060), (.opq 1024), (.opq 1027), (.opq 1030), (.opq 1033), (.opq 1036), (.opq 1063), (.opq 1042), (.opq 1045), (.opq 1066), (.opq 1048), (.opq 1069), (.opq 1051), (.opq 1054)])]
 outs := [⟨false, .int .i64, [], true⟩]
 spec := Xee
def Xd9 [W : InW] (rl : Ro Jd) (K : Nat -> List Ed -> Prop) : Prop :=
 Ar .i64 ((↑(rl.xs.length) : Int) + 2) fun z => [Ed.ro _ rl] ++ ([] ++ ([] ++ ([] ++ ([] ++ ([] ++ ([] ++ ([] ++ ([] ++ ([] ++ ([] ++ ([] ++ ([] ++ ([] ++ ([] ++ [])))))))))))))) ++ [] = [Ed.ro _ rl] /\ K 0 [Ed.i z]
theorem Xhd (W : InW) (rl K) : Yvm (cxT Tryz.prog TT TP0 1000 50) 1000 121 [.ptr 1 0] [(1, .blk 63 [.rs _ rl, .opq 1060, .opq 1024, .opq 1027, .opq 1030, .opq 1033, .opq 1036, .opq 1063, .opq 1042, .opq 1045, .opq 1066, .opq 1048, .opq 1069, .opq 1051, .opq 1054])] (fun v h => outC Xn.H [.ro _ rl] Xn.outs 0 false v h K) (fun v h => outC Xn.H [.ro _ rl] Xn.outs 0 true v h K) = Xd9 rl K := by kernel_rfl
theorem Xhp (hyp_ : ∀ (W : InW) rl K, Xee [.ro _ rl] K -> Xd9 rl K) : ∀ W : InW, @CallC W Tryz.prog Xn :=
 CC.okOf (fun W => @TT W) (fun W => @Xb W) Xa TP0 1000 50 Xn fun W rl K hs => (Xhd W rl K).mpr (hyp_ W rl K hs)
theorem Xm1 : ∀ W : InW, @CallC W Tryz.prog Xn := Xhp fun W rl K hs => by
 obtain ⟨h1, hk⟩ := hs;exact ar64 (by omega) ⟨rfl, hk⟩
noncomputable def Xlx : CE Tryz.prog := ceOf Xn Xm1
def Xed [InW] (e : List Ed) (K : Nat -> List Ed -> Prop) : Prop := match e with
 | [.ro _ rl] => Pre ((rl.xs.length : Int) <= 1000) (K 0 [.i ((rl.xs.length : Int) + 3)])
 | _ => False
noncomputable def Xm : CC where
 g := 122
 args := [(.ptr 1 0)]
 H := [(1, .blk 63 [.rs Jd, (.opq 1060), (.opq 1024), (.opq 1027), (.opq 1030), (.opq 1033), (.opq 1036), (.opq 1063), (.opq 1042), (.opq 1045), (.opq 1066), (.opq 1048), (.opq 1069), (.opq 1051), (.opq 1054)])]
 outs := [⟨false, .int .i64, [], true⟩]
 spec := Xed
def Xd8 [W : InW] (rl : Ro Jd) (K : Nat -> List Ed -> Prop) : Prop :=
 Ar .i64 ((↑(rl.xs.length) : Int) + 3) fun z => [Ed.ro _ rl] ++ ([] ++ ([] ++ ([] ++ ([] ++ ([] ++ ([] ++ ([] ++ ([] ++ ([] ++ ([] ++ ([] ++ ([] ++ ([] ++ ([] ++ [])))))))))))))) ++ [] = [Ed.ro _ rl] /\ K 0 [Ed.i z]
theorem Xhc (W : InW) (rl K) : Yvm (cxT Tryz.prog TT TP0 1000 50) 1000 122 [.ptr 1 0] [(1, .blk 63 [.rs _ rl, .opq 1060, .opq 1024, .opq 1027, .opq 1030, .opq 1033, .opq 1036, .opq 1063, .opq 1042, .opq 1045, .opq 1066, .opq 1048, .opq 1069, .opq 1051, .opq 1054])] (fun v h => outC Xm.H [.ro _ rl] Xm.outs 0 false v h K) (fun v h => outC Xm.H [.ro _ rl] Xm.outs 0 true v h K) = Xd8 rl K := by kernel_rfl
theorem Xho (hyp_ : ∀ (W : InW) rl K, Xed [.ro _ rl] K -> Xd8 rl K) : ∀ W : InW, @CallC W Tryz.prog Xm :=
 CC.okOf (fun W => @TT W) (fun W => @Xb W) Xa TP0 1000 50 Xm fun W rl K hs => (Xhc W rl K).mpr (hyp_ W rl K hs)
theorem Xm0 : ∀ W : InW, @CallC W Tryz.prog Xm := Xho fun W rl K hs => by
 obtain ⟨h1, hk⟩ := hs;exact ar64 (by omega) ⟨rfl, hk⟩
noncomputable def Xlw : CE Tryz.prog := ceOf Xm Xm0
namespace Sp
structure Sch where
 rl : Dt
 rc : Dt
 pr : Int
 ex : Int
 lo : Int
 hi : Int
 rt : Dt
structure Bks where
 ls : Dt
 km : Dt
 si : Dt
 ac : Dt
 es : List (Int × Int)
 ps : Dt
 tm : Int
 ev : Int
structure Evt where
 kind : Int
 at_ : Int
 l : Int
 c : Int
 b : Int
 s : Int
 h : Int
 d : Int
 w : Int
 k : Int
 m : Int
def Sch.Ok (s : Sch) : Prop := SchOk s.rl s.rc s.pr s.ex s.lo s.hi s.rt
def Bks.post (b : Bks) (src dst c : Int) : Bks := { b with ac := postA b.ac src dst c, ps := postP b.ps b.ev src dst c }
def setSt (ls : Dt) (i st : Int) : Dt := ls.set i.toNat (Ymx (ls.getD i.toNat []) 4 [.i st])
def hasB (ls : Dt) (i st : Int) : Bool := inr i 0 ((ls.length : Int) - 1) && decide ((cel ls i.toNat 4).int = st)
def school (s : Sch) : Int := s.rl.length
def moveTo (rc ls : Dt) (es : List (Int × Int)) (l c h i : Int) : Nat -> Int -> Option Int
 | 0, _ => none
 | n + 1, s => if s + h <= 4800 then (if dryB rc es c s && !blocked ls i l c s h 0 ls.length then some s else moveTo rc ls es l c h i n (s + 24)) else none
def days (s : Int) : Nat := ((4801 - s).toNat + 23) / 24
def moveL (rc ls : Dt) (es : List (Int × Int)) (i : Int) : Dt :=
 match moveTo rc ls es (cel ls i.toNat 0).int (cel ls i.toNat 1).int (cel ls i.toNat 3).int i (days ((cel ls i.toNat 2).int + 24)) ((cel ls i.toNat 2).int + 24) with
 | some s => ls.set i.toNat [.i (cel ls i.toNat 0).int, .i (cel ls i.toNat 1).int, .i s, .i (cel ls i.toNat 3).int, .i (cel ls i.toNat 4).int]
 | none => setSt ls i 1
def hit (rc ls : Dt) (i : Int) (x : Evt) : Bool :=
 decide ((cel ls i.toNat 4).int = 0) && (decide ((cel ls i.toNat 2).int.tdiv 24 = x.d) && (decide (x.at_ < (cel ls i.toNat 2).int) && decide (andI .i64 ((cel rc (cel ls i.toNat 1).int.toNat 3).int.fdiv (2 ^ x.w.toNat)) 1 = 1)))
def weatherL (rc : Dt) (es : List (Int × Int)) (x : Evt) : Nat -> Int -> Dt -> Dt
 | 0, _, ls => ls
 | n + 1, i, ls => weatherL rc es x n (i + 1) (if hit rc ls i x then moveL rc ls es i else ls)
def seeE (es : List (Int × Int)) (d w : Int) : List (Int × Int) := setI es d (orI .i64 (getI es d) (2 ^ w.toNat))
def err (s : Sch) (b : Bks) (x : Evt) : Int :=
 if x.kind = 0 then canE s.rl s.rc s.lo s.hi b.ls b.es x.at_ x.l x.c x.s x.h
 else if x.kind = 1 then (if !hasB b.ls x.b 0 then 4 else if x.at_ < (cel b.ls x.b.toNat 2).int then 0 else 2)
 else if x.kind = 2 then (if inr x.d 0 200 && inr x.w 0 7 then 0 else 7)
 else if x.kind = 3 then (if !hasB b.ls x.b 0 then 4 else if x.at_ < (cel b.ls x.b.toNat 2).int + (cel b.ls x.b.toNat 3).int then 2 else if !inr x.k 0 400 then 7
  else if (cel s.rc (cel b.ls x.b.toNat 1).int.toNat 2).int < (cel b.si (cel b.ls x.b.toNat 1).int.toNat 0).int then 9 else 0)
 else if x.kind = 4 then (if !inr x.c 0 ((s.rc.length : Int) - 1) then 4 else if !inr x.m 0 10000000 then 7 else 0)
 else if x.kind = 5 then (if !hasB b.ls x.b 2 then 4 else if !inr x.m 0 10000000 then 7 else 0)
 else (if !inr x.l 0 ((s.rl.length : Int) - 1) then 4 else if !inr x.m 0 10000000 then 7 else 0)
def eff (s : Sch) (b : Bks) (x : Evt) : Bks :=
 let L := (cel b.ls x.b.toNat 0).int
 let C := (cel b.ls x.b.toNat 1).int
 if x.kind = 0 then { b with ls := b.ls ++ [[.i x.l, .i x.c, .i x.s, .i x.h, .i 0]] }
 else if x.kind = 1 then { b with ls := setSt b.ls x.b 1 }.post L (school s) (fee s.rt s.pr (cel b.ls x.b.toNat 3).int ((cel b.ls x.b.toNat 2).int - x.at_))
 else if x.kind = 2 then { b with es := seeE b.es x.d x.w, ls := weatherL s.rc (seeE b.es x.d x.w) x b.ls.length 0 b.ls }
 else if x.kind = 3 then { b with ls := setSt b.ls x.b 2, km := addA b.km C x.k, si := addA b.si C x.k }.post L (school s) ((cel b.ls x.b.toNat 3).int * s.pr)
 else if x.kind = 4 then { b with si := b.si.set x.c.toNat [.i 0] }.post (school s) (school s + 1) x.m
 else if x.kind = 5 then ({ b with ls := setSt b.ls x.b 3 }.post (school s) (school s + 1) (min x.m s.ex)).post (school s + 2) (school s + 1) (x.m - min x.m s.ex)
 else b.post (school s + 3) x.l x.m
def doE (s : Sch) (b : Bks) (n : Int) (x : Evt) : Int :=
 if !inr x.kind 0 6 then 2 else if !inr x.at_ b.tm 4800 then 7 else err s b x
def doB (s : Sch) (b : Bks) (n : Int) (x : Evt) : Bks :=
 if !inr x.kind 0 6 then b else if !inr x.at_ b.tm 4800 then b else if err s b x = 0 then { eff s { b with ev := n } x with tm := x.at_ } else { b with ev := n }
structure Inv (s : Sch) (b : Bks) (n : Int) : Prop where
 nn : 0 <= n /\ n <= 60
 sch : s.Ok
 never : ∀ j, j < s.rc.length -> 0 <= (cel s.rc j 3).int /\ (cel s.rc j 3).int <= 255
 many : (b.ls.length : Int) <= n
 ls : ∀ j, j < b.ls.length -> (0 <= (cel b.ls j 0).int /\ (cel b.ls j 0).int < s.rl.length) /\ (0 <= (cel b.ls j 1).int /\ (cel b.ls j 1).int < s.rc.length) /\ (0 <= (cel b.ls j 2).int /\ (cel b.ls j 2).int <= 4800) /\ (1 <= (cel b.ls j 3).int /\ (cel b.ls j 3).int <= 4)
 km : b.km.length = s.rc.length /\ ∀ j, j < b.km.length -> 0 <= (cel b.km j 0).int /\ (cel b.km j 0).int <= 1000000 + 400 * n
 si : b.si.length = s.rc.length /\ ∀ j, j < b.si.length -> 0 <= (cel b.si j 0).int /\ (cel b.si j 0).int <= 400 * n
 ac : b.ac.length = s.rl.length + 4 /\ ∀ j, -40000000 * n <= (cel b.ac j 0).int /\ (cel b.ac j 0).int <= 40000000 * n
 ps : (b.ps.length : Int) <= 2 * n
 tm : 0 <= b.tm /\ b.tm <= 4800
 es : ∀ d, 0 <= getI b.es d /\ getI b.es d <= 255
theorem Inv.calm {s : Sch} {b : Bks} {n : Int} (h : Inv s b n) : CalmP b.ls := ⟨by have := h.many; have := h.nn; omega, fun j => by
 by_cases hj : j < b.ls.length
 ·have := h.ls j hj;unfold Small;omega
 ·have e : ∀ k, cel b.ls j k = .z := fun k => by simp [cel, List.getD_eq_getElem?_getD, List.getElem?_eq_none (Nat.le_of_not_lt hj)]
  rw [e, e];unfold Small;simp [Cl.int]⟩
end Sp
noncomputable def TP4 : Tab Tryz.prog := ⟨[Xdk, Xhm], [], [Xw3, Xuu, Xn4, Xn7, Xlx, Xlw]⟩
def Xdh (kind : Int) [InW] (e : List Ed) (K : Nat -> List Ed -> Prop) : Prop := match e with
 | [.i n, .i at_, .i xl, .i xc, .i xb, .i xs, .i xh, .i xd, .i xw, .i xk, .i xm, .ro _ rl, .ro _ rc, .i pr, .i ex, .i lo, .i hi, .ro _ rt, .i tm, .i ev, .l ls, .l km, .l si, .l ac, .m es, .l ps] =>
  Pre (Sp.Inv ⟨rl.xs, rc.xs, pr, ex, lo, hi, rt.xs⟩ ⟨ls, km, si, ac, es, ps, tm, ev⟩ n)
   (K 0 [.i (Sp.doE ⟨rl.xs, rc.xs, pr, ex, lo, hi, rt.xs⟩ ⟨ls, km, si, ac, es, ps, tm, ev⟩ n ⟨kind, at_, xl, xc, xb, xs, xh, xd, xw, xk, xm⟩), .ro _ rl, .ro _ rc, .i pr, .i ex, .i lo, .i hi, .ro _ rt,
    .i (Sp.doB ⟨rl.xs, rc.xs, pr, ex, lo, hi, rt.xs⟩ ⟨ls, km, si, ac, es, ps, tm, ev⟩ n ⟨kind, at_, xl, xc, xb, xs, xh, xd, xw, xk, xm⟩).tm,
    .i (Sp.doB ⟨rl.xs, rc.xs, pr, ex, lo, hi, rt.xs⟩ ⟨ls, km, si, ac, es, ps, tm, ev⟩ n ⟨kind, at_, xl, xc, xb, xs, xh, xd, xw, xk, xm⟩).ev,
    .l (Sp.doB ⟨rl.xs, rc.xs, pr, ex, lo, hi, rt.xs⟩ ⟨ls, km, si, ac, es, ps, tm, ev⟩ n ⟨kind, at_, xl, xc, xb, xs, xh, xd, xw, xk, xm⟩).ls,
    .l (Sp.doB ⟨rl.xs, rc.xs, pr, ex, lo, hi, rt.xs⟩ ⟨ls, km, si, ac, es, ps, tm, ev⟩ n ⟨kind, at_, xl, xc, xb, xs, xh, xd, xw, xk, xm⟩).km,
    .l (Sp.doB ⟨rl.xs, rc.xs, pr, ex, lo, hi, rt.xs⟩ ⟨ls, km, si, ac, es, ps, tm, ev⟩ n ⟨kind, at_, xl, xc, xb, xs, xh, xd, xw, xk, xm⟩).si,
    .l (Sp.doB ⟨rl.xs, rc.xs, pr, ex, lo, hi, rt.xs⟩ ⟨ls, km, si, ac, es, ps, tm, ev⟩ n ⟨kind, at_, xl, xc, xb, xs, xh, xd, xw, xk, xm⟩).ac,
    .m (Sp.doB ⟨rl.xs, rc.xs, pr, ex, lo, hi, rt.xs⟩ ⟨ls, km, si, ac, es, ps, tm, ev⟩ n ⟨kind, at_, xl, xc, xb, xs, xh, xd, xw, xk, xm⟩).es,
    .l (Sp.doB ⟨rl.xs, rc.xs, pr, ex, lo, hi, rt.xs⟩ ⟨ls, km, si, ac, es, ps, tm, ev⟩ n ⟨kind, at_, xl, xc, xb, xs, xh, xd, xw, xk, xm⟩).ps])
 | _ => False
def FinD [InW] {t1 t2 t3 : List Ty} (K : Nat -> List Ed -> Prop) (rl : Ro t1) (rc : Ro t2) (pr ex lo hi : Int) (rt : Ro t3) (E : Int) (B : Sp.Bks) : Prop :=
 K 0 [.i E, .ro _ rl, .ro _ rc, .i pr, .i ex, .i lo, .i hi, .ro _ rt, .i B.tm, .i B.ev, .l B.ls, .l B.km, .l B.si, .l B.ac, .m B.es, .l B.ps]
namespace Sp
theorem do_late {s : Sch} {b : Bks} {n : Int} {x : Evt} (hk : inr x.kind 0 6 = true) (ha : (!inr x.at_ b.tm 4800) = true) : doE s b n x = 7 /\ doB s b n x = b := by
 unfold doE doB;rw [hk, if_pos ha, if_pos ha];exact ⟨rfl, rfl⟩
theorem do_bad {s : Sch} {b : Bks} {n : Int} {x : Evt} (hk : inr x.kind 0 6 = true) (ha : (!inr x.at_ b.tm 4800) = false) {E : Int} (he : err s b x = E) (h0 : E ≠ 0) : doE s b n x = E /\ doB s b n x = { b with ev := n } := by
 unfold doE doB;rw [hk, ha, he, if_neg h0];exact ⟨rfl, rfl⟩
theorem do_good {s : Sch} {b : Bks} {n : Int} {x : Evt} (hk : inr x.kind 0 6 = true) (ha : (!inr x.at_ b.tm 4800) = false) (he : err s b x = 0) : doE s b n x = 0 /\ doB s b n x = { eff s { b with ev := n } x with tm := x.at_ } := by
 unfold doE doB;rw [hk, ha, he, if_pos rfl];exact ⟨rfl, rfl⟩
theorem Inv.acS {s : Sch} {b : Bks} {n : Int} (h : Inv s b n) (j : Nat) : Small (cel b.ac j 0).int := by
 have := h.ac.2 j;have := h.nn;unfold Small;omega
theorem Inv.psL {s : Sch} {b : Bks} {n : Int} (h : Inv s b n) : (b.ps.length : Int) <= 1000 := by
 have := h.ps;have := h.nn;omega
theorem Inv.rlL {s : Sch} {b : Bks} {n : Int} (h : Inv s b n) : 1 <= s.rl.length /\ s.rl.length <= 8 /\ b.ac.length = s.rl.length + 4 := by
 have := h.sch.learners;have := h.ac.1;omega
theorem canE_in (rl rc : Dt) (lo hi : Int) (ls : Dt) (es : List (Int × Int)) (at_ l c s h : Int) : canE rl rc lo hi ls es at_ l c s h = 0 \/ canE rl rc lo hi ls es at_ l c s h = 4 \/ canE rl rc lo hi ls es at_ l c s h = 7 \/ canE rl rc lo hi ls es at_ l c s h = 2 \/ canE rl rc lo hi ls es at_ l c s h = 9 \/ canE rl rc lo hi ls es at_ l c s h = 5 := by
 unfold canE
 repeat' split
 all_goals simp
theorem inr_iff {n lo hi : Int} : inr n lo hi = true ↔ lo <= n /\ n <= hi := by simp [inr]
end Sp
theorem Xhu [InW] {K : Nat -> List Ed -> Prop} {rl : Ro Jd} {rc : Ro Ivs} {pr ex lo hi : Int} {rt : Ro Jc} {b : Sp.Bks} {n : Int} {x : Sp.Evt} (hkd : Sp.inr x.kind 0 6 = true)
  (hk : FinD K rl rc pr ex lo hi rt (Sp.doE ⟨rl.xs, rc.xs, pr, ex, lo, hi, rt.xs⟩ b n x) (Sp.doB ⟨rl.xs, rc.xs, pr, ex, lo, hi, rt.xs⟩ b n x)) :
  ((!Sp.inr x.at_ b.tm 4800) = true -> FinD K rl rc pr ex lo hi rt 7 b) /\
  ((!Sp.inr x.at_ b.tm 4800) = false -> ∀ E, E ≠ 0 -> Sp.err ⟨rl.xs, rc.xs, pr, ex, lo, hi, rt.xs⟩ b x = E -> FinD K rl rc pr ex lo hi rt E { b with ev := n }) /\
  ((!Sp.inr x.at_ b.tm 4800) = false -> Sp.err ⟨rl.xs, rc.xs, pr, ex, lo, hi, rt.xs⟩ b x = 0 -> FinD K rl rc pr ex lo hi rt 0 { Sp.eff ⟨rl.xs, rc.xs, pr, ex, lo, hi, rt.xs⟩ { b with ev := n } x with tm := x.at_ }) := by
 refine ⟨fun h => ?_, fun h E h0 he => ?_, fun h he => ?_⟩
 ·obtain ⟨a, c⟩ := Sp.do_late (s := ⟨rl.xs, rc.xs, pr, ex, lo, hi, rt.xs⟩) (n := n) hkd h;rwa [a, c] at hk
 ·obtain ⟨a, c⟩ := Sp.do_bad (s := ⟨rl.xs, rc.xs, pr, ex, lo, hi, rt.xs⟩) (n := n) hkd h he h0;rwa [a, c] at hk
 ·obtain ⟨a, c⟩ := Sp.do_good (s := ⟨rl.xs, rc.xs, pr, ex, lo, hi, rt.xs⟩) (n := n) hkd h he;rwa [a, c] at hk
def Xrf [InW] : List Ed -> (Nat -> List Ed -> Prop) -> Prop := Xdh 0
noncomputable def Xdy : CC where
 g := 46
 args := [(.ptr 1 0), .int .i64, .agg [(.lit (.int .i64 0)), .int .i64, .int .i64, .int .i64, .int .i64, .int .i64, .int .i64, .int .i64, .int .i64, .int .i64, .int .i64]]
 H := [(1, .blk 63 [.rs Jd, .rs Ivs, .int .i64, .int .i64, .int .i64, .int .i64, .rs Jc, (.row 4), (.row 7), (.row 10), (.row 13), (.mp 16), (.row 19), .int .i64, .int .i64]), (4, .arr 51 Iv5), (7, .arr 3 Je), (10, .arr 3 Je), (13, .arr 3 Je), (16, .mpI), (19, .arr 104 Iv4)]
 outs := [⟨false, .int .i64, [(1, .blk 63 [.rs Jd, .rs Ivs, .int .i64, .int .i64, .int .i64, .int .i64, .rs Jc, (.row 63), (.row 7), (.row 10), (.row 13), (.mp 16), (.row 66), .int .i64, .int .i64]), (63, .arr 51 Iv5), (7, .arr 3 Je), (10, .arr 3 Je), (13, .arr 3 Je), (16, .mpI), (66, .arr 104 Iv4)], false⟩]
 spec := Xrf
def Xi0 [W : InW] (n at_ xl xc xb xs xh xd xw xk xm : Int) (rl : Ro Jd) (rc : Ro Ivs) (pr ex lo hi : Int) (rt : Ro Jc) (tm ev : Int) (ls km si ac : Dt) (es : List (Int × Int)) (ps : Dt) (K : Nat -> List Ed -> Prop) : Prop :=
 Pre True (Vif (!!Sp.out (0 : Int) (6 : Int) [[Cl.i 0]]) (K 0 [.i (Int.ofNat (1+1)), .ro _ rl, .ro _ rc, .i pr, .i ex, .i lo, .i hi, .ro _ rt, .i tm, .i ev, .l ls, .l km, .l si, .l ac, .m es, .l ps]) (Pre True (Vif (!!Sp.out tm (4800 : Int) [[Cl.i at_]]) (K 0 [.i (Int.ofNat (6+1)), .ro _ rl, .ro _ rc, .i pr, .i ex, .i lo, .i hi, .ro _ rt, .i tm, .i ev, .l ls, .l km, .l si, .l ac, .m es, .l ps]) (Pre (Sp.CalmP ls) (Vif (decide (Sp.canE rl.xs rc.xs lo hi ls es at_ xl xc xs xh = 0)) (Need (decide ((ls.length + [[Cl.i xl, Cl.i xc, Cl.i xs, Cl.i xh, Cl.i 0]].length) * 40 <= 140737488355328)) (K 0 [.i (0 : Int), .ro _ rl, .ro _ rc, .i pr, .i ex, .i lo, .i hi, .ro _ rt, .i at_, .i n, .l (ls ++ [[Cl.i xl, Cl.i xc, Cl.i xs, Cl.i xh, Cl.i 0]]), .l km, .l si, .l ac, .m es, .l ps])) (Vif (decide (Sp.canE rl.xs rc.xs lo hi ls es at_ xl xc xs xh = 4)) (K 0 [.i (Int.ofNat (3+1)), .ro _ rl, .ro _ rc, .i pr, .i ex, .i lo, .i hi, .ro _ rt, .i tm, .i n, .l ls, .l km, .l si, .l ac, .m es, .l ps]) (Vif (decide (Sp.canE rl.xs rc.xs lo hi ls es at_ xl xc xs xh = 7)) (K 0 [.i (Int.ofNat (6+1)), .ro _ rl, .ro _ rc, .i pr, .i ex, .i lo, .i hi, .ro _ rt, .i tm, .i n, .l ls, .l km, .l si, .l ac, .m es, .l ps]) (Vif (decide (Sp.canE rl.xs rc.xs lo hi ls es at_ xl xc xs xh = 2)) (K 0 [.i (Int.ofNat (1+1)), .ro _ rl, .ro _ rc, .i pr, .i ex, .i lo, .i hi, .ro _ rt, .i tm, .i n, .l ls, .l km, .l si, .l ac, .m es, .l ps]) (Vif (decide (Sp.canE rl.xs rc.xs lo hi ls es at_ xl xc xs xh = 9)) (K 0 [.i (Int.ofNat (8+1)), .ro _ rl, .ro _ rc, .i pr, .i ex, .i lo, .i hi, .ro _ rt, .i tm, .i n, .l ls, .l km, .l si, .l ac, .m es, .l ps]) (K 0 [.i (Int.ofNat (4+1)), .ro _ rl, .ro _ rc, .i pr, .i ex, .i lo, .i hi, .ro _ rt, .i tm, .i n, .l ls, .l km, .l si, .l ac, .m es, .l ps]))))))))))
theorem Xsq (W : InW) (n at_ xl xc xb xs xh xd xw xk xm rl rc pr ex lo hi rt tm ev ls km si ac es ps K) : Yvm (cxT Tryz.prog TT TP4 1000 50) 1000 46 [.ptr 1 0, .si .i64 n, .agg [.v (.int .i64 0), .si .i64 at_, .si .i64 xl, .si .i64 xc, .si .i64 xb, .si .i64 xs, .si .i64 xh, .si .i64 xd, .si .i64 xw, .si .i64 xk, .si .i64 xm]] [(1, .blk 63 [.rs _ rl, .rs _ rc, .si .i64 pr, .si .i64 ex, .si .i64 lo, .si .i64 hi, .rs _ rt, .rw 4, .rw 7, .rw 10, .rw 13, .mp 16, .rw 19, .si .i64 tm, .si .i64 ev]), (4, .arr 51 Iv5 ls), (7, .arr 3 Je km), (10, .arr 3 Je si), (13, .arr 3 Je ac), (16, .obj (.mpI es)), (19, .arr 104 Iv4 ps)] (fun v h => outC Xdy.H [.ro _ rl, .ro _ rc, .i pr, .i ex, .i lo, .i hi, .ro _ rt, .i tm, .i ev, .l ls, .l km, .l si, .l ac, .m es, .l ps] Xdy.outs 0 false v h K) (fun v h => outC Xdy.H [.ro _ rl, .ro _ rc, .i pr, .i ex, .i lo, .i hi, .ro _ rt, .i tm, .i ev, .l ls, .l km, .l si, .l ac, .m es, .l ps] Xdy.outs 0 true v h K) = Xi0 n at_ xl xc xb xs xh xd xw xk xm rl rc pr ex lo hi rt tm ev ls km si ac es ps K := by kernel_rfl
theorem Xtv (hyp_ : ∀ (W : InW) n at_ xl xc xb xs xh xd xw xk xm rl rc pr ex lo hi rt tm ev ls km si ac es ps K, Xrf [.i n, .i at_, .i xl, .i xc, .i xb, .i xs, .i xh, .i xd, .i xw, .i xk, .i xm, .ro _ rl, .ro _ rc, .i pr, .i ex, .i lo, .i hi, .ro _ rt, .i tm, .i ev, .l ls, .l km, .l si, .l ac, .m es, .l ps] K -> Xi0 n at_ xl xc xb xs xh xd xw xk xm rl rc pr ex lo hi rt tm ev ls km si ac es ps K) : ∀ W : InW, @CallC W Tryz.prog Xdy :=
 CC.okOf (fun W => @TT W) (fun W => @Xb W) Xa TP4 1000 50 Xdy fun W n at_ xl xc xb xs xh xd xw xk xm rl rc pr ex lo hi rt tm ev ls km si ac es ps K hs => (Xsq W n at_ xl xc xb xs xh xd xw xk xm rl rc pr ex lo hi rt tm ev ls km si ac es ps K).mpr (hyp_ W n at_ xl xc xb xs xh xd xw xk xm rl rc pr ex lo hi rt tm ev ls km si ac es ps K hs)
theorem okdo0 : ∀ W : InW, @CallC W Tryz.prog Xdy := Xtv fun W n at_ xl xc xb xs xh xd xw xk xm rl rc pr ex lo hi rt tm ev ls km si ac es ps K hs => by
 obtain ⟨hI, hk⟩ := hs;obtain ⟨late, bad, good⟩ := Xhu (b := ⟨ls, km, si, ac, es, ps, tm, ev⟩) (n := n) (x := ⟨0, at_, xl, xc, xb, xs, xh, xd, xw, xk, xm⟩) (show Sp.inr 0 0 6 = true by decide) hk;clear hk;unfold Xi0;simp only [out1, Bool.not_not];refine ⟨trivial, vif (fun e => absurd e (by decide)) fun _ => ⟨trivial, vif late fun h1 => ⟨hI.calm, ?_⟩⟩⟩
 replace bad := bad h1
 replace good := good h1
 simp only [Sp.err, if_true] at bad good;refine vifd (fun e => nedd ?_ (good e)) fun e => vifd (fun e2 => bad 4 (by decide) e2) fun e2 => vifd (fun e3 => bad 7 (by decide) e3) fun e3 => vifd (fun e4 => bad 2 (by decide) e4) fun e4 => vifd (fun e5 => bad 9 (by decide) e5) fun e5 => bad 5 (by decide) ?_
 ·have := hI.many;have := hI.nn;simp only [List.length_cons, List.length_nil] at *;omega
 ·exact (Sp.canE_in rl.xs rc.xs lo hi ls es at_ xl xc xs xh).resolve_left e |>.resolve_left e2 |>.resolve_left e3 |>.resolve_left e4 |>.resolve_left e5
def Xrb [InW] : List Ed -> (Nat -> List Ed -> Prop) -> Prop := Xdh 4
noncomputable def Xdu : CC where
 g := 46
 args := [(.ptr 1 0), .int .i64, .agg [(.lit (.int .i64 4)), .int .i64, .int .i64, .int .i64, .int .i64, .int .i64, .int .i64, .int .i64, .int .i64, .int .i64, .int .i64]]
 H := [(1, .blk 63 [.rs Jd, .rs Ivs, .int .i64, .int .i64, .int .i64, .int .i64, .rs Jc, (.row 4), (.row 7), (.row 10), (.row 13), (.mp 16), (.row 19), .int .i64, .int .i64]), (4, .arr 51 Iv5), (7, .arr 3 Je), (10, .arr 3 Je), (13, .arr 3 Je), (16, .mpI), (19, .arr 104 Iv4)]
 outs := [⟨false, .int .i64, [(1, .blk 63 [.rs Jd, .rs Ivs, .int .i64, .int .i64, .int .i64, .int .i64, .rs Jc, (.row 63), (.row 7), (.row 10), (.row 13), (.mp 16), (.row 66), .int .i64, .int .i64]), (63, .arr 51 Iv5), (7, .arr 3 Je), (10, .arr 3 Je), (13, .arr 3 Je), (16, .mpI), (66, .arr 104 Iv4)], false⟩]
 spec := Xrb
def Zbf [W : InW] (rl : Ro Jd) := (↑(rl.xs.length) : Int)
def Xiw [W : InW] (n at_ xl xc xb xs xh xd xw xk xm : Int) (rl : Ro Jd) (rc : Ro Ivs) (pr ex lo hi : Int) (rt : Ro Jc) (tm ev : Int) (ls km si ac : Dt) (es : List (Int × Int)) (ps : Dt) (K : Nat -> List Ed -> Prop) : Prop :=
 Pre True (Vif (!!Sp.out Ze (6 : Int) [[Cl.i 4]]) (K 0 [.i (Int.ofNat (1+1)), .ro _ rl, .ro _ rc, .i pr, .i ex, .i lo, .i hi, .ro _ rt, .i tm, .i ev, .l ls, .l km, .l si, .l ac, .m es, .l ps]) (Pre True (Vif (!!Sp.out tm (4800 : Int) [[Cl.i at_]]) (K 0 [.i (Int.ofNat (6+1)), .ro _ rl, .ro _ rc, .i pr, .i ex, .i lo, .i hi, .ro _ rt, .i tm, .i ev, .l ls, .l km, .l si, .l ac, .m es, .l ps]) (Ar .i64 ((↑(rc.xs.length) : Int) - 1) fun z => Pre True (Vif (!!Sp.out Ze z [[Cl.i xc]]) (K 0 [.i (Int.ofNat (3+1)), .ro _ rl, .ro _ rc, .i pr, .i ex, .i lo, .i hi, .ro _ rt, .i tm, .i n, .l ls, .l km, .l si, .l ac, .m es, .l ps]) (Pre True (Vif (!!Sp.out Ze (10000000 : Int) [[Cl.i xm]]) (K 0 [.i (Int.ofNat (6+1)), .ro _ rl, .ro _ rc, .i pr, .i ex, .i lo, .i hi, .ro _ rt, .i tm, .i n, .l ls, .l km, .l si, .l ac, .m es, .l ps]) (Need (decide (0 <= xc) && decide (xc < (↑(si.length) : Int))) (Need (decide (xc.toNat < si.length)) (Pre ((Zbf rl) <= 1000) (Pre ((Zbf rl) <= 1000) (Pre (Ze <= (Zbf rl) /\ (Zbf rl) < (↑(ac.length) : Int) /\ Ze <= (Zbf rl) + 1 /\ (Zbf rl) + 1 < (↑(ac.length) : Int) /\ Sp.Small xm /\ (∀ (j : Nat), Sp.Small (cel ac j (0 : Nat)).int) /\ (↑(ps.length) : Int) <= 1000) (K 0 [.i Ze, .ro _ rl, .ro _ rc, .i pr, .i ex, .i lo, .i hi, .ro _ rt, .i at_, .i n, .l ls, .l km, .l (List.set si xc.toNat [Cl.i 0]), .l (Sp.postA ac (Zbf rl) ((Zbf rl) + 1) xm), .m es, .l (Sp.postP ps n (Zbf rl) ((Zbf rl) + 1) xm)])))))))))))))
theorem Xsm (W : InW) (n at_ xl xc xb xs xh xd xw xk xm rl rc pr ex lo hi rt tm ev ls km si ac es ps K) : Yvm (cxT Tryz.prog TT TP4 1000 50) 1000 46 [.ptr 1 0, .si .i64 n, .agg [.v (.int .i64 4), .si .i64 at_, .si .i64 xl, .si .i64 xc, .si .i64 xb, .si .i64 xs, .si .i64 xh, .si .i64 xd, .si .i64 xw, .si .i64 xk, .si .i64 xm]] [(1, .blk 63 [.rs _ rl, .rs _ rc, .si .i64 pr, .si .i64 ex, .si .i64 lo, .si .i64 hi, .rs _ rt, .rw 4, .rw 7, .rw 10, .rw 13, .mp 16, .rw 19, .si .i64 tm, .si .i64 ev]), (4, .arr 51 Iv5 ls), (7, .arr 3 Je km), (10, .arr 3 Je si), (13, .arr 3 Je ac), (16, .obj (.mpI es)), (19, .arr 104 Iv4 ps)] (fun v h => outC Xdu.H [.ro _ rl, .ro _ rc, .i pr, .i ex, .i lo, .i hi, .ro _ rt, .i tm, .i ev, .l ls, .l km, .l si, .l ac, .m es, .l ps] Xdu.outs 0 false v h K) (fun v h => outC Xdu.H [.ro _ rl, .ro _ rc, .i pr, .i ex, .i lo, .i hi, .ro _ rt, .i tm, .i ev, .l ls, .l km, .l si, .l ac, .m es, .l ps] Xdu.outs 0 true v h K) = Xiw n at_ xl xc xb xs xh xd xw xk xm rl rc pr ex lo hi rt tm ev ls km si ac es ps K := by kernel_rfl
theorem Xtr (hyp_ : ∀ (W : InW) n at_ xl xc xb xs xh xd xw xk xm rl rc pr ex lo hi rt tm ev ls km si ac es ps K, Xrb [.i n, .i at_, .i xl, .i xc, .i xb, .i xs, .i xh, .i xd, .i xw, .i xk, .i xm, .ro _ rl, .ro _ rc, .i pr, .i ex, .i lo, .i hi, .ro _ rt, .i tm, .i ev, .l ls, .l km, .l si, .l ac, .m es, .l ps] K -> Xiw n at_ xl xc xb xs xh xd xw xk xm rl rc pr ex lo hi rt tm ev ls km si ac es ps K) : ∀ W : InW, @CallC W Tryz.prog Xdu :=
 CC.okOf (fun W => @TT W) (fun W => @Xb W) Xa TP4 1000 50 Xdu fun W n at_ xl xc xb xs xh xd xw xk xm rl rc pr ex lo hi rt tm ev ls km si ac es ps K hs => (Xsm W n at_ xl xc xb xs xh xd xw xk xm rl rc pr ex lo hi rt tm ev ls km si ac es ps K).mpr (hyp_ W n at_ xl xc xb xs xh xd xw xk xm rl rc pr ex lo hi rt tm ev ls km si ac es ps K hs)
theorem okdo4 : ∀ W : InW, @CallC W Tryz.prog Xdu := Xtr fun W n at_ xl xc xb xs xh xd xw xk xm rl rc pr ex lo hi rt tm ev ls km si ac es ps K hs => by
 obtain ⟨hI, hk⟩ := hs;obtain ⟨late, bad, good⟩ := Xhu (b := ⟨ls, km, si, ac, es, ps, tm, ev⟩) (n := n) (x := ⟨4, at_, xl, xc, xb, xs, xh, xd, xw, xk, xm⟩) (show Sp.inr 4 0 6 = true by decide) hk;clear hk;unfold Xiw;delta Zbf Ze;simp only [out1, Bool.not_not];have hL := hI.rlL;have hC := hI.sch.cars;have hS := hI.si.1;simp only at hL hC hS;refine ⟨trivial, vif (fun e => absurd e (by decide)) fun _ => ⟨trivial, vif late fun h1 => ar64 (by omega) ⟨trivial, ?_⟩⟩⟩
 replace bad := bad h1
 replace good := good h1
 simp only [Sp.err] at bad good;refine vif (fun e => bad 4 (by decide) (by simp [e])) fun e => ⟨trivial, vif (fun e2 => bad 7 (by decide) (by simp [e, e2])) fun e2 => ?_⟩;have e' := e;have e2' := e2;rw [Bool.not_eq_false', Sp.inr_iff] at e' e2';refine ned (by simp; omega) (nedd (by omega) ⟨by omega, by omega, ⟨by omega, by omega, by omega, by omega, by unfold Sp.Small; omega, hI.acS, hI.psL⟩, good (by simp [e, e2])⟩)
def Xq9 [InW] : List Ed -> (Nat -> List Ed -> Prop) -> Prop := Xdh 6
noncomputable def Xds : CC where
 g := 46
 args := [(.ptr 1 0), .int .i64, .agg [(.lit (.int .i64 6)), .int .i64, .int .i64, .int .i64, .int .i64, .int .i64, .int .i64, .int .i64, .int .i64, .int .i64, .int .i64]]
 H := [(1, .blk 63 [.rs Jd, .rs Ivs, .int .i64, .int .i64, .int .i64, .int .i64, .rs Jc, (.row 4), (.row 7), (.row 10), (.row 13), (.mp 16), (.row 19), .int .i64, .int .i64]), (4, .arr 51 Iv5), (7, .arr 3 Je), (10, .arr 3 Je), (13, .arr 3 Je), (16, .mpI), (19, .arr 104 Iv4)]
 outs := [⟨false, .int .i64, [(1, .blk 63 [.rs Jd, .rs Ivs, .int .i64, .int .i64, .int .i64, .int .i64, .rs Jc, (.row 63), (.row 7), (.row 10), (.row 13), (.mp 16), (.row 66), .int .i64, .int .i64]), (63, .arr 51 Iv5), (7, .arr 3 Je), (10, .arr 3 Je), (13, .arr 3 Je), (16, .mpI), (66, .arr 104 Iv4)], false⟩]
 spec := Xq9
def Zbg [W : InW] (rl : Ro Jd) := (↑(rl.xs.length) : Int)
def Xiu [W : InW] (n at_ xl xc xb xs xh xd xw xk xm : Int) (rl : Ro Jd) (rc : Ro Ivs) (pr ex lo hi : Int) (rt : Ro Jc) (tm ev : Int) (ls km si ac : Dt) (es : List (Int × Int)) (ps : Dt) (K : Nat -> List Ed -> Prop) : Prop :=
 Pre True (Vif (!!Sp.out Ze (6 : Int) [[Cl.i 6]]) (K 0 [.i (Int.ofNat (1+1)), .ro _ rl, .ro _ rc, .i pr, .i ex, .i lo, .i hi, .ro _ rt, .i tm, .i ev, .l ls, .l km, .l si, .l ac, .m es, .l ps]) (Pre True (Vif (!!Sp.out tm (4800 : Int) [[Cl.i at_]]) (K 0 [.i (Int.ofNat (6+1)), .ro _ rl, .ro _ rc, .i pr, .i ex, .i lo, .i hi, .ro _ rt, .i tm, .i ev, .l ls, .l km, .l si, .l ac, .m es, .l ps]) (Ar .i64 ((Zbg rl) - 1) fun z => Pre True (Vif (!!Sp.out Ze z [[Cl.i xl]]) (K 0 [.i (Int.ofNat (3+1)), .ro _ rl, .ro _ rc, .i pr, .i ex, .i lo, .i hi, .ro _ rt, .i tm, .i n, .l ls, .l km, .l si, .l ac, .m es, .l ps]) (Pre True (Vif (!!Sp.out Ze (10000000 : Int) [[Cl.i xm]]) (K 0 [.i (Int.ofNat (6+1)), .ro _ rl, .ro _ rc, .i pr, .i ex, .i lo, .i hi, .ro _ rt, .i tm, .i n, .l ls, .l km, .l si, .l ac, .m es, .l ps]) (Pre ((Zbg rl) <= 1000) (Pre (Ze <= (Zbg rl) + 3 /\ (Zbg rl) + 3 < (↑(ac.length) : Int) /\ 0 <= xl /\ xl < (↑(ac.length) : Int) /\ Sp.Small xm /\ (∀ (j : Nat), Sp.Small (cel ac j (0 : Nat)).int) /\ (↑(ps.length) : Int) <= 1000) (K 0 [.i Ze, .ro _ rl, .ro _ rc, .i pr, .i ex, .i lo, .i hi, .ro _ rt, .i at_, .i n, .l ls, .l km, .l si, .l (Sp.postA ac ((Zbg rl) + 3) xl xm), .m es, .l (Sp.postP ps n ((Zbg rl) + 3) xl xm)]))))))))))
theorem Xsk (W : InW) (n at_ xl xc xb xs xh xd xw xk xm rl rc pr ex lo hi rt tm ev ls km si ac es ps K) : Yvm (cxT Tryz.prog TT TP4 1000 50) 1000 46 [.ptr 1 0, .si .i64 n, .agg [.v (.int .i64 6), .si .i64 at_, .si .i64 xl, .si .i64 xc, .si .i64 xb, .si .i64 xs, .si .i64 xh, .si .i64 xd, .si .i64 xw, .si .i64 xk, .si .i64 xm]] [(1, .blk 63 [.rs _ rl, .rs _ rc, .si .i64 pr, .si .i64 ex, .si .i64 lo, .si .i64 hi, .rs _ rt, .rw 4, .rw 7, .rw 10, .rw 13, .mp 16, .rw 19, .si .i64 tm, .si .i64 ev]), (4, .arr 51 Iv5 ls), (7, .arr 3 Je km), (10, .arr 3 Je si), (13, .arr 3 Je ac), (16, .obj (.mpI es)), (19, .arr 104 Iv4 ps)] (fun v h => outC Xds.H [.ro _ rl, .ro _ rc, .i pr, .i ex, .i lo, .i hi, .ro _ rt, .i tm, .i ev, .l ls, .l km, .l si, .l ac, .m es, .l ps] Xds.outs 0 false v h K) (fun v h => outC Xds.H [.ro _ rl, .ro _ rc, .i pr, .i ex, .i lo, .i hi, .ro _ rt, .i tm, .i ev, .l ls, .l km, .l si, .l ac, .m es, .l ps] Xds.outs 0 true v h K) = Xiu n at_ xl xc xb xs xh xd xw xk xm rl rc pr ex lo hi rt tm ev ls km si ac es ps K := by kernel_rfl
theorem Xtp (hyp_ : ∀ (W : InW) n at_ xl xc xb xs xh xd xw xk xm rl rc pr ex lo hi rt tm ev ls km si ac es ps K, Xq9 [.i n, .i at_, .i xl, .i xc, .i xb, .i xs, .i xh, .i xd, .i xw, .i xk, .i xm, .ro _ rl, .ro _ rc, .i pr, .i ex, .i lo, .i hi, .ro _ rt, .i tm, .i ev, .l ls, .l km, .l si, .l ac, .m es, .l ps] K -> Xiu n at_ xl xc xb xs xh xd xw xk xm rl rc pr ex lo hi rt tm ev ls km si ac es ps K) : ∀ W : InW, @CallC W Tryz.prog Xds :=
 CC.okOf (fun W => @TT W) (fun W => @Xb W) Xa TP4 1000 50 Xds fun W n at_ xl xc xb xs xh xd xw xk xm rl rc pr ex lo hi rt tm ev ls km si ac es ps K hs => (Xsk W n at_ xl xc xb xs xh xd xw xk xm rl rc pr ex lo hi rt tm ev ls km si ac es ps K).mpr (hyp_ W n at_ xl xc xb xs xh xd xw xk xm rl rc pr ex lo hi rt tm ev ls km si ac es ps K hs)
theorem okdo6 : ∀ W : InW, @CallC W Tryz.prog Xds := Xtp fun W n at_ xl xc xb xs xh xd xw xk xm rl rc pr ex lo hi rt tm ev ls km si ac es ps K hs => by
 obtain ⟨hI, hk⟩ := hs;obtain ⟨late, bad, good⟩ := Xhu (b := ⟨ls, km, si, ac, es, ps, tm, ev⟩) (n := n) (x := ⟨6, at_, xl, xc, xb, xs, xh, xd, xw, xk, xm⟩) (show Sp.inr 6 0 6 = true by decide) hk;clear hk;unfold Xiu;delta Zbg Ze;simp only [out1, Bool.not_not];have hL := hI.rlL;simp only at hL;refine ⟨trivial, vif (fun e => absurd e (by decide)) fun _ => ⟨trivial, vif late fun h1 => ar64 (by omega) ⟨trivial, ?_⟩⟩⟩
 replace bad := bad h1
 replace good := good h1
 simp only [Sp.err] at bad good;refine vif (fun e => bad 4 (by decide) (by simp [e])) fun e => ⟨trivial, vif (fun e2 => bad 7 (by decide) (by simp [e, e2])) fun e2 => ?_⟩;have e' := e;have e2' := e2;rw [Bool.not_eq_false', Sp.inr_iff] at e' e2';refine ⟨by omega, ⟨by omega, by omega, by omega, by omega, by unfold Sp.Small; omega, hI.acS, hI.psL⟩, good (by simp [e, e2])⟩
namespace Sp
theorem eff1 {s : Sch} {b : Bks} {x : Evt} (h : x.kind = 1) : eff s b x = { b with ls := setSt b.ls x.b 1 }.post (cel b.ls x.b.toNat 0).int (school s) (fee s.rt s.pr (cel b.ls x.b.toNat 3).int ((cel b.ls x.b.toNat 2).int - x.at_)) := by simp [eff, h]
theorem eff3 {s : Sch} {b : Bks} {x : Evt} (h : x.kind = 3) : eff s b x = { b with ls := setSt b.ls x.b 2, km := addA b.km (cel b.ls x.b.toNat 1).int x.k, si := addA b.si (cel b.ls x.b.toNat 1).int x.k }.post (cel b.ls x.b.toNat 0).int (school s) ((cel b.ls x.b.toNat 3).int * s.pr) := by simp [eff, h]
theorem eff5 {s : Sch} {b : Bks} {x : Evt} (h : x.kind = 5) : eff s b x = ({ b with ls := setSt b.ls x.b 3 }.post (school s) (school s + 1) (min x.m s.ex)).post (school s + 2) (school s + 1) (x.m - min x.m s.ex) := by simp [eff, h]
theorem err1 {s : Sch} {b : Bks} {x : Evt} (h : x.kind = 1) : err s b x = (if !hasB b.ls x.b 0 then 4 else if x.at_ < (cel b.ls x.b.toNat 2).int then 0 else 2) := by simp [err, h]
theorem err3 {s : Sch} {b : Bks} {x : Evt} (h : x.kind = 3) : err s b x = (if !hasB b.ls x.b 0 then 4 else if x.at_ < (cel b.ls x.b.toNat 2).int + (cel b.ls x.b.toNat 3).int then 2 else if !inr x.k 0 400 then 7
  else if (cel s.rc (cel b.ls x.b.toNat 1).int.toNat 2).int < (cel b.si (cel b.ls x.b.toNat 1).int.toNat 0).int then 9 else 0) := by simp [err, h]
theorem err5 {s : Sch} {b : Bks} {x : Evt} (h : x.kind = 5) : err s b x = (if !hasB b.ls x.b 2 then 4 else if !inr x.m 0 10000000 then 7 else 0) := by simp [err, h]
theorem fee_in {rt : Dt} {pr hours : Int} (hf : FeesOk rt) (hh : 1 <= hours /\ hours <= 4) (hp : 1 <= pr /\ pr <= 10000) (b : Int) : 0 <= fee rt pr hours b /\ fee rt pr hours b <= 40000 := by
 have hx : 0 <= hours * pr := Int.mul_nonneg (by omega) (by omega);have hx2 : hours * pr <= 4 * 10000 := Int.mul_le_mul hh.2 hp.2 (by omega) (by omega);have h2 := Xmv (b := b) rt.length 1000 (Nat.le_refl _) hf (by decide) (by decide);have m2 : hours * pr * part rt b rt.length 1000 <= hours * pr * 1000 := Int.mul_le_mul_of_nonneg_left h2.2 hx;have m3 : 0 <= hours * pr * part rt b rt.length 1000 := Int.mul_nonneg hx h2.1;unfold fee;generalize part rt b rt.length 1000 = u at *;generalize hours * pr = x at *;generalize x * u = xu at *;rw [Int.tdiv_eq_ediv_of_nonneg (by omega)];omega
theorem addA_len (a : Dt) (i c : Int) : (addA a i c).length = a.length := by simp [addA]
theorem postA_len (a : Dt) (i j c : Int) : (postA a i j c).length = a.length := by
 unfold postA
 split <;> simp [addA_len]
theorem addA_bd {a : Dt} {m d : Int} (h : ∀ j, -m <= (cel a j 0).int /\ (cel a j 0).int <= m) {c : Int} (hc : -d <= c /\ c <= d) (i : Int) (j : Nat) : -(m + d) <= (cel (addA a i c) j 0).int /\ (cel (addA a i c) j 0).int <= m + d := by
 unfold addA;rw [Xb1];have h1 := h j;have h2 := h i.toNat
 split
 ·simp [Cl.int];simp [Cl.int] at h2;omega
 ·omega
theorem postA_bd {a : Dt} {m d : Int} (h : ∀ j, -m <= (cel a j 0).int /\ (cel a j 0).int <= m) {c : Int} (hc : -d <= c /\ c <= d) (i k : Int) (j : Nat) : -(m + 2 * d) <= (cel (postA a i k c) j 0).int /\ (cel (postA a i k c) j 0).int <= m + 2 * d := by
 unfold postA
 split
 ·have := h j;omega
 ·have := addA_bd (addA_bd h (c := -c) (d := d) (by omega) i) hc k j;omega
theorem postP_len (ps : Dt) (ev i j c : Int) : (postP ps ev i j c).length <= ps.length + 1 := by
 unfold postP
 split <;> simp
theorem setCls_get (l : List Cl) (cs : List Cl) : ∀ (n k : Nat), k < n -> (Ymx l n cs).getD k .z = l.getD k .z := by
 intro n
 induction n generalizing l with
 | zero => intro k hk; omega
 | succ n ih =>
  intro k hk;cases k with
  | zero => cases l <;> simp [Ymx]
  | succ k =>
   have := ih l.tail k (by omega);cases l <;> simpa [Ymx] using this
theorem row_of {ls : Dt} {i : Nat} (h : i < ls.length) : ∃ r, ls[i]? = some r /\ ls.getD i [] = r /\ ∀ v k, k < 4 -> cel (ls.set i (Ymx r 4 [v])) i k = cel ls i k := by
 refine ⟨ls[i], List.getElem?_eq_getElem h, by simp [List.getD_eq_getElem?_getD, h], fun v k hk => ?_⟩;rw [Xb1, if_pos ⟨rfl, h⟩, setCls_get _ _ _ _ hk];simp [cel, List.getD_eq_getElem?_getD, h]
end Sp
def Xra [InW] : List Ed -> (Nat -> List Ed -> Prop) -> Prop := Xdh 5
noncomputable def Xdt : CC where
 g := 46
 args := [(.ptr 1 0), .int .i64, .agg [(.lit (.int .i64 5)), .int .i64, .int .i64, .int .i64, .int .i64, .int .i64, .int .i64, .int .i64, .int .i64, .int .i64, .int .i64]]
 H := [(1, .blk 63 [.rs Jd, .rs Ivs, .int .i64, .int .i64, .int .i64, .int .i64, .rs Jc, (.row 4), (.row 7), (.row 10), (.row 13), (.mp 16), (.row 19), .int .i64, .int .i64]), (4, .arr 51 Iv5), (7, .arr 3 Je), (10, .arr 3 Je), (13, .arr 3 Je), (16, .mpI), (19, .arr 104 Iv4)]
 outs := [⟨false, .int .i64, [(1, .blk 63 [.rs Jd, .rs Ivs, .int .i64, .int .i64, .int .i64, .int .i64, .rs Jc, (.row 63), (.row 7), (.row 10), (.row 13), (.mp 16), (.row 66), .int .i64, .int .i64]), (63, .arr 51 Iv5), (7, .arr 3 Je), (10, .arr 3 Je), (13, .arr 3 Je), (16, .mpI), (66, .arr 104 Iv4)], false⟩]
 spec := Xra
def Zbh [W : InW] (rl : Ro Jd) := (↑(rl.xs.length) : Int)
def Xiv [W : InW] (n at_ xl xc xb xs xh xd xw xk xm : Int) (rl : Ro Jd) (rc : Ro Ivs) (pr ex lo hi : Int) (rt : Ro Jc) (tm ev : Int) (ls km si ac : Dt) (es : List (Int × Int)) (ps : Dt) (K : Nat -> List Ed -> Prop) : Prop :=
 Pre True (Vif (!!Sp.out Ze (6 : Int) [[Cl.i 5]]) (K 0 [.i (Int.ofNat (1+1)), .ro _ rl, .ro _ rc, .i pr, .i ex, .i lo, .i hi, .ro _ rt, .i tm, .i ev, .l ls, .l km, .l si, .l ac, .m es, .l ps]) (Pre True (Vif (!!Sp.out tm (4800 : Int) [[Cl.i at_]]) (K 0 [.i (Int.ofNat (6+1)), .ro _ rl, .ro _ rc, .i pr, .i ex, .i lo, .i hi, .ro _ rt, .i tm, .i ev, .l ls, .l km, .l si, .l ac, .m es, .l ps]) (Ar .i64 ((↑(ls.length) : Int) - 1) fun z => Pre True (Vif (!Sp.out Ze z [[Cl.i xb]]) (Need (decide (0 <= xb) && decide (xb < (↑(ls.length) : Int))) (Need (decide (xb.toNat < ls.length)) (Vif (!decide ((cel ls xb.toNat (3+1)).int = 2)) (K 0 [.i (Int.ofNat (3+1)), .ro _ rl, .ro _ rc, .i pr, .i ex, .i lo, .i hi, .ro _ rt, .i tm, .i n, .l ls, .l km, .l si, .l ac, .m es, .l ps]) (Need (decide (0 <= xb) && decide (xb < (↑(ls.length) : Int))) (Pre True (Vif (!!Sp.out Ze (10000000 : Int) [[Cl.i xm]]) (K 0 [.i (Int.ofNat (6+1)), .ro _ rl, .ro _ rc, .i pr, .i ex, .i lo, .i hi, .ro _ rt, .i tm, .i n, .l ls, .l km, .l si, .l ac, .m es, .l ps]) (Need (decide (xb.toNat < ls.length)) (Pre ((Zbh rl) <= 1000) (Pre ((Zbh rl) <= 1000) (Pre (Ze <= (Zbh rl) /\ (Zbh rl) < (↑(ac.length) : Int) /\ Ze <= (Zbh rl) + 1 /\ (Zbh rl) + 1 < (↑(ac.length) : Int) /\ Sp.Small (min xm ex) /\ (∀ (j : Nat), Sp.Small (cel ac j (0 : Nat)).int) /\ (↑(ps.length) : Int) <= 1000) (Pre ((Zbh rl) <= 1000) (Pre ((Zbh rl) <= 1000) (Ar .i64 (xm - min xm ex) fun z => Pre (Ze <= (Zbh rl) + 2 /\ (Zbh rl) + 2 < (↑(List.length (Sp.postA ac (Zbh rl) ((Zbh rl) + 1) (min xm ex))) : Int) /\ Ze <= (Zbh rl) + 1 /\ (Zbh rl) + 1 < (↑(List.length (Sp.postA ac (Zbh rl) ((Zbh rl) + 1) (min xm ex))) : Int) /\ Sp.Small z /\ (∀ (j : Nat), Sp.Small (cel (Sp.postA ac (Zbh rl) ((Zbh rl) + 1) (min xm ex)) j (0 : Nat)).int) /\ (↑(List.length (Sp.postP ps n (Zbh rl) ((Zbh rl) + 1) (min xm ex))) : Int) <= 1000) (K 0 [.i Ze, .ro _ rl, .ro _ rc, .i pr, .i ex, .i lo, .i hi, .ro _ rt, .i at_, .i n, .l (List.set ls xb.toNat (Ymx (List.getD ls xb.toNat []) (3+1) [Cl.i 3])), .l km, .l si, .l (Sp.postA (Sp.postA ac (Zbh rl) ((Zbh rl) + 1) (min xm ex)) ((Zbh rl) + 2) ((Zbh rl) + 1) z), .m es, .l (Sp.postP (Sp.postP ps n (Zbh rl) ((Zbh rl) + 1) (min xm ex)) n ((Zbh rl) + 2) ((Zbh rl) + 1) z)])))))))))))))) (K 0 [.i (Int.ofNat (3+1)), .ro _ rl, .ro _ rc, .i pr, .i ex, .i lo, .i hi, .ro _ rt, .i tm, .i n, .l ls, .l km, .l si, .l ac, .m es, .l ps]))))))
theorem Xsl (W : InW) (n at_ xl xc xb xs xh xd xw xk xm rl rc pr ex lo hi rt tm ev ls km si ac es ps K) : Yvm (cxT Tryz.prog TT TP4 1000 50) 1000 46 [.ptr 1 0, .si .i64 n, .agg [.v (.int .i64 5), .si .i64 at_, .si .i64 xl, .si .i64 xc, .si .i64 xb, .si .i64 xs, .si .i64 xh, .si .i64 xd, .si .i64 xw, .si .i64 xk, .si .i64 xm]] [(1, .blk 63 [.rs _ rl, .rs _ rc, .si .i64 pr, .si .i64 ex, .si .i64 lo, .si .i64 hi, .rs _ rt, .rw 4, .rw 7, .rw 10, .rw 13, .mp 16, .rw 19, .si .i64 tm, .si .i64 ev]), (4, .arr 51 Iv5 ls), (7, .arr 3 Je km), (10, .arr 3 Je si), (13, .arr 3 Je ac), (16, .obj (.mpI es)), (19, .arr 104 Iv4 ps)] (fun v h => outC Xdt.H [.ro _ rl, .ro _ rc, .i pr, .i ex, .i lo, .i hi, .ro _ rt, .i tm, .i ev, .l ls, .l km, .l si, .l ac, .m es, .l ps] Xdt.outs 0 false v h K) (fun v h => outC Xdt.H [.ro _ rl, .ro _ rc, .i pr, .i ex, .i lo, .i hi, .ro _ rt, .i tm, .i ev, .l ls, .l km, .l si, .l ac, .m es, .l ps] Xdt.outs 0 true v h K) = Xiv n at_ xl xc xb xs xh xd xw xk xm rl rc pr ex lo hi rt tm ev ls km si ac es ps K := by kernel_rfl
theorem Xtq (hyp_ : ∀ (W : InW) n at_ xl xc xb xs xh xd xw xk xm rl rc pr ex lo hi rt tm ev ls km si ac es ps K, Xra [.i n, .i at_, .i xl, .i xc, .i xb, .i xs, .i xh, .i xd, .i xw, .i xk, .i xm, .ro _ rl, .ro _ rc, .i pr, .i ex, .i lo, .i hi, .ro _ rt, .i tm, .i ev, .l ls, .l km, .l si, .l ac, .m es, .l ps] K -> Xiv n at_ xl xc xb xs xh xd xw xk xm rl rc pr ex lo hi rt tm ev ls km si ac es ps K) : ∀ W : InW, @CallC W Tryz.prog Xdt :=
 CC.okOf (fun W => @TT W) (fun W => @Xb W) Xa TP4 1000 50 Xdt fun W n at_ xl xc xb xs xh xd xw xk xm rl rc pr ex lo hi rt tm ev ls km si ac es ps K hs => (Xsl W n at_ xl xc xb xs xh xd xw xk xm rl rc pr ex lo hi rt tm ev ls km si ac es ps K).mpr (hyp_ W n at_ xl xc xb xs xh xd xw xk xm rl rc pr ex lo hi rt tm ev ls km si ac es ps K hs)
theorem okdo5 : ∀ W : InW, @CallC W Tryz.prog Xdt := Xtq fun W n at_ xl xc xb xs xh xd xw xk xm rl rc pr ex lo hi rt tm ev ls km si ac es ps K hs => by
 obtain ⟨hI, hk⟩ := hs;obtain ⟨late, bad, good⟩ := Xhu (b := ⟨ls, km, si, ac, es, ps, tm, ev⟩) (n := n) (x := ⟨5, at_, xl, xc, xb, xs, xh, xd, xw, xk, xm⟩) (show Sp.inr 5 0 6 = true by decide) hk;clear hk;have hL := hI.rlL;have hM := hI.many;have hN := hI.nn;simp only at hL hM;unfold Xiv;delta Zbh Ze;simp only [out1, Bool.not_not, Nat.zero_add, Nat.reduceAdd];refine ⟨trivial, vif (fun e => absurd e (by decide)) fun _ => ⟨trivial, vif late fun h1 => ar64 (by omega) ⟨trivial, ?_⟩⟩⟩
 replace bad := bad h1
 replace good := good h1
 rw [Sp.err5 rfl] at bad good;refine vif (fun e => ?_) fun e => bad 4 (by decide) (by simp [Sp.hasB, e]);have hx := Sp.inr_iff.1 e;have hi1 : xb.toNat < ls.length := by omega
 obtain ⟨r, hr, hg, hc⟩ := Sp.row_of hi1;have hc0 := fun v => hc v 0 (by decide);have hc1 := fun v => hc v 1 (by decide);have hc2 := fun v => hc v 2 (by decide);have hc3 := fun v => hc v 3 (by decide);have hl := hI.ls _ hi1;simp only at hl;simp only [hr, hg, hc0, hc1, hc2, hc3, List.length_set];refine ned (by simp; omega) (nedd hi1 (vif (fun e2 => bad 4 (by decide) (by have f := (by simpa using e2 : ¬ _); simp [Sp.hasB, f])) fun e2 => ned (by simp; omega) ⟨trivial, vif (fun e3 => bad 7 (by decide) (by simp [Sp.hasB, e, e3]; simpa using e2)) fun e3 => nedd hi1 ?_⟩));have e3' := e3;rw [Bool.not_eq_false', Sp.inr_iff] at e3';have hE := hI.sch.excess;simp only at hE;have hmn : 0 <= min xm ex /\ min xm ex <= 10000000 := by omega
 have hac : ∀ j, -2400000000 <= (cel ac j 0).int /\ (cel ac j 0).int <= 2400000000 := fun j => by have := hI.ac.2 j; simp only at this; omega
 have ha := Sp.postA_bd hac (c := min xm ex) (d := 10000000) (by omega) rl.xs.length (rl.xs.length + 1);have hp := Sp.postP_len ps n rl.xs.length (rl.xs.length + 1) (min xm ex);have hps := hI.ps;simp only at hps;refine ⟨by omega, by omega, ⟨by omega, by omega, by omega, by omega, by show Sp.Small (min xm ex); unfold Sp.Small; omega, hI.acS, by omega⟩, by omega, by omega, ar64 (by show _ <= xm - min xm ex /\ xm - min xm ex <= _; omega) ⟨⟨by omega, ?_, by omega, ?_, ?_, ?_, ?_⟩, ?_⟩⟩
 ·rw [Sp.postA_len]; omega
 ·rw [Sp.postA_len]; omega
 ·show Sp.Small (xm - min xm ex); unfold Sp.Small; omega
 ·intro j; have := ha j; show Sp.Small (cel (Sp.postA ac rl.xs.length (rl.xs.length + 1) (min xm ex)) j 0).int; unfold Sp.Small; omega
 ·show ((Sp.postP ps n rl.xs.length (rl.xs.length + 1) (min xm ex)).length : Int) <= 1000; omega
 ·have g := good (by simp [Sp.hasB, e, e3]; simpa using e2);rw [Sp.eff5 rfl] at g;unfold Sp.Bks.post Sp.setSt at g;simp only [hg] at g;exact g
def Xre [InW] : List Ed -> (Nat -> List Ed -> Prop) -> Prop := Xdh 1
noncomputable def Xdx : CC where
 g := 46
 args := [(.ptr 1 0), .int .i64, .agg [(.lit (.int .i64 1)), .int .i64, .int .i64, .int .i64, .int .i64, .int .i64, .int .i64, .int .i64, .int .i64, .int .i64, .int .i64]]
 H := [(1, .blk 63 [.rs Jd, .rs Ivs, .int .i64, .int .i64, .int .i64, .int .i64, .rs Jc, (.row 4), (.row 7), (.row 10), (.row 13), (.mp 16), (.row 19), .int .i64, .int .i64]), (4, .arr 51 Iv5), (7, .arr 3 Je), (10, .arr 3 Je), (13, .arr 3 Je), (16, .mpI), (19, .arr 104 Iv4)]
 outs := [⟨false, .int .i64, [(1, .blk 63 [.rs Jd, .rs Ivs, .int .i64, .int .i64, .int .i64, .int .i64, .rs Jc, (.row 63), (.row 7), (.row 10), (.row 13), (.mp 16), (.row 66), .int .i64, .int .i64]), (63, .arr 51 Iv5), (7, .arr 3 Je), (10, .arr 3 Je), (13, .arr 3 Je), (16, .mpI), (66, .arr 104 Iv4)], false⟩]
 spec := Xre
def Zbi [W : InW] (xb : Int) (ls : Dt) := List.set ls xb.toNat (Ymx (List.getD ls xb.toNat []) (3+1) [Cl.i 1])
def Zbj [W : InW] (xb : Int) (ls : Dt) := cel (Zbi xb ls) xb.toNat (2+1)
def Xiz [W : InW] (n at_ xl xc xb xs xh xd xw xk xm : Int) (rl : Ro Jd) (rc : Ro Ivs) (pr ex lo hi : Int) (rt : Ro Jc) (tm ev : Int) (ls km si ac : Dt) (es : List (Int × Int)) (ps : Dt) (K : Nat -> List Ed -> Prop) : Prop :=
 Pre True (Vif (!!Sp.out Ze (6 : Int) [[Cl.i 1]]) (K 0 [.i (Int.ofNat (1+1)), .ro _ rl, .ro _ rc, .i pr, .i ex, .i lo, .i hi, .ro _ rt, .i tm, .i ev, .l ls, .l km, .l si, .l ac, .m es, .l ps]) (Pre True (Vif (!!Sp.out tm (4800 : Int) [[Cl.i at_]]) (K 0 [.i (Int.ofNat (6+1)), .ro _ rl, .ro _ rc, .i pr, .i ex, .i lo, .i hi, .ro _ rt, .i tm, .i ev, .l ls, .l km, .l si, .l ac, .m es, .l ps]) (Ar .i64 ((↑(ls.length) : Int) - 1) fun z => Pre True (Vif (!Sp.out Ze z [[Cl.i xb]]) (Need (decide (0 <= xb) && decide (xb < (↑(ls.length) : Int))) (Need (decide (xb.toNat < ls.length)) (Vif (!decide ((cel ls xb.toNat (3+1)).int = 0)) (K 0 [.i (Int.ofNat (3+1)), .ro _ rl, .ro _ rc, .i pr, .i ex, .i lo, .i hi, .ro _ rt, .i tm, .i n, .l ls, .l km, .l si, .l ac, .m es, .l ps]) (Need (decide (0 <= xb) && decide (xb < (↑(ls.length) : Int))) (Need (decide (xb.toNat < ls.length)) (Vif (!decide (at_ < (cel ls xb.toNat (1+1)).int)) (K 0 [.i (Int.ofNat (1+1)), .ro _ rl, .ro _ rc, .i pr, .i ex, .i lo, .i hi, .ro _ rt, .i tm, .i n, .l ls, .l km, .l si, .l ac, .m es, .l ps]) (Need (decide (xb.toNat < ls.length)) (Need (decide (xb.toNat < (Zbi xb ls).length)) (Pre ((↑(rl.xs.length) : Int) <= 1000) (Need (decide (xb.toNat < (Zbi xb ls).length)) (Need (decide (xb.toNat < (Zbi xb ls).length)) (Ar .i64 ((cel (Zbi xb ls) xb.toNat (1+1)).int - at_) fun z => Pre (Ze <= (Zbj xb ls).int /\ (Zbj xb ls).int <= 100000 /\ 0 <= pr /\ pr <= 10000 /\ Sp.FeesOk rt.xs) (Pre (Ze <= (cel (Zbi xb ls) xb.toNat Zh).int /\ (cel (Zbi xb ls) xb.toNat Zh).int < (↑(ac.length) : Int) /\ Ze <= (↑(rl.xs.length) : Int) /\ (↑(rl.xs.length) : Int) < (↑(ac.length) : Int) /\ Sp.Small (Sp.fee rt.xs pr (Zbj xb ls).int z) /\ (∀ (j : Nat), Sp.Small (cel ac j Zh).int) /\ (↑(ps.length) : Int) <= 1000) (K 0 [.i Ze, .ro _ rl, .ro _ rc, .i pr, .i ex, .i lo, .i hi, .ro _ rt, .i at_, .i n, .l (Zbi xb ls), .l km, .l si, .l (Sp.postA ac (cel (Zbi xb ls) xb.toNat Zh).int (↑(rl.xs.length) : Int) (Sp.fee rt.xs pr (Zbj xb ls).int z)), .m es, .l (Sp.postP ps n (cel (Zbi xb ls) xb.toNat Zh).int (↑(rl.xs.length) : Int) (Sp.fee rt.xs pr (Zbj xb ls).int z))])))))))))))))) (K 0 [.i (Int.ofNat (3+1)), .ro _ rl, .ro _ rc, .i pr, .i ex, .i lo, .i hi, .ro _ rt, .i tm, .i n, .l ls, .l km, .l si, .l ac, .m es, .l ps]))))))
theorem Xsp (W : InW) (n at_ xl xc xb xs xh xd xw xk xm rl rc pr ex lo hi rt tm ev ls km si ac es ps K) : Yvm (cxT Tryz.prog TT TP4 1000 50) 1000 46 [.ptr 1 0, .si .i64 n, .agg [.v (.int .i64 1), .si .i64 at_, .si .i64 xl, .si .i64 xc, .si .i64 xb, .si .i64 xs, .si .i64 xh, .si .i64 xd, .si .i64 xw, .si .i64 xk, .si .i64 xm]] [(1, .blk 63 [.rs _ rl, .rs _ rc, .si .i64 pr, .si .i64 ex, .si .i64 lo, .si .i64 hi, .rs _ rt, .rw 4, .rw 7, .rw 10, .rw 13, .mp 16, .rw 19, .si .i64 tm, .si .i64 ev]), (4, .arr 51 Iv5 ls), (7, .arr 3 Je km), (10, .arr 3 Je si), (13, .arr 3 Je ac), (16, .obj (.mpI es)), (19, .arr 104 Iv4 ps)] (fun v h => outC Xdx.H [.ro _ rl, .ro _ rc, .i pr, .i ex, .i lo, .i hi, .ro _ rt, .i tm, .i ev, .l ls, .l km, .l si, .l ac, .m es, .l ps] Xdx.outs 0 false v h K) (fun v h => outC Xdx.H [.ro _ rl, .ro _ rc, .i pr, .i ex, .i lo, .i hi, .ro _ rt, .i tm, .i ev, .l ls, .l km, .l si, .l ac, .m es, .l ps] Xdx.outs 0 true v h K) = Xiz n at_ xl xc xb xs xh xd xw xk xm rl rc pr ex lo hi rt tm ev ls km si ac es ps K := by kernel_rfl
theorem Xtu (hyp_ : ∀ (W : InW) n at_ xl xc xb xs xh xd xw xk xm rl rc pr ex lo hi rt tm ev ls km si ac es ps K, Xre [.i n, .i at_, .i xl, .i xc, .i xb, .i xs, .i xh, .i xd, .i xw, .i xk, .i xm, .ro _ rl, .ro _ rc, .i pr, .i ex, .i lo, .i hi, .ro _ rt, .i tm, .i ev, .l ls, .l km, .l si, .l ac, .m es, .l ps] K -> Xiz n at_ xl xc xb xs xh xd xw xk xm rl rc pr ex lo hi rt tm ev ls km si ac es ps K) : ∀ W : InW, @CallC W Tryz.prog Xdx :=
 CC.okOf (fun W => @TT W) (fun W => @Xb W) Xa TP4 1000 50 Xdx fun W n at_ xl xc xb xs xh xd xw xk xm rl rc pr ex lo hi rt tm ev ls km si ac es ps K hs => (Xsp W n at_ xl xc xb xs xh xd xw xk xm rl rc pr ex lo hi rt tm ev ls km si ac es ps K).mpr (hyp_ W n at_ xl xc xb xs xh xd xw xk xm rl rc pr ex lo hi rt tm ev ls km si ac es ps K hs)
theorem okdo1 : ∀ W : InW, @CallC W Tryz.prog Xdx := Xtu fun W n at_ xl xc xb xs xh xd xw xk xm rl rc pr ex lo hi rt tm ev ls km si ac es ps K hs => by
 obtain ⟨hI, hk⟩ := hs;obtain ⟨late, bad, good⟩ := Xhu (b := ⟨ls, km, si, ac, es, ps, tm, ev⟩) (n := n) (x := ⟨1, at_, xl, xc, xb, xs, xh, xd, xw, xk, xm⟩) (show Sp.inr 1 0 6 = true by decide) hk;clear hk;have hL := hI.rlL;have hM := hI.many;have hN := hI.nn;simp only at hL hM;unfold Xiz;delta Zbj Zbi Zh Ze;simp only [out1, Bool.not_not, Nat.zero_add, Nat.reduceAdd];refine ⟨trivial, vif (fun e => absurd e (by decide)) fun _ => ⟨trivial, vif late fun h1 => ar64 (by omega) ⟨trivial, ?_⟩⟩⟩
 replace bad := bad h1
 replace good := good h1
 rw [Sp.err1 rfl] at bad good;refine vif (fun e => ?_) fun e => bad 4 (by decide) (by simp [Sp.hasB, e]);have hx := Sp.inr_iff.1 e;have hi1 : xb.toNat < ls.length := by omega
 obtain ⟨r, hr, hg, hc⟩ := Sp.row_of hi1;have hc0 := fun v => hc v 0 (by decide);have hc1 := fun v => hc v 1 (by decide);have hc2 := fun v => hc v 2 (by decide);have hc3 := fun v => hc v 3 (by decide);have hl := hI.ls _ hi1;simp only at hl;simp only [hr, hg, hc0, hc1, hc2, hc3, List.length_set];refine ned (by simp; omega) (nedd hi1 (vif (fun e2 => bad 4 (by decide) (by have f := (by simpa using e2 : ¬ _); simp [Sp.hasB, f])) fun e2 => ned (by simp; omega) (nedd hi1 (vif (fun e3 => bad 2 (by decide) (by simp [Sp.hasB, e]; simp at e2 e3; omega)) fun e3 => nedd hi1 (nedd hi1 ⟨by omega, nedd hi1 (nedd hi1 ?_)⟩)))));have e3' : at_ < (cel ls xb.toNat 2).int := by simpa using e3
 have e2' : (cel ls xb.toNat 4).int = 0 := by simpa using e2
 have hT := hI.tm;simp only at hT;have hA : tm <= at_ := by rw [Bool.not_eq_false', Sp.inr_iff] at h1; exact h1.1
 have hP := hI.sch.price;have hF := hI.sch.fees;simp only at hP hF;have hf : Sp.Small (Sp.fee rt.xs pr (cel ls xb.toNat 3).int ((cel ls xb.toNat 2).int - at_)) := by
  have := Sp.fee_in hF hl.2.2.2 hP ((cel ls xb.toNat 2).int - at_);unfold Sp.Small; omega
 refine ar64 (by omega) ⟨⟨by omega, by omega, by omega, by omega, hF⟩, ⟨by omega, by omega, by omega, by omega, hf, hI.acS, hI.psL⟩, ?_⟩;have g := good (by simp [Sp.hasB, e, e2', e3']);rw [Sp.eff1 rfl] at g;unfold Sp.Bks.post Sp.setSt at g;simp only [hg] at g;exact g
def Xrc [InW] : List Ed -> (Nat -> List Ed -> Prop) -> Prop := Xdh 3
noncomputable def Xdv : CC where
 g := 46
 args := [(.ptr 1 0), .int .i64, .agg [(.lit (.int .i64 3)), .int .i64, .int .i64, .int .i64, .int .i64, .int .i64, .int .i64, .int .i64, .int .i64, .int .i64, .int .i64]]
 H := [(1, .blk 63 [.rs Jd, .rs Ivs, .int .i64, .int .i64, .int .i64, .int .i64, .rs Jc, (.row 4), (.row 7), (.row 10), (.row 13), (.mp 16), (.row 19), .int .i64, .int .i64]), (4, .arr 51 Iv5), (7, .arr 3 Je), (10, .arr 3 Je), (13, .arr 3 Je), (16, .mpI), (19, .arr 104 Iv4)]
 outs := [⟨false, .int .i64, [(1, .blk 63 [.rs Jd, .rs Ivs, .int .i64, .int .i64, .int .i64, .int .i64, .rs Jc, (.row 63), (.row 7), (.row 10), (.row 13), (.mp 16), (.row 66), .int .i64, .int .i64]), (63, .arr 51 Iv5), (7, .arr 3 Je), (10, .arr 3 Je), (13, .arr 3 Je), (16, .mpI), (66, .arr 104 Iv4)], false⟩]
 spec := Xrc
def Zbm [W : InW] (xb : Int) (ls : Dt) := decide (xb.toNat < ls.length)
def Zbk [W : InW] (xb : Int) (ls : Dt) := List.set ls xb.toNat (Ymx (List.getD ls xb.toNat []) (3+1) [Cl.i 2])
def Zbn [W : InW] (xb : Int) (ls : Dt) := decide (xb.toNat < (Zbk xb ls).length)
def Zbl [W : InW] (xb : Int) (ls : Dt) := cel (Zbk xb ls) xb.toNat (0+1)
def Xix [W : InW] (n at_ xl xc xb xs xh xd xw xk xm : Int) (rl : Ro Jd) (rc : Ro Ivs) (pr ex lo hi : Int) (rt : Ro Jc) (tm ev : Int) (ls km si ac : Dt) (es : List (Int × Int)) (ps : Dt) (K : Nat -> List Ed -> Prop) : Prop :=
 Pre True (Vif (!!Sp.out Ze (6 : Int) [[Cl.i 3]]) (K 0 [.i (Int.ofNat (1+1)), .ro _ rl, .ro _ rc, .i pr, .i ex, .i lo, .i hi, .ro _ rt, .i tm, .i ev, .l ls, .l km, .l si, .l ac, .m es, .l ps]) (Pre True (Vif (!!Sp.out tm (4800 : Int) [[Cl.i at_]]) (K 0 [.i (Int.ofNat (6+1)), .ro _ rl, .ro _ rc, .i pr, .i ex, .i lo, .i hi, .ro _ rt, .i tm, .i ev, .l ls, .l km, .l si, .l ac, .m es, .l ps]) (Ar .i64 ((↑(ls.length) : Int) - 1) fun z => Pre True (Vif (!Sp.out Ze z [[Cl.i xb]]) (Need (decide (0 <= xb) && decide (xb < (↑(ls.length) : Int))) (Need (Zbm xb ls) (Vif (!decide ((cel ls xb.toNat (3+1)).int = 0)) (K 0 [.i (Int.ofNat (3+1)), .ro _ rl, .ro _ rc, .i pr, .i ex, .i lo, .i hi, .ro _ rt, .i tm, .i n, .l ls, .l km, .l si, .l ac, .m es, .l ps]) (Need (decide (0 <= xb) && decide (xb < (↑(ls.length) : Int))) (Need (Zbm xb ls) (Need (Zbm xb ls) (Ar .i64 ((cel ls xb.toNat (1+1)).int + (cel ls xb.toNat (2+1)).int) fun z => Vif (!decide (z <= at_)) (K 0 [.i (Int.ofNat (1+1)), .ro _ rl, .ro _ rc, .i pr, .i ex, .i lo, .i hi, .ro _ rt, .i tm, .i n, .l ls, .l km, .l si, .l ac, .m es, .l ps]) (Pre True (Vif (!!Sp.out Ze (400 : Int) [[Cl.i xk]]) (K 0 [.i (Int.ofNat (6+1)), .ro _ rl, .ro _ rc, .i pr, .i ex, .i lo, .i hi, .ro _ rt, .i tm, .i n, .l ls, .l km, .l si, .l ac, .m es, .l ps]) (Need (Zbm xb ls) (Need (decide (Ze <= (cel ls xb.toNat (0+1)).int) && decide ((cel ls xb.toNat (0+1)).int < (↑(si.length) : Int))) (Need (decide ((cel ls xb.toNat (0+1)).int.toNat < si.length)) (Need (Zbm xb ls) (Need (decide (Ze <= (cel ls xb.toNat (0+1)).int) && decide ((cel ls xb.toNat (0+1)).int < (↑(rc.xs.length) : Int))) (Need (decide ((cel ls xb.toNat (0+1)).int.toNat < rc.xs.length)) (Vif (!decide ((cel si (cel ls xb.toNat (0+1)).int.toNat Zh).int <= (cel rc.xs (cel ls xb.toNat (0+1)).int.toNat (1+1)).int)) (K 0 [.i (Int.ofNat (8+1)), .ro _ rl, .ro _ rc, .i pr, .i ex, .i lo, .i hi, .ro _ rt, .i tm, .i n, .l ls, .l km, .l si, .l ac, .m es, .l ps]) (Need (Zbm xb ls) (Need (Zbn xb ls) (Need (decide (Ze <= (Zbl xb ls).int) && decide ((Zbl xb ls).int < (↑(km.length) : Int))) (Need (decide ((Zbl xb ls).int.toNat < km.length)) (Ar .i64 ((cel km (Zbl xb ls).int.toNat Zh).int + xk) fun z => Need (decide (Ze <= (Zbl xb ls).int) && decide ((Zbl xb ls).int < (↑(km.length) : Int))) (Need (decide ((Zbl xb ls).int.toNat < km.length)) (Need (Zbn xb ls) (Need (decide (Ze <= (Zbl xb ls).int) && decide ((Zbl xb ls).int < (↑(si.length) : Int))) (Need (decide ((Zbl xb ls).int.toNat < si.length)) (Ar .i64 ((cel si (Zbl xb ls).int.toNat Zh).int + xk) fun z_1 => Need (decide (Ze <= (Zbl xb ls).int) && decide ((Zbl xb ls).int < (↑(si.length) : Int))) (Need (decide ((Zbl xb ls).int.toNat < si.length)) (Need (Zbn xb ls) (Pre ((↑(rl.xs.length) : Int) <= 1000) (Need (Zbn xb ls) (Ar .i64 ((cel (Zbk xb ls) xb.toNat (2+1)).int * pr) fun z_2 => Pre (Ze <= (cel (Zbk xb ls) xb.toNat Zh).int /\ (cel (Zbk xb ls) xb.toNat Zh).int < (↑(ac.length) : Int) /\ Ze <= (↑(rl.xs.length) : Int) /\ (↑(rl.xs.length) : Int) < (↑(ac.length) : Int) /\ Sp.Small z_2 /\ (∀ (j : Nat), Sp.Small (cel ac j Zh).int) /\ (↑(ps.length) : Int) <= 1000) (K 0 [.i Ze, .ro _ rl, .ro _ rc, .i pr, .i ex, .i lo, .i hi, .ro _ rt, .i at_, .i n, .l (Zbk xb ls), .l (List.set km (Zbl xb ls).int.toNat [Cl.i z]), .l (List.set si (Zbl xb ls).int.toNat [Cl.i z_1]), .l (Sp.postA ac (cel (Zbk xb ls) xb.toNat Zh).int (↑(rl.xs.length) : Int) z_2), .m es, .l (Sp.postP ps n (cel (Zbk xb ls) xb.toNat Zh).int (↑(rl.xs.length) : Int) z_2)])))))))))))))))))))))))))))))))) (K 0 [.i (Int.ofNat (3+1)), .ro _ rl, .ro _ rc, .i pr, .i ex, .i lo, .i hi, .ro _ rt, .i tm, .i n, .l ls, .l km, .l si, .l ac, .m es, .l ps]))))))
theorem Xsn (W : InW) (n at_ xl xc xb xs xh xd xw xk xm rl rc pr ex lo hi rt tm ev ls km si ac es ps K) : Yvm (cxT Tryz.prog TT TP4 1000 50) 1000 46 [.ptr 1 0, .si .i64 n, .agg [.v (.int .i64 3), .si .i64 at_, .si .i64 xl, .si .i64 xc, .si .i64 xb, .si .i64 xs, .si .i64 xh, .si .i64 xd, .si .i64 xw, .si .i64 xk, .si .i64 xm]] [(1, .blk 63 [.rs _ rl, .rs _ rc, .si .i64 pr, .si .i64 ex, .si .i64 lo, .si .i64 hi, .rs _ rt, .rw 4, .rw 7, .rw 10, .rw 13, .mp 16, .rw 19, .si .i64 tm, .si .i64 ev]), (4, .arr 51 Iv5 ls), (7, .arr 3 Je km), (10, .arr 3 Je si), (13, .arr 3 Je ac), (16, .obj (.mpI es)), (19, .arr 104 Iv4 ps)] (fun v h => outC Xdv.H [.ro _ rl, .ro _ rc, .i pr, .i ex, .i lo, .i hi, .ro _ rt, .i tm, .i ev, .l ls, .l km, .l si, .l ac, .m es, .l ps] Xdv.outs 0 false v h K) (fun v h => outC Xdv.H [.ro _ rl, .ro _ rc, .i pr, .i ex, .i lo, .i hi, .ro _ rt, .i tm, .i ev, .l ls, .l km, .l si, .l ac, .m es, .l ps] Xdv.outs 0 true v h K) = Xix n at_ xl xc xb xs xh xd xw xk xm rl rc pr ex lo hi rt tm ev ls km si ac es ps K := by kernel_rfl
theorem Xts (hyp_ : ∀ (W : InW) n at_ xl xc xb xs xh xd xw xk xm rl rc pr ex lo hi rt tm ev ls km si ac es ps K, Xrc [.i n, .i at_, .i xl, .i xc, .i xb, .i xs, .i xh, .i xd, .i xw, .i xk, .i xm, .ro _ rl, .ro _ rc, .i pr, .i ex, .i lo, .i hi, .ro _ rt, .i tm, .i ev, .l ls, .l km, .l si, .l ac, .m es, .l ps] K -> Xix n at_ xl xc xb xs xh xd xw xk xm rl rc pr ex lo hi rt tm ev ls km si ac es ps K) : ∀ W : InW, @CallC W Tryz.prog Xdv :=
 CC.okOf (fun W => @TT W) (fun W => @Xb W) Xa TP4 1000 50 Xdv fun W n at_ xl xc xb xs xh xd xw xk xm rl rc pr ex lo hi rt tm ev ls km si ac es ps K hs => (Xsn W n at_ xl xc xb xs xh xd xw xk xm rl rc pr ex lo hi rt tm ev ls km si ac es ps K).mpr (hyp_ W n at_ xl xc xb xs xh xd xw xk xm rl rc pr ex lo hi rt tm ev ls km si ac es ps K hs)
theorem okdo3 : ∀ W : InW, @CallC W Tryz.prog Xdv := Xts fun W n at_ xl xc xb xs xh xd xw xk xm rl rc pr ex lo hi rt tm ev ls km si ac es ps K hs => by
 obtain ⟨hI, hk⟩ := hs;obtain ⟨late, bad, good⟩ := Xhu (b := ⟨ls, km, si, ac, es, ps, tm, ev⟩) (n := n) (x := ⟨3, at_, xl, xc, xb, xs, xh, xd, xw, xk, xm⟩) (show Sp.inr 3 0 6 = true by decide) hk;clear hk;have hL := hI.rlL;have hM := hI.many;have hN := hI.nn;simp only at hL hM;unfold Xix;delta Zbl Zbn Zh Zbk Ze Zbm;simp only [out1, Bool.not_not, Nat.zero_add, Nat.reduceAdd];refine ⟨trivial, vif (fun e => absurd e (by decide)) fun _ => ⟨trivial, vif late fun h1 => ar64 (by omega) ⟨trivial, ?_⟩⟩⟩
 replace bad := bad h1
 replace good := good h1
 rw [Sp.err3 rfl] at bad good;refine vif (fun e => ?_) fun e => bad 4 (by decide) (by simp [Sp.hasB, e]);have hx := Sp.inr_iff.1 e;have hi1 : xb.toNat < ls.length := by omega
 obtain ⟨r, hr, hg, hc⟩ := Sp.row_of hi1;have hc0 := fun v => hc v 0 (by decide);have hc1 := fun v => hc v 1 (by decide);have hc2 := fun v => hc v 2 (by decide);have hc3 := fun v => hc v 3 (by decide);have hl := hI.ls _ hi1;simp only at hl;simp only [hr, hg, hc0, hc1, hc2, hc3, List.length_set];have hsi := hI.si;have hkm := hI.km;simp only at hsi hkm;have hCs : (cel ls xb.toNat 1).int.toNat < si.length := by omega
 have hCr : (cel ls xb.toNat 1).int.toNat < rc.xs.length := by omega
 have hCk : (cel ls xb.toNat 1).int.toNat < km.length := by omega
 have b1 := hsi.2 _ hCs;have b2 := hkm.2 _ hCk;have hP := hI.sch.price;simp only at hP;have m1 : 0 <= (cel ls xb.toNat 3).int * pr := Int.mul_nonneg (by omega) (by omega);have m2 : (cel ls xb.toNat 3).int * pr <= 4 * 10000 := Int.mul_le_mul hl.2.2.2.2 hP.2 (by omega) (by omega);refine ned (by simp; omega) (nedd hi1 (vif (fun e2 => bad 4 (by decide) (by have f := (by simpa using e2 : ¬ _); simp [Sp.hasB, f])) fun e2 => ned (by simp; omega) (nedd hi1 (nedd hi1 (ar64 (by omega) (vif (fun e3 => bad 2 (by decide) ?_) fun e3 => ⟨trivial, vif (fun e4 => bad 7 (by decide) ?_) fun e4 => nedd hi1 (ned (by simp; omega) (nedd hCs (nedd hi1 (ned (by simp; omega) (nedd hCr (vif (fun e5 => bad 9 (by decide) ?_) fun e5 => nedd hi1 (nedd hi1 (ned (by simp; omega) (nedd hCk (ar64 ?_ (ned (by simp; omega) (nedd hCk (nedd hi1 (ned (by simp; omega) (nedd hCs (ar64 ?_ (ned (by simp; omega) (nedd hCs (nedd hi1 ⟨by omega, nedd hi1 (ar64 (by omega) ⟨⟨by omega, by omega, by omega, by omega, by unfold Sp.Small; omega, hI.acS, hI.psL⟩, ?_⟩)⟩)))))))))))))))))))⟩))))))
 ·have f2 : (cel ls xb.toNat 4).int = 0 := by simpa using e2
  have f3 : at_ < (cel ls xb.toNat 2).int + (cel ls xb.toNat 3).int := by simpa using e3
  simp [Sp.hasB, e, f2, f3]
 ·have f2 : (cel ls xb.toNat 4).int = 0 := by simpa using e2
  have f3 : ¬ at_ < (cel ls xb.toNat 2).int + (cel ls xb.toNat 3).int := by simpa using e3
  simp [Sp.hasB, e, f2, f3, e4]
 ·have f2 : (cel ls xb.toNat 4).int = 0 := by simpa using e2
  have f3 : ¬ at_ < (cel ls xb.toNat 2).int + (cel ls xb.toNat 3).int := by simpa using e3
  have f5 : (cel rc.xs (cel ls xb.toNat 1).int.toNat 2).int < (cel si (cel ls xb.toNat 1).int.toNat 0).int := by simpa using e5
  simp [Sp.hasB, e, f2, f3, e4, f5]
 ·rw [Bool.not_eq_false', Sp.inr_iff] at e4;omega
 ·rw [Bool.not_eq_false', Sp.inr_iff] at e4;omega
 ·have f2 : (cel ls xb.toNat 4).int = 0 := by simpa using e2
  have f3 : ¬ at_ < (cel ls xb.toNat 2).int + (cel ls xb.toNat 3).int := by simpa using e3
  have f5 : ¬ (cel rc.xs (cel ls xb.toNat 1).int.toNat 2).int < (cel si (cel ls xb.toNat 1).int.toNat 0).int := by simpa using e5
  have g := good (by simp [Sp.hasB, e, f2, f3, e4, f5]);rw [Sp.eff3 rfl] at g;unfold Sp.Bks.post Sp.setSt at g;simp only [hg] at g;exact g
namespace Sp
def mvB (rc ls : Dt) (es : List (Int × Int)) (l c h i s : Int) : Bool := (moveTo rc ls es l c h i (days s) s).isSome
def mvS (rc ls : Dt) (es : List (Int × Int)) (l c h i s : Int) : Int := (moveTo rc ls es l c h i (days s) s).getD 0
structure RowOk (rc ls : Dt) (i : Int) : Prop where
 ix : 0 <= i /\ i < ls.length
 car : 0 <= (cel ls i.toNat 1).int /\ (cel ls i.toNat 1).int < rc.length
 start : 0 <= (cel ls i.toNat 2).int /\ (cel ls i.toNat 2).int <= 4800
 hours : 1 <= (cel ls i.toNat 3).int /\ (cel ls i.toNat 3).int <= 4
end Sp
noncomputable def TP5 : Tab Tryz.prog := ⟨[], [], [Xhw, Xcy]⟩
def Xje [InW] (e : List Ed) (K : Nat -> List Ed -> Prop) : Prop := match e with
 | [.i i, .ro _ rc, .l ls, .m es, .i l, .i c, .i s, .i h, .i st] => Pre (0 <= i /\ i < ls.length /\ Sp.CalmP ls /\ 0 <= c /\ c < rc.xs.length /\ 0 <= s /\ s <= 4900 /\ 1 <= h /\ h <= 4)
   (Vif (Sp.mvB rc.xs ls es l c h i s) (K 1 [.ro _ rc, .l (ls.set i.toNat [.i l, .i c, .i (Sp.mvS rc.xs ls es l c h i s), .i h, .i st]), .m es]) (K 0 [.i i, .ro _ rc, .l ls, .m es]))
 | _ => False
noncomputable def Xkn : LC where
 len := 55
 T := [(0, (.ptr 1 0)), (1, .int .i64), (4, (.ptr 6 0))]
 H := [(1, .blk 63 [(.opq 1021), .rs Ivs, (.opq 1024), (.opq 1027), (.opq 1030), (.opq 1033), (.opq 1036), (.row 4), (.opq 1042), (.opq 1045), (.opq 1048), (.mp 16), (.opq 1051), (.opq 1054), (.opq 1057)]), (4, .arr 51 Iv5), (16, .mpI), (6, .blk 51 [.int .i64, .int .i64, .int .i64, .int .i64, .int .i64])]
 W := (rgg 17 30)
 outs := [⟨.exit 0, [(0, (.ptr 1 0)), (1, .int .i64)], [(1, .blk 63 [(.opq 1021), .rs Ivs, (.opq 1024), (.opq 1027), (.opq 1030), (.opq 1033), (.opq 1036), (.row 4), (.opq 1042), (.opq 1045), (.opq 1048), (.mp 16), (.opq 1051), (.opq 1054), (.opq 1057)]), (4, .arr 51 Iv5), (16, .mpI)], ([4] ++ rgg 17 30)⟩, ⟨.ret, [(0, (.ptr 1 0))], [(1, .blk 63 [(.opq 1021), .rs Ivs, (.opq 1024), (.opq 1027), (.opq 1030), (.opq 1033), (.opq 1036), (.row 4), (.opq 1042), (.opq 1045), (.opq 1048), (.mp 16), (.opq 1051), (.opq 1054), (.opq 1057)]), (4, .arr 51 Iv5), (16, .mpI)], ([1, 4] ++ rgg 17 30)⟩]
 spec := Xje
def Xig [W : InW] (i : Int) (rc : Ro Ivs) (ls : Dt) (es : List (Int × Int)) (l c s h st : Int) (A : List Ed -> Prop) (K : Nat -> List Ed -> Prop) : Prop :=
 Ar .i64 (s + h) fun z => Vif (decide (z <= 4800)) (Pre (0 <= c /\ c < (↑(rc.xs.length) : Int) /\ 0 <= s /\ Sp.Small s) (Vif (Sp.dryB rc.xs es c s) (Pre ((↑(ls.length) : Int) <= 1000 /\ Sp.Small s /\ Sp.Small h /\ ∀ (j : Nat), Sp.Small (cel ls j (2 : Nat)).int /\ Sp.Small (cel ls j (3 : Nat)).int) (Vif (!Sp.blocked ls i l c s h (0 : Nat) (ls.length)) (Need (decide (0 <= i) && decide (i < (↑(ls.length) : Int))) (Need (decide (i.toNat < ls.length)) (K (0+1) [.ro _ rc, .l (List.set ls i.toNat [Cl.i l, Cl.i c, Cl.i s, Cl.i h, Cl.i st]), .m es]))) (Ar .i64 (s + 24) fun z => A [.i i, .ro _ rc, .l ls, .m es, .i l, .i c, .i z, .i h, .i st]))) (Ar .i64 (s + 24) fun z => A [.i i, .ro _ rc, .l ls, .m es, .i l, .i c, .i z, .i h, .i st]))) (K 0 [.i i, .ro _ rc, .l ls, .m es])
theorem Xr6 (W : InW) (i rc ls es l c s h st A K) : Ye9 { cxT Tryz.prog TT TP5 1000 50 with fn := 118 } 1000 (Ynh Tryz.prog 118 3) (Ydy 55 [(0, .ptr 1 0), (1, .si .i64 i), (4, .ptr 6 0)] (rgg 17 30)) [(1, .blk 63 [.opq 1021, .rs _ rc, .opq 1024, .opq 1027, .opq 1030, .opq 1033, .opq 1036, .rw 4, .opq 1042, .opq 1045, .opq 1048, .mp 16, .opq 1051, .opq 1054, .opq 1057]), (4, .arr 51 Iv5 ls), (16, .obj (.mpI es)), (6, .blk 51 [.si .i64 l, .si .i64 c, .si .i64 s, .si .i64 h, .si .i64 st])] (Yth Xkn A K) = Xig i rc ls es l c s h st A K := by kernel_rfl
def Xj3 : Prop := ∀ (W : InW) (body a : Code), (Tryz.prog.funcs[118]?).bind (·.body) = some body -> a ∈ Yw body -> Yfu a = 3 -> @Yma W Tryz.prog a (@Ysp W Xkn)
theorem Xtb (meas : [InW] -> List Ed -> Nat) (hyp_ : ∀ (W : InW) i rc ls es l c s h st K, Xje [.i i, .ro _ rc, .l ls, .m es, .i l, .i c, .i s, .i h, .i st] K -> ∀ A : List Ed -> Prop, (∀ e, meas e < meas [.i i, .ro _ rc, .l ls, .m es, .i l, .i c, .i s, .i h, .i st] -> Xje e K -> A e) -> Xig i rc ls es l c s h st A K) : Xj3 :=
 LE.okOf' (fun W => @TT W) (fun W => @Xb W) Xa TP5 1000 50 (by kernel_rfl) Xkn (fun W => @meas W) fun W i rc ls es l c s h st K hs =>
  (Xr6 W i rc ls es l c s h st (fun e => meas e < meas [.i i, .ro _ rc, .l ls, .m es, .i l, .i c, .i s, .i h, .i st] /\ Xje e K) K).mpr (hyp_ W i rc ls es l c s h st K hs _ fun e h1 h2 => ⟨h1, h2⟩)
theorem Sp.days_next {s : Int} (h : s <= 4800) : Sp.days s = Sp.days (s + 24) + 1 := by unfold Sp.days; omega
theorem Sp.mv_stop (rc ls : Dt) (es : List (Int × Int)) (l c h i s : Int) (h1 : 1 <= h) (e : ¬ s + h <= 4800) : Sp.mvB rc ls es l c h i s = false := by
 unfold Sp.mvB;cases hd : Sp.days s with
 | zero => rfl
 | succ n => rw [Sp.moveTo, if_neg e]; rfl
theorem Sp.mv_here (rc ls : Dt) (es : List (Int × Int)) (l c h i s : Int) (h1 : 1 <= h) (e : s + h <= 4800) (f : (Sp.dryB rc es c s && !Sp.blocked ls i l c s h 0 ls.length) = true) : Sp.mvB rc ls es l c h i s = true /\ Sp.mvS rc ls es l c h i s = s := by
 unfold Sp.mvB Sp.mvS;rw [Sp.days_next (by omega), Sp.moveTo, if_pos e, if_pos f];exact ⟨rfl, rfl⟩
theorem Sp.mv_next (rc ls : Dt) (es : List (Int × Int)) (l c h i s : Int) (h1 : 1 <= h) (e : s + h <= 4800) (f : (Sp.dryB rc es c s && !Sp.blocked ls i l c s h 0 ls.length) = false) : Sp.mvB rc ls es l c h i s = Sp.mvB rc ls es l c h i (s + 24) /\ Sp.mvS rc ls es l c h i s = Sp.mvS rc ls es l c h i (s + 24) := by
 unfold Sp.mvB Sp.mvS;rw [Sp.days_next (s := s) (by omega), Sp.moveTo, if_pos e, if_neg (by rw [f]; decide)];exact ⟨rfl, rfl⟩
theorem Xv2 : Xj3 := Xtb (fun e => match e with | [_, _, _, _, _, _, .i s, _, _] => Sp.days s | _ => 0) fun W i rc ls es l c s h st K hs A hA => by
 obtain ⟨⟨h0, h1, hc, h2, h3, h4, h5, h6, h7⟩, hk⟩ := hs;unfold Xig;refine ar64 (by omega) (vifd (fun e => ?_) fun e => ?_)
 ·have again : (Sp.dryB rc.xs es c s && !Sp.blocked ls i l c s h 0 ls.length) = false -> Ar IntKind.i64 (s + 24) fun z => A [.i i, .ro _ rc, .l ls, .m es, .i l, .i c, .i z, .i h, .i st] := fun f => ar64 (by omega) (hA _ (by show Sp.days (s + 24) < Sp.days s; rw [Sp.days_next (s := s) (by omega)]; omega) ⟨⟨h0, h1, hc, h2, h3, by omega, by omega, h6, h7⟩, by
   obtain ⟨a, b⟩ := Sp.mv_next rc.xs ls es l c h i s h6 e f;rw [a, b] at hk;exact hk⟩)
  refine ⟨⟨h2, h3, h4, by unfold Sp.Small; omega⟩, vif (fun e2 => ⟨⟨hc.many, by unfold Sp.Small; omega, by unfold Sp.Small; omega, hc.ls⟩, vif (fun e3 => ?_) fun e3 => again (by rw [e3]; simp)⟩) fun e2 => again (by rw [e2]; rfl)⟩;refine ned (by simp; omega) (nedd (by omega) ?_);obtain ⟨a, b⟩ := Sp.mv_here rc.xs ls es l c h i s h6 e (by rw [e2, e3]; rfl);have := hk.1 a;rw [b] at this;exact this
 ·exact hk.2 (Sp.mv_stop _ _ _ _ _ _ _ _ h6 e)
noncomputable def Xwo : LE Tryz.prog := ⟨118, 3, fun W => @Ysp W Xkn, Xv2⟩
noncomputable def TP6 : Tab Tryz.prog := ⟨[], [Xwo], [Xhw, Xcy]⟩
def Xmh [InW] (e : List Ed) (K : Nat -> List Ed -> Prop) : Prop := match e with
 | [.i i, .ro _ rc, .l ls, .m es] => Pre (Sp.RowOk rc.xs ls i /\ Sp.CalmP ls) (K 0 [.ro _ rc, .l (Sp.moveL rc.xs ls es i), .m es])
 | _ => False
noncomputable def Xb9 : CC where
 g := 118
 args := [(.ptr 1 0), .int .i64]
 H := [(1, .blk 63 [(.opq 1021), .rs Ivs, (.opq 1024), (.opq 1027), (.opq 1030), (.opq 1033), (.opq 1036), (.row 4), (.opq 1042), (.opq 1045), (.opq 1048), (.mp 16), (.opq 1051), (.opq 1054), (.opq 1057)]), (4, .arr 51 Iv5), (16, .mpI)]
 outs := [⟨false, .tup [], [(1, .blk 63 [(.opq 1021), .rs Ivs, (.opq 1024), (.opq 1027), (.opq 1030), (.opq 1033), (.opq 1036), (.row 4), (.opq 1042), (.opq 1045), (.opq 1048), (.mp 16), (.opq 1051), (.opq 1054), (.opq 1057)]), (4, .arr 51 Iv5), (16, .mpI)], false⟩]
 spec := Xmh
def Zbo [W : InW] (i : Int) (ls : Dt) := cel ls i.toNat (Zh + 1 + 1 + 1)
def Xf4 [W : InW] (i : Int) (rc : Ro Ivs) (ls : Dt) (es : List (Int × Int)) (K : Nat -> List Ed -> Prop) : Prop :=
 Need (decide (0 <= i) && decide (i < (↑(ls.length) : Int))) (Need (decide (i.toNat < ls.length)) (Ar .i64 ((cel ls i.toNat (Zh + 1 + 1)).int + 24) fun z => Pre (0 <= i /\ i < (↑(ls.length) : Int) /\ Sp.CalmP ls /\ (0 : Int) <= (cel ls i.toNat (0+1)).int /\ (cel ls i.toNat (0+1)).int < (↑(rc.xs.length) : Int) /\ 0 <= z /\ z <= 4900 /\ (1 : Int) <= (Zbo i ls).int /\ (Zbo i ls).int <= 4) (Vif (Sp.mvB rc.xs ls es (cel ls i.toNat Zh).int (cel ls i.toNat (0+1)).int (Zbo i ls).int i z) (K 0 [.ro _ rc, .l (List.set ls i.toNat [Cl.i (cel ls i.toNat Zh).int, Cl.i (cel ls i.toNat (0+1)).int, Cl.i (Sp.mvS rc.xs ls es (cel ls i.toNat Zh).int (cel ls i.toNat (0+1)).int (Zbo i ls).int i z), Cl.i (Zbo i ls).int, Cl.i (cel ls i.toNat (Zh + 1 + 1 + 1 + 1)).int]), .m es]) (Need (decide (0 <= i) && decide (i < (↑(ls.length) : Int))) (Need (decide (i.toNat < ls.length)) (K 0 [.ro _ rc, .l (List.set ls i.toNat (Ymx (List.getD ls i.toNat []) (3+1) [Cl.i 1])), .m es]))))))
theorem Xov (W : InW) (i rc ls es K) : Yvm (cxT Tryz.prog TT TP6 1000 50) 1000 118 [.ptr 1 0, .si .i64 i] [(1, .blk 63 [.opq 1021, .rs _ rc, .opq 1024, .opq 1027, .opq 1030, .opq 1033, .opq 1036, .rw 4, .opq 1042, .opq 1045, .opq 1048, .mp 16, .opq 1051, .opq 1054, .opq 1057]), (4, .arr 51 Iv5 ls), (16, .obj (.mpI es))] (fun v h => outC Xb9.H [.ro _ rc, .l ls, .m es] Xb9.outs 0 false v h K) (fun v h => outC Xb9.H [.ro _ rc, .l ls, .m es] Xb9.outs 0 true v h K) = Xf4 i rc ls es K := by kernel_rfl
theorem Xp7 (hyp_ : ∀ (W : InW) i rc ls es K, Xmh [.i i, .ro _ rc, .l ls, .m es] K -> Xf4 i rc ls es K) : ∀ W : InW, @CallC W Tryz.prog Xb9 :=
 CC.okOf (fun W => @TT W) (fun W => @Xb W) Xa TP6 1000 50 Xb9 fun W i rc ls es K hs => (Xov W i rc ls es K).mpr (hyp_ W i rc ls es K hs)
theorem Sp.moveL_yes {rc ls : Dt} {es : List (Int × Int)} {i : Int} (h : Sp.mvB rc ls es (cel ls i.toNat 0).int (cel ls i.toNat 1).int (cel ls i.toNat 3).int i ((cel ls i.toNat 2).int + 24) = true) :
  Sp.moveL rc ls es i = ls.set i.toNat [.i (cel ls i.toNat 0).int, .i (cel ls i.toNat 1).int, .i (Sp.mvS rc ls es (cel ls i.toNat 0).int (cel ls i.toNat 1).int (cel ls i.toNat 3).int i ((cel ls i.toNat 2).int + 24)), .i (cel ls i.toNat 3).int, .i (cel ls i.toNat 4).int] := by
 unfold Sp.moveL Sp.mvS;unfold Sp.mvB at h
 split
 ·rename_i s hs;rw [hs]; rfl
 ·rename_i hs;rw [hs] at h; cases h
theorem Sp.moveL_no {rc ls : Dt} {es : List (Int × Int)} {i : Int} (h : Sp.mvB rc ls es (cel ls i.toNat 0).int (cel ls i.toNat 1).int (cel ls i.toNat 3).int i ((cel ls i.toNat 2).int + 24) = false) :
  Sp.moveL rc ls es i = Sp.setSt ls i 1 := by
 unfold Sp.moveL;unfold Sp.mvB at h
 split
 ·rename_i s hs;rw [hs] at h; cases h
 ·rfl
theorem Xve : ∀ W : InW, @CallC W Tryz.prog Xb9 := Xp7 fun W i rc ls es K hs => by
 obtain ⟨⟨hR, hc⟩, hk⟩ := hs;obtain ⟨h1, h2, h3, h4⟩ := hR;unfold Xf4;delta Zbo Zh;simp only [Nat.zero_add, Nat.reduceAdd];have hi : i.toNat < ls.length := by omega
 refine ned (by simp; omega) (nedd hi (ar64 (by omega) ⟨⟨by omega, by omega, hc, by omega, by omega, by omega, by omega, by omega, by omega⟩, vif (fun e => ?_) fun e => ned (by simp; omega) (nedd hi ?_)⟩))
 ·rw [Sp.moveL_yes e] at hk;exact hk
 ·obtain ⟨r, hr, hg, _⟩ := Sp.row_of hi;rw [Sp.moveL_no e] at hk;unfold Sp.setSt at hk;simp only [hg] at hk;simp only [hg];exact hk
noncomputable def Xn5 : CE Tryz.prog := ceOf Xb9 Xve
noncomputable abbrev Xco : LI := lpAt Tryz.prog 101 0
noncomputable def TP7 : Tab Tryz.prog := ⟨[], [], [Xn5]⟩
namespace Sp
structure WOk (rc ls : Dt) : Prop where
 many : (ls.length : Int) <= 60
 rows : ∀ j, j < ls.length -> (0 <= (cel ls j 0).int) /\ (0 <= (cel ls j 1).int /\ (cel ls j 1).int < rc.length) /\ (0 <= (cel ls j 2).int /\ (cel ls j 2).int <= 4800) /\ (1 <= (cel ls j 3).int /\ (cel ls j 3).int <= 4)
end Sp
def Xep [InW] (e : List Ed) (K : Nat -> List Ed -> Prop) : Prop := match e with
 | [.i n, .i i, .l ls, .ro _ rc, .i kd, .i at_, .i xl, .i xc, .i xb, .i xs, .i xh, .i xd, .i xw, .i xk, .i xm, .m es] => Pre (n = (ls.length : Int) /\ 0 <= i /\ i <= n /\ Sp.WOk rc.xs ls /\ 0 <= xw /\ xw <= 7)
   (K 0 [.l (Sp.weatherL rc.xs es ⟨kd, at_, xl, xc, xb, xs, xh, xd, xw, xk, xm⟩ (ls.length - i.toNat) i ls), .ro _ rc, .i kd, .i at_, .i xl, .i xc, .i xb, .i xs, .i xh, .i xd, .i xw, .i xk, .i xm, .m es])
 | _ => False
noncomputable def Xe1 : LC where
 len := 26
 T := [(0, (.yl 1)), (9, (.row 4)), (10, .int .i64), (11, .int .i64)]
 H := [(1, .lp Xco [(.opq 1501), (.opq 1504), (.opq 1507), (.ptr 10 0), (.ptr 13 0), (.opq 312), (.opq 315), (.opq 1522), (.opq 1525), (.opq 1528), (.opq 1531), (.opq 1534), (.opq 1537), (.opq 1540), (.opq 1543), (.opq 1546), (.opq 1549), (.opq 1552), (.opq 1555), (.opq 1558), (.opq 1561), (.opq 1564), (.opq 1567), (.opq 1570), (.opq 1573), (.opq 1576), (.opq 1579), (.opq 1582), (.opq 1585), (.opq 1588), (.opq 1591), (.opq 1594), (.opq 1597), (.opq 1600), (.opq 399), (.opq 402), (.opq 405), (.opq 408), (.opq 411), (.opq 414), (.opq 417), (.opq 420), (.opq 423), (.opq 426), (.opq 429), (.opq 432), (.opq 435), (.opq 438), (.opq 441), (.opq 444), (.opq 447), (.opq 450), (.opq 453), (.opq 456), (.opq 459), (.opq 462), (.opq 465), (.opq 468), (.opq 471), (.opq 474), (.opq 477), (.opq 480), (.opq 483), (.opq 486), (.opq 489), (.opq 492), (.opq 495), (.opq 498), (.opq 501), (.opq 504), (.opq 507), (.opq 510), (.opq 513), (.opq 516), (.opq 519)]), (4, .arr 51 Iv5), (10, .blk 57 [(.ptr 28 0)]), (28, .blk 63 [(.opq 1021), .rs Ivs, (.opq 1024), (.opq 1027), (.opq 1030), (.opq 1033), (.opq 1036), (.row 4), (.opq 1042), (.opq 1045), (.opq 1048), (.mp 16), (.opq 1051), (.opq 1054), (.opq 1057)]), (13, .blk 116 [.int .i64, .int .i64, .int .i64, .int .i64, .int .i64, .int .i64, .int .i64, .int .i64, .int .i64, .int .i64, .int .i64]), (16, .mpI)]
 W := ([3, 4] ++ rgg 12 14)
 outs := [⟨.exit 0, [], [(1, .lp Xco [(.opq 1501), (.opq 1504), (.opq 1507), (.ptr 10 0), (.ptr 13 0), (.opq 612), (.opq 615), (.opq 1522), (.opq 1525), (.opq 1528), (.opq 1531), (.opq 1534), (.opq 1537), (.opq 1540), (.opq 1543), (.opq 1546), (.opq 1549), (.opq 1552), (.opq 1555), (.opq 1558), (.opq 1561), (.opq 1564), (.opq 1567), (.opq 1570), (.opq 1573), (.opq 1576), (.opq 1579), (.opq 1582), (.opq 1585), (.opq 1588), (.opq 1591), (.opq 1594), (.opq 1597), (.opq 1600), (.opq 699), (.opq 702), (.opq 705), (.opq 708), (.opq 711), (.opq 714), (.opq 717), (.opq 720), (.opq 723), (.opq 726), (.opq 729), (.opq 732), (.opq 735), (.opq 738), (.opq 741), (.opq 744), (.opq 747), (.opq 750), (.opq 753), (.opq 756), (.opq 759), (.opq 762), (.opq 765), (.opq 768), (.opq 771), (.opq 774), (.opq 777), (.opq 780), (.opq 783), (.opq 786), (.opq 789), (.opq 792), (.opq 795), (.opq 798), (.opq 801), (.opq 804), (.opq 807), (.opq 810), (.opq 813), (.opq 816), (.opq 819)]), (612, .dead), (615, .dead), (699, .dead), (702, .dead), (705, .dead), (708, .dead), (711, .dead), (714, .dead), (717, .dead), (720, .dead), (723, .dead), (726, .dead), (729, .dead), (732, .dead), (735, .dead), (738, .dead), (741, .dead), (744, .dead), (747, .dead), (750, .dead), (753, .dead), (756, .dead), (759, .dead), (762, .dead), (765, .dead), (768, .dead), (771, .dead), (774, .dead), (777, .dead), (780, .dead), (783, .dead), (786, .dead), (789, .dead), (792, .dead), (795, .dead), (798, .dead), (801, .dead), (804, .dead), (807, .dead), (810, .dead), (813, .dead), (816, .dead), (819, .dead), (4, .arr 51 Iv5), (10, .blk 57 [(.ptr 28 0)]), (28, .blk 63 [(.opq 1021), .rs Ivs, (.opq 1024), (.opq 1027), (.opq 1030), (.opq 1033), (.opq 1036), (.row 4), (.opq 1042), (.opq 1045), (.opq 1048), (.mp 16), (.opq 1051), (.opq 1054), (.opq 1057)]), (13, .blk 116 [.int .i64, .int .i64, .int .i64, .int .i64, .int .i64, .int .i64, .int .i64, .int .i64, .int .i64, .int .i64, .int .i64]), (16, .mpI)], ([0, 3, 4] ++ rgg 9 17)⟩]
 spec := Xep
def Zbp [W : InW] (n i : Int) (ls : Dt) (rc : Ro Ivs) (kd at_ xl xc xb xs xh xd xw xk xm : Int) (es : List (Int × Int)) (A : List Ed -> Prop) := Ar .i64 (i + 1) fun z => PreL Xco Xco (A [.i n, .i z, .l ls, .ro _ rc, .i kd, .i at_, .i xl, .i xc, .i xb, .i xs, .i xh, .i xd, .i xw, .i xk, .i xm, .m es])
def Xfs [W : InW] (n i : Int) (ls : Dt) (rc : Ro Ivs) (kd at_ xl xc xb xs xh xd xw xk xm : Int) (es : List (Int × Int)) (A : List Ed -> Prop) (K : Nat -> List Ed -> Prop) : Prop :=
 Vif (decide (i < n)) (Need (decide (0 <= i) && decide (i < (↑(ls.length) : Int))) (Need (decide (i.toNat < ls.length)) (Vif (decide ((cel ls i.toNat (Zh + 1 + 1 + 1 + 1)).int = 0)) (Need (decide (0 <= i) && decide (i < (↑(ls.length) : Int))) (Need (decide (i.toNat < ls.length)) (Ar .i64 ((cel ls i.toNat (Zh + 1 + 1)).int.tdiv (24 : Int)) fun z => Vif (decide (z = xd)) (Vif (decide (at_ < (cel ls i.toNat (Zh + 1 + 1)).int)) (Need (decide ((0 : Int) <= (cel ls i.toNat (0+1)).int) && decide ((cel ls i.toNat (0+1)).int < (↑(rc.xs.length) : Int))) (Need (decide ((cel ls i.toNat (0+1)).int.toNat < rc.xs.length)) (Need (decide (0 <= xw)) (Vif (decide (andI IntKind.i64 ((cel rc.xs (cel ls i.toNat (0+1)).int.toNat (2+1)).int.fdiv ((2 : Int) ^ min xw.toNat (64 : Nat))) (1 : Int) = 1)) (Pre (Sp.RowOk rc.xs ls i /\ Sp.CalmP ls) (Ar .i64 (i + 1) fun z => PreL Xco Xco (A [.i n, .i z, .l (Sp.moveL rc.xs ls es i), .ro _ rc, .i kd, .i at_, .i xl, .i xc, .i xb, .i xs, .i xh, .i xd, .i xw, .i xk, .i xm, .m es]))) (Zbp n i ls rc kd at_ xl xc xb xs xh xd xw xk xm es A))))) (Zbp n i ls rc kd at_ xl xc xb xs xh xd xw xk xm es A)) (Zbp n i ls rc kd at_ xl xc xb xs xh xd xw xk xm es A)))) (Zbp n i ls rc kd at_ xl xc xb xs xh xd xw xk xm es A)))) (PreL Xco Xco (K 0 [.l ls, .ro _ rc, .i kd, .i at_, .i xl, .i xc, .i xb, .i xs, .i xh, .i xd, .i xw, .i xk, .i xm, .m es]))
theorem Xoj (W : InW) (n i ls rc kd at_ xl xc xb xs xh xd xw xk xm es A K) : Ye9 { cxT Tryz.prog TT TP7 1000 50 with fn := 125 } 1000 (Ynh Tryz.prog 125 2) (Ydy 26 [(0, .yl 1), (9, .rw 4), (10, .si .i64 n), (11, .si .i64 i)] ([3, 4] ++ rgg 12 14)) [(1, .lp Xco [.opq 1501, .opq 1504, .opq 1507, .ptr 10 0, .ptr 13 0, .opq 312, .opq 315, .opq 1522, .opq 1525, .opq 1528, .opq 1531, .opq 1534, .opq 1537, .opq 1540, .opq 1543, .opq 1546, .opq 1549, .opq 1552, .opq 1555, .opq 1558, .opq 1561, .opq 1564, .opq 1567, .opq 1570, .opq 1573, .opq 1576, .opq 1579, .opq 1582, .opq 1585, .opq 1588, .opq 1591, .opq 1594, .opq 1597, .opq 1600, .opq 399, .opq 402, .opq 405, .opq 408, .opq 411, .opq 414, .opq 417, .opq 420, .opq 423, .opq 426, .opq 429, .opq 432, .opq 435, .opq 438, .opq 441, .opq 444, .opq 447, .opq 450, .opq 453, .opq 456, .opq 459, .opq 462, .opq 465, .opq 468, .opq 471, .opq 474, .opq 477, .opq 480, .opq 483, .opq 486, .opq 489, .opq 492, .opq 495, .opq 498, .opq 501, .opq 504, .opq 507, .opq 510, .opq 513, .opq 516, .opq 519]), (4, .arr 51 Iv5 ls), (10, .blk 57 [.ptr 28 0]), (28, .blk 63 [.opq 1021, .rs _ rc, .opq 1024, .opq 1027, .opq 1030, .opq 1033, .opq 1036, .rw 4, .opq 1042, .opq 1045, .opq 1048, .mp 16, .opq 1051, .opq 1054, .opq 1057]), (13, .blk 116 [.si .i64 kd, .si .i64 at_, .si .i64 xl, .si .i64 xc, .si .i64 xb, .si .i64 xs, .si .i64 xh, .si .i64 xd, .si .i64 xw, .si .i64 xk, .si .i64 xm]), (16, .obj (.mpI es))] (Yth Xe1 A K) = Xfs n i ls rc kd at_ xl xc xb xs xh xd xw xk xm es A K := by kernel_rfl
def Xgi : Prop := ∀ (W : InW) (body a : Code), (Tryz.prog.funcs[125]?).bind (·.body) = some body -> a ∈ Yw body -> Yfu a = 2 -> @Yma W Tryz.prog a (@Ysp W Xe1)
theorem Xpu (meas : [InW] -> List Ed -> Nat) (hyp_ : ∀ (W : InW) n i ls rc kd at_ xl xc xb xs xh xd xw xk xm es K, Xep [.i n, .i i, .l ls, .ro _ rc, .i kd, .i at_, .i xl, .i xc, .i xb, .i xs, .i xh, .i xd, .i xw, .i xk, .i xm, .m es] K -> ∀ A : List Ed -> Prop, (∀ e, meas e < meas [.i n, .i i, .l ls, .ro _ rc, .i kd, .i at_, .i xl, .i xc, .i xb, .i xs, .i xh, .i xd, .i xw, .i xk, .i xm, .m es] -> Xep e K -> A e) -> Xfs n i ls rc kd at_ xl xc xb xs xh xd xw xk xm es A K) : Xgi :=
 LE.okOf' (fun W => @TT W) (fun W => @Xb W) Xa TP7 1000 50 (by kernel_rfl) Xe1 (fun W => @meas W) fun W n i ls rc kd at_ xl xc xb xs xh xd xw xk xm es K hs =>
  (Xoj W n i ls rc kd at_ xl xc xb xs xh xd xw xk xm es (fun e => meas e < meas [.i n, .i i, .l ls, .ro _ rc, .i kd, .i at_, .i xl, .i xc, .i xb, .i xs, .i xh, .i xd, .i xw, .i xk, .i xm, .m es] /\ Xep e K) K).mpr (hyp_ W n i ls rc kd at_ xl xc xb xs xh xd xw xk xm es K hs _ fun e h1 h2 => ⟨h1, h2⟩)
namespace Sp
theorem moveL_len (rc ls : Dt) (es : List (Int × Int)) (i : Int) : (moveL rc ls es i).length = ls.length := by
 unfold moveL setSt
 split <;> simp
theorem moveTo_in {rc ls : Dt} {es : List (Int × Int)} {l c h i : Int} (h1 : 1 <= h) : ∀ (n : Nat) (s t : Int), 0 <= s -> moveTo rc ls es l c h i n s = some t -> 0 <= t /\ t <= 4800
 | 0, s, t, _, e => by simp [moveTo] at e
 | n + 1, s, t, hs, e => by
  unfold moveTo at e
  split at e
  ·split at e
   ·cases e; omega
   ·exact moveTo_in h1 n (s + 24) t (by omega) e
  ·cases e
theorem moveL_cel {rc ls : Dt} {es : List (Int × Int)} {i : Int} (hR : RowOk rc ls i) (j : Nat) :
  cel (moveL rc ls es i) j 0 = cel ls j 0 /\ (cel (moveL rc ls es i) j 1).int = (cel ls j 1).int /\ (cel (moveL rc ls es i) j 3).int = (cel ls j 3).int /\ ((cel (moveL rc ls es i) j 2).int = (cel ls j 2).int \/ 0 <= (cel (moveL rc ls es i) j 2).int /\ (cel (moveL rc ls es i) j 2).int <= 4800) \/
  (j = i.toNat /\ (cel (moveL rc ls es i) j 0).int = (cel ls j 0).int /\ (cel (moveL rc ls es i) j 1).int = (cel ls j 1).int /\ (cel (moveL rc ls es i) j 3).int = (cel ls j 3).int /\ ((cel (moveL rc ls es i) j 2).int = (cel ls j 2).int \/ 0 <= (cel (moveL rc ls es i) j 2).int /\ (cel (moveL rc ls es i) j 2).int <= 4800)) := by
 have hi : i.toNat < ls.length := by have := hR.ix; omega
 by_cases hj : i.toNat = j
 ·subst hj;refine .inr ⟨rfl, ?_⟩;unfold moveL
  split
  ·rename_i s hs;have := moveTo_in hR.hours.1 _ _ _ (by have := hR.start; omega) hs;have e : ∀ k, cel (ls.set i.toNat [.i (cel ls i.toNat 0).int, .i (cel ls i.toNat 1).int, .i s, .i (cel ls i.toNat 3).int, .i (cel ls i.toNat 4).int]) i.toNat k = [Cl.i (cel ls i.toNat 0).int, .i (cel ls i.toNat 1).int, .i s, .i (cel ls i.toNat 3).int, .i (cel ls i.toNat 4).int].getD k .z := fun k => by rw [Xb1, if_pos ⟨rfl, hi⟩]
   rw [e, e, e, e];exact ⟨rfl, rfl, rfl, .inr this⟩
  ·obtain ⟨r, hr, hg, hc⟩ := row_of hi;unfold setSt;rw [hg, hc _ 0 (by decide), hc _ 1 (by decide), hc _ 2 (by decide), hc _ 3 (by decide)];exact ⟨rfl, rfl, rfl, .inl rfl⟩
 ·have e : ∀ k, cel (moveL rc ls es i) j k = cel ls j k := fun k => by
   unfold moveL setSt
   split
   ·rw [Xb1, if_neg (fun h => hj h.1)]
   ·rw [Xb1, if_neg (fun h => hj h.1)]
  rw [e, e, e, e];exact .inl ⟨rfl, rfl, rfl, .inl rfl⟩
theorem WOk.row {rc ls : Dt} (h : WOk rc ls) {i : Int} (h0 : 0 <= i) (h1 : i < ls.length) : RowOk rc ls i := by
 have := h.rows i.toNat (by omega);exact ⟨⟨h0, h1⟩, this.2.1, this.2.2.1, this.2.2.2⟩
theorem WOk.move {rc ls : Dt} (h : WOk rc ls) {es : List (Int × Int)} {i : Int} (h0 : 0 <= i) (h1 : i < ls.length) : WOk rc (moveL rc ls es i) := by
 refine ⟨by rw [moveL_len]; exact h.many, fun j hj => ?_⟩;rw [moveL_len] at hj;have hr := h.rows j hj;rcases moveL_cel (es := es) (h.row h0 h1) j with ⟨a, b, c, d⟩ | ⟨_, a, b, c, d⟩
 ·rw [a, b, c];rcases d with d | d
  ·rw [d]; exact hr
  ·exact ⟨hr.1, hr.2.1, d, hr.2.2.2⟩
 ·rw [a, b, c];rcases d with d | d
  ·rw [d]; exact hr
  ·exact ⟨hr.1, hr.2.1, d, hr.2.2.2⟩
theorem WOk.calm {rc ls : Dt} (h : WOk rc ls) : CalmP ls := ⟨by have := h.many; omega, fun j => by
 by_cases hj : j < ls.length
 ·have := h.rows j hj;unfold Small;omega
 ·have e : ∀ k, cel ls j k = .z := fun k => by simp [cel, List.getD_eq_getElem?_getD, List.getElem?_eq_none (Nat.le_of_not_lt hj)]
  rw [e, e];unfold Small;simp [Cl.int]⟩
end Sp
theorem Xt1 : Xgi := Xpu (fun e => match e with | .i n :: .i i :: _ => (n - i).toNat | _ => 0) fun W n i ls rc kd at_ xl xc xb xs xh xd xw xk xm es K hs A hA => by
 obtain ⟨⟨rfl, h0, h1, hw, h2, h3⟩, hk⟩ := hs;have hm := hw.many;unfold Xfs;delta Zbp Zh;simp only [Nat.zero_add, Nat.reduceAdd, show min xw.toNat 64 = xw.toNat by omega];refine vifd (fun e => ?_) fun e => ?_
 ·have hi : i.toNat < ls.length := by omega
  rw [show ls.length - i.toNat = (ls.length - (i.toNat + 1)) + 1 by omega, Sp.weatherL] at hk;have next : ∀ ls', (if Sp.hit rc.xs ls i ⟨kd, at_, xl, xc, xb, xs, xh, xd, xw, xk, xm⟩ then Sp.moveL rc.xs ls es i else ls) = ls' -> ls'.length = ls.length -> Sp.WOk rc.xs ls' ->
    Ar IntKind.i64 (i + 1) fun z => PreL Xco Xco (A [.i ls.length, .i z, .l ls', .ro _ rc, .i kd, .i at_, .i xl, .i xc, .i xb, .i xs, .i xh, .i xd, .i xw, .i xk, .i xm, .m es]) := fun ls' e1 e2 e3 => ar64 (by omega) ⟨rfl, hA _ (by show ((ls.length : Int) - (i + 1)).toNat < ((ls.length : Int) - i).toNat; omega) ⟨⟨by rw [e2], by omega, by omega, e3, h2, h3⟩, by
     rw [e1] at hk;rw [e2, show (i + 1).toNat = i.toNat + 1 by omega];exact hk⟩⟩
  have hr := hw.rows _ hi;have td : 0 <= (cel ls i.toNat 2).int.tdiv 24 /\ (cel ls i.toNat 2).int.tdiv 24 <= 4800 := by rw [Int.tdiv_eq_ediv_of_nonneg hr.2.2.1.1]; omega
  have no : Sp.hit rc.xs ls i ⟨kd, at_, xl, xc, xb, xs, xh, xd, xw, xk, xm⟩ = false -> Ar IntKind.i64 (i + 1) fun z => PreL Xco Xco (A [.i ls.length, .i z, .l ls, .ro _ rc, .i kd, .i at_, .i xl, .i xc, .i xb, .i xs, .i xh, .i xd, .i xw, .i xk, .i xm, .m es]) := fun f => next ls (by rw [f]; rfl) rfl hw
  clear hk hA;refine ned (by simp; omega) (nedd hi (vifd (fun e1 => ned (by simp; omega) (nedd hi (ar64 (by omega) (vifd (fun e2 => vifd (fun e3 => ned (by simp; omega) (nedd (by omega) (nedd h2 (vifd (fun e4 => ⟨⟨hw.row h0 (by omega), hw.calm⟩, ?_⟩) fun e4 => no ?_)))) fun e3 => no ?_) fun e2 => no ?_)))) fun e1 => no ?_))
  ·refine next _ ?_ (Sp.moveL_len _ _ _ _) (hw.move h0 (by omega))
   rw [if_pos];simp [Sp.hit, e1, e2, e3, e4]
  ·simp [Sp.hit, e4]
  ·simp [Sp.hit, e3]
  ·simp [Sp.hit, e2]
  ·simp [Sp.hit, e1]
 ·rw [show ls.length - i.toNat = 0 by omega] at hk;exact ⟨rfl, hk⟩
noncomputable def Xue : LE Tryz.prog := ⟨125, 2, fun W => @Ysp W Xe1, Xt1⟩
noncomputable def TP8 : Tab Tryz.prog := ⟨[Xdk], [Xue], [Xn5]⟩
def Xec [InW] (e : List Ed) (K : Nat -> List Ed -> Prop) : Prop := match e with
 | [.i kd, .i at_, .i xl, .i xc, .i xb, .i xs, .i xh, .i xd, .i xw, .i xk, .i xm, .ro _ rc, .l ls, .m es] => Pre (Sp.WOk rc.xs ls /\ 0 <= getI es xd)
   (Vif (Sp.inr xd 0 200 && Sp.inr xw 0 7) (K 0 [.ro _ rc, .l (Sp.weatherL rc.xs (Sp.seeE es xd xw) ⟨kd, at_, xl, xc, xb, xs, xh, xd, xw, xk, xm⟩ ls.length 0 ls), .m (Sp.seeE es xd xw)])
    (K 1 [.ro _ rc, .l ls, .m es]))
 | _ => False
noncomputable def Xl : CC where
 g := 101
 args := [(.ptr 1 0), .agg [.int .i64, .int .i64, .int .i64, .int .i64, .int .i64, .int .i64, .int .i64, .int .i64, .int .i64, .int .i64, .int .i64]]
 H := [(1, .blk 63 [(.opq 1021), .rs Ivs, (.opq 1024), (.opq 1027), (.opq 1030), (.opq 1033), (.opq 1036), (.row 4), (.opq 1042), (.opq 1045), (.opq 1048), (.mp 16), (.opq 1051), (.opq 1054), (.opq 1057)]), (4, .arr 51 Iv5), (16, .mpI)]
 outs := [⟨false, .tup [], [(1, .blk 63 [(.opq 1021), .rs Ivs, (.opq 1024), (.opq 1027), (.opq 1030), (.opq 1033), (.opq 1036), (.row 4), (.opq 1042), (.opq 1045), (.opq 1048), (.mp 16), (.opq 1051), (.opq 1054), (.opq 1057)]), (4, .arr 51 Iv5), (16, .mpI)], false⟩, ⟨true, (.lit (.iface 41 (.int .i64 7))), [(1, .blk 63 [(.opq 1021), .rs Ivs, (.opq 1024), (.opq 1027), (.opq 1030), (.opq 1033), (.opq 1036), (.row 4), (.opq 1042), (.opq 1045), (.opq 1048), (.mp 16), (.opq 1051), (.opq 1054), (.opq 1057)]), (4, .arr 51 Iv5), (16, .mpI)], false⟩]
 spec := Xec
def Xcm [W : InW] (kd at_ xl xc xb xs xh xd xw xk xm : Int) (rc : Ro Ivs) (ls : Dt) (es : List (Int × Int)) (K : Nat -> List Ed -> Prop) : Prop :=
 Pre True (Vif (!Sp.out Ze (200 : Int) [[Cl.i xd]]) (Pre True (Vif (!!Sp.out Ze (7 : Int) [[Cl.i xw]]) (K (0+1) [.ro _ rc, .l ls, .m es]) (Need (decide (0 <= xw)) (Ar .i64 ((1 : Int) * 2 ^ min xw.toNat (64 : Nat)) fun z => PreL Xco Xco (Pre ((↑(ls.length) : Int) = (↑(ls.length) : Int) /\ Ze <= 0 /\ Ze <= (↑(ls.length) : Int) /\ Sp.WOk rc.xs ls /\ 0 <= xw /\ xw <= 7) (K 0 [.ro _ rc, .l (Sp.weatherL rc.xs (setI es xd (orI IntKind.i64 (getI es xd) z)) { kind := kd, at_ := at_, l := xl, c := xc, b := xb, s := xs, h := xh, d := xd, w := xw, k := xk, m := xm } (ls.length - Int.toNat Ze) Ze ls), .m (setI es xd (orI IntKind.i64 (getI es xd) z))])))))) (K (0+1) [.ro _ rc, .l ls, .m es]))
theorem Xhb (W : InW) (kd at_ xl xc xb xs xh xd xw xk xm rc ls es K) : Yvm (cxT Tryz.prog TT TP8 1000 50) 1000 101 [.ptr 1 0, .agg [.si .i64 kd, .si .i64 at_, .si .i64 xl, .si .i64 xc, .si .i64 xb, .si .i64 xs, .si .i64 xh, .si .i64 xd, .si .i64 xw, .si .i64 xk, .si .i64 xm]] [(1, .blk 63 [.opq 1021, .rs _ rc, .opq 1024, .opq 1027, .opq 1030, .opq 1033, .opq 1036, .rw 4, .opq 1042, .opq 1045, .opq 1048, .mp 16, .opq 1051, .opq 1054, .opq 1057]), (4, .arr 51 Iv5 ls), (16, .obj (.mpI es))] (fun v h => outC Xl.H [.ro _ rc, .l ls, .m es] Xl.outs 0 false v h K) (fun v h => outC Xl.H [.ro _ rc, .l ls, .m es] Xl.outs 0 true v h K) = Xcm kd at_ xl xc xb xs xh xd xw xk xm rc ls es K := by kernel_rfl
theorem Xhn (hyp_ : ∀ (W : InW) kd at_ xl xc xb xs xh xd xw xk xm rc ls es K, Xec [.i kd, .i at_, .i xl, .i xc, .i xb, .i xs, .i xh, .i xd, .i xw, .i xk, .i xm, .ro _ rc, .l ls, .m es] K -> Xcm kd at_ xl xc xb xs xh xd xw xk xm rc ls es K) : ∀ W : InW, @CallC W Tryz.prog Xl :=
 CC.okOf (fun W => @TT W) (fun W => @Xb W) Xa TP8 1000 50 Xl fun W kd at_ xl xc xb xs xh xd xw xk xm rc ls es K hs => (Xhb W kd at_ xl xc xb xs xh xd xw xk xm rc ls es K).mpr (hyp_ W kd at_ xl xc xb xs xh xd xw xk xm rc ls es K hs)
theorem Xmz : ∀ W : InW, @CallC W Tryz.prog Xl := Xhn fun W kd at_ xl xc xb xs xh xd xw xk xm rc ls es K hs => by
 obtain ⟨⟨hw, h0⟩, hk⟩ := hs;unfold Xcm;delta Ze;simp only [out1, Bool.not_not, Nat.zero_add, Nat.reduceAdd, Int.one_mul];refine ⟨trivial, vif (fun e => ⟨trivial, vif (fun e2 => hk.2 (by simp only [Bool.not_eq_true'] at e2; rw [e2, Bool.and_false])) fun e2 => ?_⟩) fun e => hk.2 (by rw [e]; rfl)⟩;rw [Bool.not_eq_false'] at e2;have h2 := Sp.inr_iff.1 e2;have hp : (2 : Int) ^ xw.toNat <= 128 /\ 0 <= (2 : Int) ^ xw.toNat := by
  have h7 : xw.toNat <= 7 := by omega
  generalize xw.toNat = m at *;have : m = 0 \/ m = 1 \/ m = 2 \/ m = 3 \/ m = 4 \/ m = 5 \/ m = 6 \/ m = 7 := by omega
  rcases this with rfl | rfl | rfl | rfl | rfl | rfl | rfl | rfl <;> decide
 rw [show min xw.toNat 64 = xw.toNat by omega];refine nedd h2.1 (ar64 (by omega) ⟨rfl, ⟨by trivial, by omega, by omega, hw, h2⟩, ?_⟩);exact hk.1 (by rw [e, e2]; rfl)
noncomputable def Xlv : CE Tryz.prog := ceOf Xl Xmz
noncomputable def TP9 : Tab Tryz.prog := ⟨[Xdk, Xhm], [], [Xlv]⟩
def Xrd [InW] : List Ed -> (Nat -> List Ed -> Prop) -> Prop := Xdh 2
noncomputable def Xdw : CC where
 g := 46
 args := [(.ptr 1 0), .int .i64, .agg [(.lit (.int .i64 2)), .int .i64, .int .i64, .int .i64, .int .i64, .int .i64, .int .i64, .int .i64, .int .i64, .int .i64, .int .i64]]
 H := [(1, .blk 63 [.rs Jd, .rs Ivs, .int .i64, .int .i64, .int .i64, .int .i64, .rs Jc, (.row 4), (.row 7), (.row 10), (.row 13), (.mp 16), (.row 19), .int .i64, .int .i64]), (4, .arr 51 Iv5), (7, .arr 3 Je), (10, .arr 3 Je), (13, .arr 3 Je), (16, .mpI), (19, .arr 104 Iv4)]
 outs := [⟨false, .int .i64, [(1, .blk 63 [.rs Jd, .rs Ivs, .int .i64, .int .i64, .int .i64, .int .i64, .rs Jc, (.row 63), (.row 7), (.row 10), (.row 13), (.mp 16), (.row 66), .int .i64, .int .i64]), (63, .arr 51 Iv5), (7, .arr 3 Je), (10, .arr 3 Je), (13, .arr 3 Je), (16, .mpI), (66, .arr 104 Iv4)], false⟩]
 spec := Xrd
def Xiy [W : InW] (n at_ xl xc xb xs xh xd xw xk xm : Int) (rl : Ro Jd) (rc : Ro Ivs) (pr ex lo hi : Int) (rt : Ro Jc) (tm ev : Int) (ls km si ac : Dt) (es : List (Int × Int)) (ps : Dt) (K : Nat -> List Ed -> Prop) : Prop :=
 Pre True (Vif (!!Sp.out Ze (6 : Int) [[Cl.i 2]]) (K 0 [.i (Int.ofNat (1+1)), .ro _ rl, .ro _ rc, .i pr, .i ex, .i lo, .i hi, .ro _ rt, .i tm, .i ev, .l ls, .l km, .l si, .l ac, .m es, .l ps]) (Pre True (Vif (!!Sp.out tm (4800 : Int) [[Cl.i at_]]) (K 0 [.i (Int.ofNat (6+1)), .ro _ rl, .ro _ rc, .i pr, .i ex, .i lo, .i hi, .ro _ rt, .i tm, .i ev, .l ls, .l km, .l si, .l ac, .m es, .l ps]) (Pre (Sp.WOk rc.xs ls /\ Ze <= getI es xd) (Vif (Sp.inr xd Ze (200 : Int) && Sp.inr xw Ze (7 : Int)) (K 0 [.i Ze, .ro _ rl, .ro _ rc, .i pr, .i ex, .i lo, .i hi, .ro _ rt, .i at_, .i n, .l (Sp.weatherL rc.xs (Sp.seeE es xd xw) { kind := (2 : Int), at_ := at_, l := xl, c := xc, b := xb, s := xs, h := xh, d := xd, w := xw, k := xk, m := xm } (ls.length) Ze ls), .l km, .l si, .l ac, .m (Sp.seeE es xd xw), .l ps]) (K 0 [.i (Int.ofNat (6+1)), .ro _ rl, .ro _ rc, .i pr, .i ex, .i lo, .i hi, .ro _ rt, .i tm, .i n, .l ls, .l km, .l si, .l ac, .m es, .l ps]))))))
theorem Xso (W : InW) (n at_ xl xc xb xs xh xd xw xk xm rl rc pr ex lo hi rt tm ev ls km si ac es ps K) : Yvm (cxT Tryz.prog TT TP9 1000 50) 1000 46 [.ptr 1 0, .si .i64 n, .agg [.v (.int .i64 2), .si .i64 at_, .si .i64 xl, .si .i64 xc, .si .i64 xb, .si .i64 xs, .si .i64 xh, .si .i64 xd, .si .i64 xw, .si .i64 xk, .si .i64 xm]] [(1, .blk 63 [.rs _ rl, .rs _ rc, .si .i64 pr, .si .i64 ex, .si .i64 lo, .si .i64 hi, .rs _ rt, .rw 4, .rw 7, .rw 10, .rw 13, .mp 16, .rw 19, .si .i64 tm, .si .i64 ev]), (4, .arr 51 Iv5 ls), (7, .arr 3 Je km), (10, .arr 3 Je si), (13, .arr 3 Je ac), (16, .obj (.mpI es)), (19, .arr 104 Iv4 ps)] (fun v h => outC Xdw.H [.ro _ rl, .ro _ rc, .i pr, .i ex, .i lo, .i hi, .ro _ rt, .i tm, .i ev, .l ls, .l km, .l si, .l ac, .m es, .l ps] Xdw.outs 0 false v h K) (fun v h => outC Xdw.H [.ro _ rl, .ro _ rc, .i pr, .i ex, .i lo, .i hi, .ro _ rt, .i tm, .i ev, .l ls, .l km, .l si, .l ac, .m es, .l ps] Xdw.outs 0 true v h K) = Xiy n at_ xl xc xb xs xh xd xw xk xm rl rc pr ex lo hi rt tm ev ls km si ac es ps K := by kernel_rfl
theorem Xtt (hyp_ : ∀ (W : InW) n at_ xl xc xb xs xh xd xw xk xm rl rc pr ex lo hi rt tm ev ls km si ac es ps K, Xrd [.i n, .i at_, .i xl, .i xc, .i xb, .i xs, .i xh, .i xd, .i xw, .i xk, .i xm, .ro _ rl, .ro _ rc, .i pr, .i ex, .i lo, .i hi, .ro _ rt, .i tm, .i ev, .l ls, .l km, .l si, .l ac, .m es, .l ps] K -> Xiy n at_ xl xc xb xs xh xd xw xk xm rl rc pr ex lo hi rt tm ev ls km si ac es ps K) : ∀ W : InW, @CallC W Tryz.prog Xdw :=
 CC.okOf (fun W => @TT W) (fun W => @Xb W) Xa TP9 1000 50 Xdw fun W n at_ xl xc xb xs xh xd xw xk xm rl rc pr ex lo hi rt tm ev ls km si ac es ps K hs => (Xso W n at_ xl xc xb xs xh xd xw xk xm rl rc pr ex lo hi rt tm ev ls km si ac es ps K).mpr (hyp_ W n at_ xl xc xb xs xh xd xw xk xm rl rc pr ex lo hi rt tm ev ls km si ac es ps K hs)
theorem Sp.eff2 {s : Sp.Sch} {b : Sp.Bks} {x : Sp.Evt} (h : x.kind = 2) : Sp.eff s b x = { b with es := Sp.seeE b.es x.d x.w, ls := Sp.weatherL s.rc (Sp.seeE b.es x.d x.w) x b.ls.length 0 b.ls } := by simp [Sp.eff, h]
theorem Sp.err2 {s : Sp.Sch} {b : Sp.Bks} {x : Sp.Evt} (h : x.kind = 2) : Sp.err s b x = (if Sp.inr x.d 0 200 && Sp.inr x.w 0 7 then 0 else 7) := by simp [Sp.err, h]
theorem Sp.Inv.wok {s : Sp.Sch} {b : Sp.Bks} {n : Int} (h : Sp.Inv s b n) : Sp.WOk s.rc b.ls := ⟨by have := h.many; have := h.nn; omega, fun j hj => by have := h.ls j hj; exact ⟨this.1.1, this.2⟩⟩
theorem okdo2 : ∀ W : InW, @CallC W Tryz.prog Xdw := Xtt fun W n at_ xl xc xb xs xh xd xw xk xm rl rc pr ex lo hi rt tm ev ls km si ac es ps K hs => by
 obtain ⟨hI, hk⟩ := hs;obtain ⟨late, bad, good⟩ := Xhu (b := ⟨ls, km, si, ac, es, ps, tm, ev⟩) (n := n) (x := ⟨2, at_, xl, xc, xb, xs, xh, xd, xw, xk, xm⟩) (show Sp.inr 2 0 6 = true by decide) hk;clear hk;unfold Xiy;delta Ze;simp only [out1, Bool.not_not, Nat.zero_add, Nat.reduceAdd];refine ⟨trivial, vif (fun e => absurd e (by decide)) fun _ => ⟨trivial, vif late fun h1 => ?_⟩⟩
 replace bad := bad h1
 replace good := good h1
 rw [Sp.err2 rfl] at bad good;refine ⟨⟨hI.wok, (hI.es xd).1⟩, vif (fun e => ?_) fun e => bad 7 (by decide) (by simp only [e]; rfl)⟩;have g := good (by simp only [e]; rfl);rw [Sp.eff2 rfl] at g;exact g
def Xq8 [InW] (e : List Ed) (K : Nat -> List Ed -> Prop) : Prop := match e with
 | [.i n, .i kind, .i at_, .i xl, .i xc, .i xb, .i xs, .i xh, .i xd, .i xw, .i xk, .i xm, .ro _ rl, .ro _ rc, .i pr, .i ex, .i lo, .i hi, .ro _ rt, .i tm, .i ev, .l ls, .l km, .l si, .l ac, .m es, .l ps] =>
  Pre (Sp.inr kind 0 6 = false) (K 0 [.i 2, .ro _ rl, .ro _ rc, .i pr, .i ex, .i lo, .i hi, .ro _ rt, .i tm, .i ev, .l ls, .l km, .l si, .l ac, .m es, .l ps])
 | _ => False
noncomputable def X7 : CC where
 g := 46
 args := [(.ptr 1 0), .int .i64, .agg [.int .i64, .int .i64, .int .i64, .int .i64, .int .i64, .int .i64, .int .i64, .int .i64, .int .i64, .int .i64, .int .i64]]
 H := [(1, .blk 63 [.rs Jd, .rs Ivs, .int .i64, .int .i64, .int .i64, .int .i64, .rs Jc, (.row 4), (.row 7), (.row 10), (.row 13), (.mp 16), (.row 19), .int .i64, .int .i64]), (4, .arr 51 Iv5), (7, .arr 3 Je), (10, .arr 3 Je), (13, .arr 3 Je), (16, .mpI), (19, .arr 104 Iv4)]
 outs := [⟨false, .int .i64, [(1, .blk 63 [.rs Jd, .rs Ivs, .int .i64, .int .i64, .int .i64, .int .i64, .rs Jc, (.row 63), (.row 7), (.row 10), (.row 13), (.mp 16), (.row 66), .int .i64, .int .i64]), (63, .arr 51 Iv5), (7, .arr 3 Je), (10, .arr 3 Je), (13, .arr 3 Je), (16, .mpI), (66, .arr 104 Iv4)], false⟩]
 spec := Xq8
def Xit [W : InW] (n kind at_ xl xc xb xs xh xd xw xk xm : Int) (rl : Ro Jd) (rc : Ro Ivs) (pr ex lo hi : Int) (rt : Ro Jc) (tm ev : Int) (ls km si ac : Dt) (es : List (Int × Int)) (ps : Dt) (K : Nat -> List Ed -> Prop) : Prop :=
 Pre True (Vif (!!Sp.out (0 : Int) (6 : Int) [[Cl.i kind]]) (K 0 [.i (Int.ofNat (1+1)), .ro _ rl, .ro _ rc, .i pr, .i ex, .i lo, .i hi, .ro _ rt, .i tm, .i ev, .l ls, .l km, .l si, .l ac, .m es, .l ps]) (Pre True (Vif (!!Sp.out tm (4800 : Int) [[Cl.i at_]]) (K 0 [.i (Int.ofNat (6+1)), .ro _ rl, .ro _ rc, .i pr, .i ex, .i lo, .i hi, .ro _ rt, .i tm, .i ev, .l ls, .l km, .l si, .l ac, .m es, .l ps]) ((390 : Nat) = 390 + 1))))
theorem Xsj (W : InW) (n kind at_ xl xc xb xs xh xd xw xk xm rl rc pr ex lo hi rt tm ev ls km si ac es ps K) : Yvm (cxT Tryz.prog TT TP9 1000 50) 1000 46 [.ptr 1 0, .si .i64 n, .agg [.si .i64 kind, .si .i64 at_, .si .i64 xl, .si .i64 xc, .si .i64 xb, .si .i64 xs, .si .i64 xh, .si .i64 xd, .si .i64 xw, .si .i64 xk, .si .i64 xm]] [(1, .blk 63 [.rs _ rl, .rs _ rc, .si .i64 pr, .si .i64 ex, .si .i64 lo, .si .i64 hi, .rs _ rt, .rw 4, .rw 7, .rw 10, .rw 13, .mp 16, .rw 19, .si .i64 tm, .si .i64 ev]), (4, .arr 51 Iv5 ls), (7, .arr 3 Je km), (10, .arr 3 Je si), (13, .arr 3 Je ac), (16, .obj (.mpI es)), (19, .arr 104 Iv4 ps)] (fun v h => outC X7.H [.ro _ rl, .ro _ rc, .i pr, .i ex, .i lo, .i hi, .ro _ rt, .i tm, .i ev, .l ls, .l km, .l si, .l ac, .m es, .l ps] X7.outs 0 false v h K) (fun v h => outC X7.H [.ro _ rl, .ro _ rc, .i pr, .i ex, .i lo, .i hi, .ro _ rt, .i tm, .i ev, .l ls, .l km, .l si, .l ac, .m es, .l ps] X7.outs 0 true v h K) = Xit n kind at_ xl xc xb xs xh xd xw xk xm rl rc pr ex lo hi rt tm ev ls km si ac es ps K := by kernel_rfl
theorem Xto (hyp_ : ∀ (W : InW) n kind at_ xl xc xb xs xh xd xw xk xm rl rc pr ex lo hi rt tm ev ls km si ac es ps K, Xq8 [.i n, .i kind, .i at_, .i xl, .i xc, .i xb, .i xs, .i xh, .i xd, .i xw, .i xk, .i xm, .ro _ rl, .ro _ rc, .i pr, .i ex, .i lo, .i hi, .ro _ rt, .i tm, .i ev, .l ls, .l km, .l si, .l ac, .m es, .l ps] K -> Xit n kind at_ xl xc xb xs xh xd xw xk xm rl rc pr ex lo hi rt tm ev ls km si ac es ps K) : ∀ W : InW, @CallC W Tryz.prog X7 :=
 CC.okOf (fun W => @TT W) (fun W => @Xb W) Xa TP9 1000 50 X7 fun W n kind at_ xl xc xb xs xh xd xw xk xm rl rc pr ex lo hi rt tm ev ls km si ac es ps K hs => (Xsj W n kind at_ xl xc xb xs xh xd xw xk xm rl rc pr ex lo hi rt tm ev ls km si ac es ps K).mpr (hyp_ W n kind at_ xl xc xb xs xh xd xw xk xm rl rc pr ex lo hi rt tm ev ls km si ac es ps K hs)
theorem okdoX : ∀ W : InW, @CallC W Tryz.prog X7 := Xto fun W n kind at_ xl xc xb xs xh xd xw xk xm rl rc pr ex lo hi rt tm ev ls km si ac es ps K hs => by
 obtain ⟨h, hk⟩ := hs;unfold Xit;simp only [out1, Bool.not_not, h];exact ⟨trivial, vif (fun _ => hk) fun e => by cases e⟩
def Xsv [InW] (e : List Ed) (K : Nat -> List Ed -> Prop) : Prop := match e with
 | [.i n, .i kind, .i at_, .i xl, .i xc, .i xb, .i xs, .i xh, .i xd, .i xw, .i xk, .i xm, .ro _ rl, .ro _ rc, .i pr, .i ex, .i lo, .i hi, .ro _ rt, .i tm, .i ev, .l ls, .l km, .l si, .l ac, .m es, .l ps] =>
  Pre (Sp.Inv ⟨rl.xs, rc.xs, pr, ex, lo, hi, rt.xs⟩ ⟨ls, km, si, ac, es, ps, tm, ev⟩ n)
   (FinD K rl rc pr ex lo hi rt (Sp.doE ⟨rl.xs, rc.xs, pr, ex, lo, hi, rt.xs⟩ ⟨ls, km, si, ac, es, ps, tm, ev⟩ n ⟨kind, at_, xl, xc, xb, xs, xh, xd, xw, xk, xm⟩) (Sp.doB ⟨rl.xs, rc.xs, pr, ex, lo, hi, rt.xs⟩ ⟨ls, km, si, ac, es, ps, tm, ev⟩ n ⟨kind, at_, xl, xc, xb, xs, xh, xd, xw, xk, xm⟩))
 | _ => False
noncomputable def Xuv : CC where
 g := 46
 args := [.ptr 1 0, .int .i64, .agg [.int .i64, .int .i64, .int .i64, .int .i64, .int .i64, .int .i64, .int .i64, .int .i64, .int .i64, .int .i64, .int .i64]]
 H := X7.H
 outs := X7.outs
 spec := Xsv
theorem BigF.args [InW] {P : Program} {g : FuncId} {xs xs' : List AV} {ys : Heap} {pan : Bool} {v : AV} {ys' : Heap} (h : BigF P g xs ys pan v ys') (e : ∀ φ, AV.concL φ xs' = AV.concL φ xs) : BigF P g xs' ys pan v ys' := by
 intro φ w0 M R w hn hS;rw [e φ];exact h φ w0 M R w hn hS
theorem okdo : ∀ W : InW, @CallC W Tryz.prog Xuv := by
 intro W xs ys e1 e2 h1 h2 K hs;have key := Yl6 (M := fun ys e2 => Yhi X7.H ys e2 -> ∀ K, Xsv (e1 ++ e2) K -> ∃ j e o v r ys', K j e /\ X7.outs[j]? = some o /\ insP o.val e = some (v, r) /\ insH o.H r = some (ys', []) /\ BigF Tryz.prog 46 xs ys o.pan v (match o.same with | true => ys | false => ys'))
  (Ycl (M := fun xs e1 => AllH X7.H fun ys e2 => Yhi X7.H ys e2 -> ∀ K, Xsv (e1 ++ e2) K -> ∃ j e o v r ys', K j e /\ X7.outs[j]? = some o /\ insP o.val e = some (v, r) /\ insH o.H r = some (ys', []) /\ BigF Tryz.prog 46 xs ys o.pan v (match o.same with | true => ys | false => ys'))
   (ps := Xuv.args) ?_ h1) h2 h2 K hs
 ·exact key
 ·intro n kind at_ xl xc xb xs xh xd xw xk xm rl rc pr ex lo hi rt tm ev ls km si ac es ps hH K hs;obtain ⟨hI, hk⟩ := hs;have lit : ∀ (ys0 : Heap) (k : Int), kind = k -> (∀ xs', Yj0 [.ptr 1 0, .int .i64, .agg [.lit (.int .i64 k), .int .i64, .int .i64, .int .i64, .int .i64, .int .i64, .int .i64, .int .i64, .int .i64, .int .i64, .int .i64]] xs' [.i n, .i at_, .i xl, .i xc, .i xb, .i xs, .i xh, .i xd, .i xw, .i xk, .i xm] -> ∃ j e o v r ys', K j e /\ X7.outs[j]? = some o /\ insP o.val e = some (v, r) /\ insH o.H r = some (ys', []) /\ BigF Tryz.prog 46 xs' ys0 o.pan v (match o.same with | true => ys0 | false => ys')) ->
    ∃ j e o v r ys', K j e /\ X7.outs[j]? = some o /\ insP o.val e = some (v, r) /\ insH o.H r = some (ys', []) /\ BigF Tryz.prog 46 [.ptr 1 0, .si .i64 n, .agg [.si .i64 kind, .si .i64 at_, .si .i64 xl, .si .i64 xc, .si .i64 xb, .si .i64 xs, .si .i64 xh, .si .i64 xd, .si .i64 xw, .si .i64 xk, .si .i64 xm]] ys0 o.pan v (match o.same with | true => ys0 | false => ys') := by
   rintro ys0 k rfl h;obtain ⟨j, e, o, v, r, ys', a1, a2, a3, a4, a5⟩ := h [.ptr 1 0, .si .i64 n, .agg [.v (.int .i64 kind), .si .i64 at_, .si .i64 xl, .si .i64 xc, .si .i64 xb, .si .i64 xs, .si .i64 xh, .si .i64 xd, .si .i64 xw, .si .i64 xk, .si .i64 xm]] ⟨_, _, [], _, rfl, rfl, ⟨rfl, rfl⟩, ⟨_, _, [_], _, rfl, rfl, ⟨_, rfl, rfl⟩, ⟨_, _, _, [], rfl, (List.append_nil _).symm, ⟨_, rfl, ⟨_, _, [], _, rfl, rfl, ⟨rfl, rfl⟩, ⟨_, _, [_], _, rfl, rfl, ⟨_, rfl, rfl⟩, ⟨_, _, [_], _, rfl, rfl, ⟨_, rfl, rfl⟩, ⟨_, _, [_], _, rfl, rfl, ⟨_, rfl, rfl⟩, ⟨_, _, [_], _, rfl, rfl, ⟨_, rfl, rfl⟩, ⟨_, _, [_], _, rfl, rfl, ⟨_, rfl, rfl⟩, ⟨_, _, [_], _, rfl, rfl, ⟨_, rfl, rfl⟩, ⟨_, _, [_], _, rfl, rfl, ⟨_, rfl, rfl⟩, ⟨_, _, [_], _, rfl, rfl, ⟨_, rfl, rfl⟩, ⟨_, _, [_], _, rfl, rfl, ⟨_, rfl, rfl⟩, ⟨_, _, [_], _, rfl, rfl, ⟨_, rfl, rfl⟩, ⟨rfl, rfl⟩⟩⟩⟩⟩⟩⟩⟩⟩⟩⟩⟩⟩, ⟨rfl, rfl⟩⟩⟩⟩;exact ⟨j, e, o, v, r, ys', a1, a2, a3, a4, a5.args fun φ => rfl⟩
  by_cases hx : Sp.inr kind 0 6 = true
  ·have hr := Sp.inr_iff.1 hx;have hc : kind = 0 \/ kind = 1 \/ kind = 2 \/ kind = 3 \/ kind = 4 \/ kind = 5 \/ kind = 6 := by omega
   rcases hc with e | e | e | e | e | e | e
   ·exact lit _ 0 e fun xs' h => okdo0 W xs' _ _ _ h hH K (by subst e; exact ⟨hI, hk⟩)
   ·exact lit _ 1 e fun xs' h => okdo1 W xs' _ _ _ h hH K (by subst e; exact ⟨hI, hk⟩)
   ·exact lit _ 2 e fun xs' h => okdo2 W xs' _ _ _ h hH K (by subst e; exact ⟨hI, hk⟩)
   ·exact lit _ 3 e fun xs' h => okdo3 W xs' _ _ _ h hH K (by subst e; exact ⟨hI, hk⟩)
   ·exact lit _ 4 e fun xs' h => okdo4 W xs' _ _ _ h hH K (by subst e; exact ⟨hI, hk⟩)
   ·exact lit _ 5 e fun xs' h => okdo5 W xs' _ _ _ h hH K (by subst e; exact ⟨hI, hk⟩)
   ·exact lit _ 6 e fun xs' h => okdo6 W xs' _ _ _ h hH K (by subst e; exact ⟨hI, hk⟩)
  ·have hx' : Sp.inr kind 0 6 = false := by simpa using hx
   refine okdoX W [.ptr 1 0, .si .i64 n, .agg [.si .i64 kind, .si .i64 at_, .si .i64 xl, .si .i64 xc, .si .i64 xb, .si .i64 xs, .si .i64 xh, .si .i64 xd, .si .i64 xw, .si .i64 xk, .si .i64 xm]] _ [.i n, .i kind, .i at_, .i xl, .i xc, .i xb, .i xs, .i xh, .i xd, .i xw, .i xk, .i xm] _ ?_ hH K ⟨hx', ?_⟩
   ·exact ⟨_, _, [], _, rfl, rfl, ⟨rfl, rfl⟩, ⟨_, _, [_], _, rfl, rfl, ⟨_, rfl, rfl⟩, ⟨_, _, _, [], rfl, (List.append_nil _).symm, ⟨_, rfl, ⟨_, _, [_], _, rfl, rfl, ⟨_, rfl, rfl⟩, ⟨_, _, [_], _, rfl, rfl, ⟨_, rfl, rfl⟩, ⟨_, _, [_], _, rfl, rfl, ⟨_, rfl, rfl⟩, ⟨_, _, [_], _, rfl, rfl, ⟨_, rfl, rfl⟩, ⟨_, _, [_], _, rfl, rfl, ⟨_, rfl, rfl⟩, ⟨_, _, [_], _, rfl, rfl, ⟨_, rfl, rfl⟩, ⟨_, _, [_], _, rfl, rfl, ⟨_, rfl, rfl⟩, ⟨_, _, [_], _, rfl, rfl, ⟨_, rfl, rfl⟩, ⟨_, _, [_], _, rfl, rfl, ⟨_, rfl, rfl⟩, ⟨_, _, [_], _, rfl, rfl, ⟨_, rfl, rfl⟩, ⟨_, _, [_], _, rfl, rfl, ⟨_, rfl, rfl⟩, ⟨rfl, rfl⟩⟩⟩⟩⟩⟩⟩⟩⟩⟩⟩⟩⟩, ⟨rfl, rfl⟩⟩⟩⟩
   ·unfold Sp.doE Sp.doB at hk;simp only [hx', Bool.not_false, if_true] at hk;exact hk
noncomputable def Xw2 : CE Tryz.prog := ceOf Xuv okdo
noncomputable def TPa : Tab Tryz.prog := ⟨[Xdl], [], []⟩
def Xes [InW] (e : List Ed) (K : Nat -> List Ed -> Prop) : Prop := match e with
 | [.ro _ rc0, .i nc, .i i, .ro _ rl, .ro _ rc, .i pr, .i ex, .i lo, .i hi, .ro _ rt, .l km] =>
  Pre (nc = (rc0.xs.length : Int) /\ 0 <= i /\ i <= (rc0.xs.length : Int) /\ rc0.xs.length <= 1000 /\ km.length <= i) (K 0 [.ro _ rl, .ro _ rc, .i pr, .i ex, .i lo, .i hi, .ro _ rt, .l (km ++ Sp.kms rc0.xs i.toNat (rc0.xs.length - i.toNat))])
 | _ => False
noncomputable def Xe4 : LC where
 len := 66
 T := [(2, (.ptr 1 0)), (9, (.ptr 4 0)), (28, .rs Ivs), (29, .int .i64), (30, .int .i64)]
 H := [(1, .blk 32 [.rs Jd, .rs Ivs, .int .i64, .int .i64, .int .i64, .int .i64, .rs Jc]), (4, .blk 63 [(.opq 1021), (.opq 1024), (.opq 1027), (.opq 1030), (.opq 1033), (.opq 1036), (.opq 1039), (.opq 1042), (.row 6), (.opq 1045), (.opq 1048), (.opq 1051), (.opq 1054), (.opq 1057), (.opq 1060)]), (6, .arr 3 Je)]
 W := ([11] ++ rgg 31 17)
 outs := [⟨.exit 0, [(2, (.ptr 1 0)), (9, (.ptr 4 0))], [(1, .blk 32 [.rs Jd, .rs Ivs, .int .i64, .int .i64, .int .i64, .int .i64, .rs Jc]), (4, .blk 63 [(.opq 1021), (.opq 1024), (.opq 1027), (.opq 1030), (.opq 1033), (.opq 1036), (.opq 1039), (.opq 1042), (.row 9), (.opq 1045), (.opq 1048), (.opq 1051), (.opq 1054), (.opq 1057), (.opq 1060)]), (9, .arr 3 Je)], ([11] ++ rgg 28 20)⟩]
 spec := Xes
def Xfv [W : InW] (rc0 : Ro Ivs) (nc i : Int) (rl : Ro Jd) (rc : Ro Ivs) (pr ex lo hi : Int) (rt : Ro Jc) (km : Dt) (A : List Ed -> Prop) (K : Nat -> List Ed -> Prop) : Prop :=
 Vif (decide (i < nc)) (Need (decide (0 <= i) && decide (i < (↑(rc0.xs.length) : Int))) (Need (decide (i.toNat < rc0.xs.length)) (Need (decide ((km.length + [[Cl.i (cel rc0.xs i.toNat (0+1)).int]].length) * 8 <= 140737488355328)) (Ar .i64 (i + 1) fun z => A [.ro _ rc0, .i nc, .i z, .ro _ rl, .ro _ rc, .i pr, .i ex, .i lo, .i hi, .ro _ rt, .l (km ++ [[Cl.i (cel rc0.xs i.toNat (0+1)).int]])])))) (K 0 [.ro _ rl, .ro _ rc, .i pr, .i ex, .i lo, .i hi, .ro _ rt, .l km])
theorem Xom (W : InW) (rc0 nc i rl rc pr ex lo hi rt km A K) : Ye9 { cxT Tryz.prog TT TPa 1000 50 with fn := 45 } 1000 (Ynh Tryz.prog 45 9) (Ydy 66 [(2, .ptr 1 0), (9, .ptr 4 0), (28, .rs _ rc0), (29, .si .i64 nc), (30, .si .i64 i)] ([11] ++ rgg 31 17)) [(1, .blk 32 [.rs _ rl, .rs _ rc, .si .i64 pr, .si .i64 ex, .si .i64 lo, .si .i64 hi, .rs _ rt]), (4, .blk 63 [.opq 1021, .opq 1024, .opq 1027, .opq 1030, .opq 1033, .opq 1036, .opq 1039, .opq 1042, .rw 6, .opq 1045, .opq 1048, .opq 1051, .opq 1054, .opq 1057, .opq 1060]), (6, .arr 3 Je km)] (Yth Xe4 A K) = Xfv rc0 nc i rl rc pr ex lo hi rt km A K := by kernel_rfl
def Xgl : Prop := ∀ (W : InW) (body a : Code), (Tryz.prog.funcs[45]?).bind (·.body) = some body -> a ∈ Yw body -> Yfu a = 9 -> @Yma W Tryz.prog a (@Ysp W Xe4)
theorem Xpx (meas : [InW] -> List Ed -> Nat) (hyp_ : ∀ (W : InW) rc0 nc i rl rc pr ex lo hi rt km K, Xes [.ro _ rc0, .i nc, .i i, .ro _ rl, .ro _ rc, .i pr, .i ex, .i lo, .i hi, .ro _ rt, .l km] K -> ∀ A : List Ed -> Prop, (∀ e, meas e < meas [.ro _ rc0, .i nc, .i i, .ro _ rl, .ro _ rc, .i pr, .i ex, .i lo, .i hi, .ro _ rt, .l km] -> Xes e K -> A e) -> Xfv rc0 nc i rl rc pr ex lo hi rt km A K) : Xgl :=
 LE.okOf' (fun W => @TT W) (fun W => @Xb W) Xa TPa 1000 50 (by kernel_rfl) Xe4 (fun W => @meas W) fun W rc0 nc i rl rc pr ex lo hi rt km K hs =>
  (Xom W rc0 nc i rl rc pr ex lo hi rt km (fun e => meas e < meas [.ro _ rc0, .i nc, .i i, .ro _ rl, .ro _ rc, .i pr, .i ex, .i lo, .i hi, .ro _ rt, .l km] /\ Xes e K) K).mpr (hyp_ W rc0 nc i rl rc pr ex lo hi rt km K hs _ fun e h1 h2 => ⟨h1, h2⟩)
theorem Xt4 : Xgl := Xpx (fun e => match e with | .ro _ rc :: _ :: .i i :: _ => ((rc.xs.length : Int) - i).toNat | _ => 0) fun W rc0 nc i rl rc pr ex lo hi rt km K hs A hA => by
 obtain ⟨⟨rfl, h0, h1, h2, h3⟩, hk⟩ := hs;unfold Xfv;simp only [List.length_cons, List.length_nil, Nat.zero_add];refine vifd (fun e => ned (by simp; omega) (nedd (by omega) (nedd (by omega) (ar64 (by omega) (hA _ ?_ ?_))))) fun e => ?_
 ·show ((rc0.xs.length : Int) - (i + 1)).toNat < ((rc0.xs.length : Int) - i).toNat
  omega
 ·refine ⟨⟨rfl, by omega, by omega, h2, by simp; omega⟩, ?_⟩;rw [show rc0.xs.length - i.toNat = (rc0.xs.length - (i.toNat + 1)) + 1 by omega] at hk;rw [show (i + 1).toNat = i.toNat + 1 by omega, List.append_assoc];exact hk
 ·rw [show rc0.xs.length - i.toNat = 0 by omega] at hk;simp only [Sp.kms, List.append_nil] at hk;exact hk
noncomputable def Xuh : LE Tryz.prog := ⟨45, 9, fun W => @Ysp W Xe4, Xt4⟩
noncomputable def TPb : Tab Tryz.prog := ⟨[Xdl], [Xuh], []⟩
def Xf8 [InW] (e : List Ed) (K : Nat -> List Ed -> Prop) : Prop := match e with
 | [.ro _ rl, .ro _ rc, .i pr, .i ex, .i lo, .i hi, .ro _ rt, .i n] => Pre (0 <= n) (Vif (decide (Sp.chkE rl.xs rc.xs pr ex lo hi rt.xs = 0))
   (Vif (decide (60 < n)) (K 0 [.i 3])
    (K 1 [.ro _ rl, .ro _ rc, .i pr, .i ex, .i lo, .i hi, .ro _ rt, .i 0, .i 0, .l [], .l (Sp.kms rc.xs 0 rc.xs.length), .l (List.replicate rc.xs.length [.i 0]), .l (List.replicate (rl.xs.length + 4) [.i 0]), .m [], .l []]))
   (K 0 [.i (Sp.chkE rl.xs rc.xs pr ex lo hi rt.xs)]))
 | _ => False
noncomputable def X5 : CC where
 g := 45
 args := [.agg [.rs Jd, .rs Ivs, .int .i64, .int .i64, .int .i64, .int .i64, .rs Jc], .int .i64]
 H := []
 outs := [⟨false, .tup [(.lit (.pointer none)), .int .i64], [], false⟩, ⟨false, .tup [(.ptr 6 0), (.lit (.int .i64 0))], [(6, .blk 63 [.rs Jd, .rs Ivs, .int .i64, .int .i64, .int .i64, .int .i64, .rs Jc, (.row 9), (.row 12), (.row 15), (.row 18), (.mp 21), (.row 24), .int .i64, .int .i64]), (9, .arr 51 Iv5), (12, .arr 3 Je), (15, .arr 3 Je), (18, .arr 3 Je), (21, .mpI), (24, .arr 104 Iv4)], false⟩]
 spec := Xf8
def Zbq [W : InW] (rc : Ro Ivs) := (↑(rc.xs.length) : Int)
def Xc5 [W : InW] (rl : Ro Jd) (rc : Ro Ivs) (pr ex lo hi : Int) (rt : Ro Jc) (n : Int) (K : Nat -> List Ed -> Prop) : Prop :=
 Pre True (Vif (!decide (Sp.chkE rl.xs rc.xs pr ex lo hi rt.xs = 0)) (K 0 [.i (Sp.chkE rl.xs rc.xs pr ex lo hi rt.xs)]) (Vif (decide (60 < n)) (K 0 [.i (3 : Int)]) (Pre ((Zbq rc) = (Zbq rc) /\ Ze <= 0 /\ Ze <= (Zbq rc) /\ rc.xs.length <= 1000 /\ (↑(0 : Nat) : Int) <= 0) (Need (decide ((Zbq rc) = (Zbq rc)) && decide (Ze <= (Zbq rc)) && decide ((8 : Nat) * (Zbq rc).toNat <= 281474976710656)) (Ar .i64 ((↑(rl.xs.length) : Int) + 4) fun z => Need (decide (z = z) && decide (0 <= z) && decide ((8 : Nat) * z.toNat <= 281474976710656)) (K (0+1) [.ro _ rl, .ro _ rc, .i pr, .i ex, .i lo, .i hi, .ro _ rt, .i Ze, .i Ze, .l [], .l (Sp.kms rc.xs (Int.toNat Ze) (rc.xs.length - Int.toNat Ze)), .l (List.replicate (Zbq rc).toNat (Ygr [Ty.int IntKind.i64])), .l (List.replicate z.toNat (Ygr [Ty.int IntKind.i64])), .m [], .l []]))))))
theorem Xlh (W : InW) (rl rc pr ex lo hi rt n K) : Yvm (cxT Tryz.prog TT TPb 1000 50) 1000 45 [.agg [.rs _ rl, .rs _ rc, .si .i64 pr, .si .i64 ex, .si .i64 lo, .si .i64 hi, .rs _ rt], .si .i64 n] [] (fun v h => outC X5.H [] X5.outs 0 false v h K) (fun v h => outC X5.H [] X5.outs 0 true v h K) = Xc5 rl rc pr ex lo hi rt n K := by kernel_rfl
theorem Xlq (hyp_ : ∀ (W : InW) rl rc pr ex lo hi rt n K, Xf8 [.ro _ rl, .ro _ rc, .i pr, .i ex, .i lo, .i hi, .ro _ rt, .i n] K -> Xc5 rl rc pr ex lo hi rt n K) : ∀ W : InW, @CallC W Tryz.prog X5 :=
 CC.okOf (fun W => @TT W) (fun W => @Xb W) Xa TPb 1000 50 X5 fun W rl rc pr ex lo hi rt n K hs => (Xlh W rl rc pr ex lo hi rt n K).mpr (hyp_ W rl rc pr ex lo hi rt n K hs)
theorem Xpt : ∀ W : InW, @CallC W Tryz.prog X5 := Xlq fun W rl rc pr ex lo hi rt n K hs => by
 obtain ⟨hn, hk⟩ := hs;unfold Xc5;delta Zbq Ze;refine ⟨trivial, vif (fun e => ?_) fun e => ?_⟩
 ·exact hk.2 (by simpa using e)
 ·have e1 : Sp.chkE rl.xs rc.xs pr ex lo hi rt.xs = 0 := by simpa using e
  have ho := Xn2 e1;have k1 := hk.1 (by simpa using e1);have h1 := ho.learners;have h2 := ho.cars;refine vif k1.1 fun e2 => ⟨⟨rfl, by omega, by omega, by omega, by omega⟩, ned (by simp; omega) (ar64 (by omega) (ned (by simp; omega) ?_))⟩;have := k1.2 e2;rw [show ((rc.xs.length : Int)).toNat = rc.xs.length by omega, show ((rl.xs.length : Int) + 4).toNat = rl.xs.length + 4 by omega];exact this
noncomputable def Xgx : CE Tryz.prog := ceOf X5 Xpt
namespace Sp
theorem cel_addA (a : Dt) (i c : Int) (j : Nat) : (cel (addA a i c) j 0).int = (cel a j 0).int + if i.toNat = j /\ i.toNat < a.length then c else 0 := by
 unfold addA;rw [Xb1]
 split
 ·rename_i h; rw [h.1]; rfl
 ·omega
theorem cel_postA (a : Dt) (s d c : Int) (j : Nat) : (cel (postA a s d c) j 0).int = (cel a j 0).int + (if s.toNat = j /\ s.toNat < a.length then -c else 0) + (if d.toNat = j /\ d.toNat < a.length then c else 0) := by
 unfold postA
 split
 ·rename_i h; subst h; split <;> split <;> omega
 ·rw [cel_addA, cel_addA, addA_len]
theorem postA_in {a : Dt} {s d c M : Int} (h : ∀ j, -M <= (cel a j 0).int /\ (cel a j 0).int <= M) (hc : 0 <= c /\ c <= 10000000) : ∀ j, -(M + 20000000) <= (cel (postA a s d c) j 0).int /\ (cel (postA a s d c) j 0).int <= M + 20000000 := fun j => by
 rw [cel_postA];have := h j
 split <;> split <;> omega
theorem setSt_len (ls : Dt) (i st : Int) : (setSt ls i st).length = ls.length := by simp [setSt]
theorem cel_setSt (ls : Dt) (i st : Int) (j k : Nat) (hk : k < 4) : cel (setSt ls i st) j k = cel ls j k := by
 unfold setSt
 by_cases h : i.toNat < ls.length
 ·obtain ⟨r, hr, hg, hc⟩ := row_of h;rw [hg]
  by_cases hj : i.toNat = j
  ·subst hj; exact hc _ _ hk
  ·rw [Xb1, if_neg (fun h => hj h.1)]
 ·rw [List.set_eq_of_length_le (by omega)]
theorem getI_setI : ∀ (es : List (Int × Int)) (k v d : Int), getI (setI es k v) d = if k = d then v else getI es d
 | [], k, v, d => by simp [setI, getI]
 | p :: es, k, v, d => by
  unfold setI
  split
  ·rename_i e
   by_cases h : k = d
   ·simp [getI, h]
   ·simp [getI, h, e]
  ·rename_i e
   by_cases h : p.1 = d
   ·have : k ≠ d := fun x => e (by rw [h, x]);simp [getI, h, this]
   ·simp only [getI, h, if_false, getI_setI es k v d]
theorem orI_in : ∀ (m : Fin 256) (w : Fin 8), 0 <= orI .i64 ((m.1 : Nat) : Int) (2 ^ w.1) /\ orI .i64 ((m.1 : Nat) : Int) (2 ^ w.1) <= 255 := by decide +kernel
theorem seeE_in {es : List (Int × Int)} {x w : Int} (h : ∀ d, 0 <= getI es d /\ getI es d <= 255) (hw : 0 <= w /\ w <= 7) : ∀ d, 0 <= getI (seeE es x w) d /\ getI (seeE es x w) d <= 255 := fun d => by
 unfold seeE;rw [getI_setI]
 split
 ·have h1 := h x;have := orI_in ⟨(getI es x).toNat, by omega⟩ ⟨w.toNat, by omega⟩;simpa [Int.toNat_of_nonneg h1.1] using this
 ·exact h d
theorem weatherL_in {rc : Dt} {es : List (Int × Int)} {x : Evt} : ∀ (n : Nat) (i : Int) (ls : Dt), 0 <= i -> i + n <= ls.length -> WOk rc ls ->
  (weatherL rc es x n i ls).length = ls.length /\ WOk rc (weatherL rc es x n i ls) /\ ∀ j, (cel (weatherL rc es x n i ls) j 0).int = (cel ls j 0).int
 | 0, i, ls, _, _, h => ⟨rfl, h, fun j => rfl⟩
 | n + 1, i, ls, h0, h1, h => by
  unfold weatherL
  by_cases e : hit rc ls i x = true
  ·rw [if_pos e];have hm := h.move (es := es) h0 (by omega);obtain ⟨a, b, c⟩ := weatherL_in n (i + 1) (moveL rc ls es i) (by omega) (by rw [moveL_len]; omega) hm;refine ⟨by rw [a, moveL_len], b, fun j => ?_⟩;rw [c];rcases moveL_cel (es := es) (h.row h0 (by omega)) j with ⟨a, _⟩ | ⟨_, a, _⟩
   ·rw [a]
   ·exact a
  ·rw [if_neg e];exact weatherL_in n (i + 1) ls (by omega) (by omega) h
theorem Inv.up {s : Sch} {b : Bks} {n : Int} (h : Inv s b n) (hn : n + 1 <= 60) : Inv s b (n + 1) := by
 have h0 := h.nn;refine ⟨by omega, h.sch, h.never, by have := h.many; omega, h.ls, ⟨h.km.1, fun j hj => ?_⟩, ⟨h.si.1, fun j hj => ?_⟩, ⟨h.ac.1, fun j => ?_⟩, by have := h.ps; omega, h.tm, h.es⟩
 ·have := h.km.2 j hj; omega
 ·have := h.si.2 j hj; omega
 ·have := h.ac.2 j; omega
theorem canE_ok {rl rc : Dt} {lo hi : Int} {ls : Dt} {es : List (Int × Int)} {at_ l c s h : Int} (e : canE rl rc lo hi ls es at_ l c s h = 0) :
  (0 <= l /\ l < rl.length) /\ (0 <= c /\ c < rc.length) /\ (0 <= s /\ s <= 4800) /\ (1 <= h /\ h <= 4) /\ at_ < s /\ fits lo hi s h = true /\ dryB rc es c s = true /\ blocked ls (-1) l c s h 0 ls.length = false := by
 unfold canE at e
 split at e
 ·cases e
 rename_i e1
 split at e
 ·cases e
 rename_i e2
 split at e
 ·cases e
 rename_i e3
 split at e
 ·cases e
 rename_i e4
 split at e
 ·cases e
 rename_i e5
 split at e
 ·cases e
 rename_i e6;simp only [Bool.not_eq_true, Bool.not_eq_false', Bool.and_eq_true, inr_iff] at e1 e2 e4 e5 e6;exact ⟨by omega, by omega, by omega, by omega, by omega, e4, e5, e6⟩
theorem hasB_iff {ls : Dt} {i st : Int} : hasB ls i st = true ↔ (0 <= i /\ i < ls.length) /\ (cel ls i.toNat 4).int = st := by
 unfold hasB;rw [Bool.and_eq_true, inr_iff, decide_eq_true_eq];omega
theorem err_ok {s : Sch} {b : Bks} {x : Evt} (hk : inr x.kind 0 6 = true) (e : err s b x = 0) :
  (x.kind = 0 /\ canE s.rl s.rc s.lo s.hi b.ls b.es x.at_ x.l x.c x.s x.h = 0) \/
  (x.kind = 1 /\ hasB b.ls x.b 0 = true /\ x.at_ < (cel b.ls x.b.toNat 2).int) \/
  (x.kind = 2 /\ (0 <= x.d /\ x.d <= 200) /\ (0 <= x.w /\ x.w <= 7)) \/
  (x.kind = 3 /\ hasB b.ls x.b 0 = true /\ (cel b.ls x.b.toNat 2).int + (cel b.ls x.b.toNat 3).int <= x.at_ /\ (0 <= x.k /\ x.k <= 400) /\ (cel b.si (cel b.ls x.b.toNat 1).int.toNat 0).int <= (cel s.rc (cel b.ls x.b.toNat 1).int.toNat 2).int) \/
  (x.kind = 4 /\ (0 <= x.c /\ x.c < s.rc.length) /\ (0 <= x.m /\ x.m <= 10000000)) \/
  (x.kind = 5 /\ hasB b.ls x.b 2 = true /\ (0 <= x.m /\ x.m <= 10000000)) \/
  (x.kind = 6 /\ (0 <= x.l /\ x.l < s.rl.length) /\ (0 <= x.m /\ x.m <= 10000000)) := by
 rw [inr_iff] at hk;unfold err at e
 split at e
 ·rename_i h; exact .inl ⟨h, e⟩
 refine .inr ?_
 split at e
 ·rename_i h
  split at e
  ·cases e
  rename_i h1
  split at e
  ·rename_i h2; exact .inl ⟨h, by simpa using h1, h2⟩
  ·cases e
 refine .inr ?_
 split at e
 ·rename_i h
  split at e
  ·rename_i h1;rw [Bool.and_eq_true, inr_iff, inr_iff] at h1;exact .inl ⟨h, h1.1, h1.2⟩
  ·cases e
 refine .inr ?_
 split at e
 ·rename_i h
  split at e
  ·cases e
  rename_i h1
  split at e
  ·cases e
  split at e
  ·cases e
  rename_i h3
  split at e
  ·cases e
  rename_i h4;simp only [Bool.not_eq_true, Bool.not_eq_false', inr_iff] at h1 h3;exact .inl ⟨h, h1, by omega, h3, by omega⟩
 refine .inr ?_
 split at e
 ·rename_i h
  split at e
  ·cases e
  rename_i h1
  split at e
  ·cases e
  rename_i h2;simp only [Bool.not_eq_true, Bool.not_eq_false', inr_iff] at h1 h2;exact .inl ⟨h, by omega, h2⟩
 refine .inr ?_
 split at e
 ·rename_i h
  split at e
  ·cases e
  rename_i h1
  split at e
  ·cases e
  rename_i h2;simp only [Bool.not_eq_true, Bool.not_eq_false', inr_iff] at h1 h2;exact .inl ⟨h, h1, h2⟩
 refine .inr ?_
 split at e
 ·cases e
 rename_i h1
 split at e
 ·cases e
 rename_i h2;simp only [Bool.not_eq_true, Bool.not_eq_false', inr_iff] at h1 h2;exact ⟨by omega, by omega, h2⟩
theorem price_in {s : Sch} (hs : s.Ok) {h : Int} (hh : 1 <= h /\ h <= 4) : 0 <= h * s.pr /\ h * s.pr <= 40000 := by
 have hp := hs.price;exact ⟨Int.mul_nonneg (by omega) (by omega), Int.mul_le_mul hh.2 hp.2 (by omega) (by omega)⟩
theorem Inv.posted' {s : Sch} {b : Bks} {n : Int} (hu : Inv s b (n + 1)) (ha : ∀ j, -(40000000 * n) <= (cel b.ac j 0).int /\ (cel b.ac j 0).int <= 40000000 * n) (hq : (b.ps.length : Int) <= 2 * n) {c : Int} {u v : Int} (hc : 0 <= c /\ c <= 10000000) : Inv s (b.post u v c) (n + 1) := by
 have hp := postP_len b.ps b.ev u v c;refine ⟨hu.nn, hu.sch, hu.never, hu.many, hu.ls, hu.km, hu.si, ⟨?_, fun j => ?_⟩, ?_, hu.tm, hu.es⟩
 ·show (postA b.ac u v c).length = _
  rw [postA_len]; exact hu.ac.1
 ·have := postA_in (s := u) (d := v) (M := 40000000 * n) ha hc j
  show _ <= (cel (postA b.ac u v c) j 0).int /\ (cel (postA b.ac u v c) j 0).int <= _
  omega
 ·show ((postP b.ps b.ev u v c).length : Int) <= _
  omega
theorem Inv.posted {s : Sch} {b : Bks} {n : Int} (h : Inv s b n) {c : Int} (hn : n + 1 <= 60) {u v : Int} (hc : 0 <= c /\ c <= 10000000) : Inv s (b.post u v c) (n + 1) :=
 (h.up hn).posted' (fun j => by have := h.ac.2 j; omega) h.ps hc
theorem Inv.posted2 {s : Sch} {b : Bks} {n : Int} (h : Inv s b n) {c c2 : Int} (hn : n + 1 <= 60) {u v u2 v2 : Int} (hc : 0 <= c /\ c <= 10000000) (hc2 : 0 <= c2 /\ c2 <= 10000000) : Inv s ((b.post u v c).post u2 v2 c2) (n + 1) := by
 have hu := h.up hn;have hp := postP_len b.ps b.ev u v c;have hp2 := postP_len (postP b.ps b.ev u v c) b.ev u2 v2 c2;have h0 := h.nn;refine ⟨hu.nn, hu.sch, hu.never, hu.many, hu.ls, hu.km, hu.si, ⟨?_, fun j => ?_⟩, ?_, hu.tm, hu.es⟩
 ·show (postA (postA b.ac u v c) u2 v2 c2).length = _
  rw [postA_len, postA_len]; exact h.ac.1
 ·have := postA_in (a := postA b.ac u v c) (s := u2) (d := v2) (M := 40000000 * n + 20000000) (postA_in (s := u) (d := v) (M := 40000000 * n) (fun j => by have := h.ac.2 j; omega) hc) hc2 j
  show _ <= (cel (postA (postA b.ac u v c) u2 v2 c2) j 0).int /\ (cel (postA (postA b.ac u v c) u2 v2 c2) j 0).int <= _
  omega
 ·show ((postP (postP b.ps b.ev u v c) b.ev u2 v2 c2).length : Int) <= _
  have := h.ps;omega
theorem Inv.setSt {s : Sch} {b : Bks} {n : Int} (h : Inv s b n) (i st : Int) : Inv s { b with ls := Sp.setSt b.ls i st } n := by
 refine ⟨h.nn, h.sch, h.never, by show ((Sp.setSt b.ls i st).length : Int) <= n; rw [setSt_len]; exact h.many, fun j hj => ?_, h.km, h.si, h.ac, h.ps, h.tm, h.es⟩;have hj' : j < b.ls.length := by rw [<- setSt_len b.ls i st]; exact hj
 show _ /\ _ /\ _ /\ _
 simp only [cel_setSt _ _ _ _ _ (show 0 < 4 by decide), cel_setSt _ _ _ _ _ (show 1 < 4 by decide), cel_setSt _ _ _ _ _ (show 2 < 4 by decide), cel_setSt _ _ _ _ _ (show 3 < 4 by decide)];exact h.ls j hj'
theorem Inv.timed {s : Sch} {b : Bks} {n : Int} (h : Inv s b n) {t e : Int} (ht : 0 <= t /\ t <= 4800) : Inv s { b with tm := t, ev := e } n :=
 ⟨h.nn, h.sch, h.never, h.many, h.ls, h.km, h.si, h.ac, h.ps, ht, h.es⟩
theorem Inv.row {s : Sch} {b : Bks} {n : Int} (h : Inv s b n) {i st : Int} (hb : hasB b.ls i st = true) :
  (0 <= (cel b.ls i.toNat 0).int /\ (cel b.ls i.toNat 0).int < s.rl.length) /\ (0 <= (cel b.ls i.toNat 1).int /\ (cel b.ls i.toNat 1).int < s.rc.length) /\ (0 <= (cel b.ls i.toNat 2).int /\ (cel b.ls i.toNat 2).int <= 4800) /\ (1 <= (cel b.ls i.toNat 3).int /\ (cel b.ls i.toNat 3).int <= 4) := by
 have := (hasB_iff.1 hb).1;exact h.ls i.toNat (by omega)
theorem Inv.eff {s : Sch} {b : Bks} {n : Int} (h : Inv s b n) (hn : n + 1 <= 60) {x : Evt} (hk : inr x.kind 0 6 = true) (he : err s b x = 0) : Inv s (eff s b x) (n + 1) := by
 have hu := h.up hn;have h0 := h.nn;rcases err_ok hk he with ⟨k, e⟩ | ⟨k, e, f⟩ | ⟨k, e, f⟩ | ⟨k, e, f, g, q⟩ | ⟨k, e, f⟩ | ⟨k, e, f⟩ | ⟨k, e, f⟩
 ·obtain ⟨a1, a2, a3, a4, _⟩ := canE_ok e;rw [show Sp.eff s b x = { b with ls := b.ls ++ [[.i x.l, .i x.c, .i x.s, .i x.h, .i 0]] } by simp [Sp.eff, k]];refine ⟨hu.nn, hu.sch, hu.never, ?_, fun j hj => ?_, hu.km, hu.si, hu.ac, hu.ps, hu.tm, hu.es⟩
  ·show (((b.ls ++ [[Cl.i x.l, .i x.c, .i x.s, .i x.h, .i 0]]).length : Nat) : Int) <= _
   have := h.many;simp only [List.length_append, List.length_singleton];omega
  ·show _ /\ _ /\ _ /\ _
   have hj2 : j < b.ls.length + 1 := by simpa using hj
   by_cases hj' : j < b.ls.length
   ·have e : ∀ k, cel (b.ls ++ [[Cl.i x.l, .i x.c, .i x.s, .i x.h, .i 0]]) j k = cel b.ls j k := fun k => by simp [cel, List.getD_eq_getElem?_getD, List.getElem?_append_left hj']
    simp only [e];exact h.ls j hj'
   ·have e : ∀ k, cel (b.ls ++ [[Cl.i x.l, .i x.c, .i x.s, .i x.h, .i 0]]) j k = [Cl.i x.l, .i x.c, .i x.s, .i x.h, .i 0].getD k .z := fun k => by
     rw [show j = b.ls.length by omega];simp [cel, List.getD_eq_getElem?_getD]
    simp only [e];exact ⟨a1, a2, a3, a4⟩
 ·rw [eff1 k];exact (h.setSt x.b 1).posted hn (by have := fee_in h.sch.fees (h.row e).2.2.2 h.sch.price ((cel b.ls x.b.toNat 2).int - x.at_); omega)
 ·rw [show Sp.eff s b x = { b with es := seeE b.es x.d x.w, ls := weatherL s.rc (seeE b.es x.d x.w) x b.ls.length 0 b.ls } by simp [Sp.eff, k]];obtain ⟨a, w, c⟩ := weatherL_in (es := seeE b.es x.d x.w) (x := x) b.ls.length 0 b.ls (by omega) (by omega) h.wok;refine ⟨hu.nn, hu.sch, hu.never, ?_, fun j hj => ?_, hu.km, hu.si, hu.ac, hu.ps, hu.tm, seeE_in h.es f⟩
  ·show ((weatherL s.rc (seeE b.es x.d x.w) x b.ls.length 0 b.ls).length : Int) <= _
   rw [a]; exact hu.many
  ·show (0 <= (cel (weatherL s.rc (seeE b.es x.d x.w) x b.ls.length 0 b.ls) j 0).int /\ (cel (weatherL s.rc (seeE b.es x.d x.w) x b.ls.length 0 b.ls) j 0).int < _) /\ _
   rw [c];have hr := w.rows j hj;exact ⟨(h.ls j (by rw [<- a]; exact hj)).1, hr.2⟩
 ·rw [eff3 k];have hr := h.row e;have h1 := (h.setSt x.b 2);refine Inv.posted' (b := { b with ls := Sp.setSt b.ls x.b 2, km := addA b.km (cel b.ls x.b.toNat 1).int x.k, si := addA b.si (cel b.ls x.b.toNat 1).int x.k }) (n := n) ⟨hu.nn, hu.sch, hu.never, by have := h1.many; exact Int.le_trans this (by omega), h1.ls, ⟨?_, fun j hj => ?_⟩, ⟨?_, fun j hj => ?_⟩, hu.ac, hu.ps, hu.tm, hu.es⟩ (fun j => by have := h.ac.2 j; exact ⟨Int.le_trans (by omega) this.1, this.2⟩) h.ps (by have hp := price_in h.sch hr.2.2.2; exact ⟨hp.1, Int.le_trans hp.2 (by decide)⟩)
  ·show (addA b.km _ x.k).length = _
   rw [addA_len]; exact h.km.1
  ·show 0 <= (cel (addA b.km _ x.k) j 0).int /\ (cel (addA b.km _ x.k) j 0).int <= _
   rw [cel_addA];have := h.km.2 j (by rw [<- addA_len b.km (cel b.ls x.b.toNat 1).int x.k]; exact hj)
   split <;> omega
  ·show (addA b.si _ x.k).length = _
   rw [addA_len]; exact h.si.1
  ·show 0 <= (cel (addA b.si _ x.k) j 0).int /\ (cel (addA b.si _ x.k) j 0).int <= _
   rw [cel_addA];have := h.si.2 j (by rw [<- addA_len b.si (cel b.ls x.b.toNat 1).int x.k]; exact hj)
   split <;> omega
 ·rw [show Sp.eff s b x = Bks.post { b with si := b.si.set x.c.toNat [.i 0] } (school s) (school s + 1) x.m by simp [Sp.eff, k]];refine Inv.posted (b := { b with si := b.si.set x.c.toNat [.i 0] }) (n := n) ⟨h.nn, h.sch, h.never, h.many, h.ls, h.km, ⟨?_, fun j hj => ?_⟩, h.ac, h.ps, h.tm, h.es⟩ hn f
  ·show (b.si.set x.c.toNat [.i 0]).length = _
   simp [h.si.1]
  ·have hj' : j < b.si.length := by simpa using hj
   show 0 <= (cel (b.si.set x.c.toNat [.i 0]) j 0).int /\ (cel (b.si.set x.c.toNat [.i 0]) j 0).int <= _
   rw [Xb1]
   split
   ·show (0 : Int) <= 0 /\ (0 : Int) <= _
    omega
   ·exact h.si.2 j hj'
 ·rw [eff5 k];have := h.sch.excess;exact (h.setSt x.b 3).posted2 hn (by omega) (by omega)
 ·rw [show Sp.eff s b x = b.post (school s + 3) x.l x.m by simp [Sp.eff, k]];exact h.posted hn f
theorem Inv.step {s : Sch} {b : Bks} {n : Int} (h : Inv s b n) (hn : n + 1 <= 60) (x : Evt) : Inv s (doB s b n x) (n + 1) := by
 unfold doB
 split
 ·exact h.up hn
 rename_i e1
 split
 ·exact h.up hn
 rename_i e2;simp only [Bool.not_eq_true, Bool.not_eq_false'] at e1 e2;have ht := inr_iff.1 e2;have h1 : Inv s { b with ev := n } n := h.timed (t := b.tm) h.tm
 split
 ·rename_i e3;have h2 := h1.eff hn (x := x) e1 (by exact e3);exact ⟨h2.nn, h2.sch, h2.never, h2.many, h2.ls, h2.km, h2.si, h2.ac, h2.ps, by show 0 <= x.at_ /\ x.at_ <= 4800; have := h.tm; omega, h2.es⟩
 ·exact h1.up hn
end Sp
noncomputable def TPc : Tab Tryz.prog := ⟨[], [], [Xgx, Xw2]⟩
namespace Sp
def evt (evs : Dt) (i : Int) : Evt := ⟨(cel evs i.toNat 0).int, (cel evs i.toNat 1).int, (cel evs i.toNat 2).int, (cel evs i.toNat 3).int, (cel evs i.toNat 4).int, (cel evs i.toNat 5).int, (cel evs i.toNat 6).int, (cel evs i.toNat 7).int, (cel evs i.toNat 8).int, (cel evs i.toNat 9).int, (cel evs i.toNat 10).int⟩
def runB (s : Sch) (evs : Dt) : Nat -> Int -> Bks -> Bks
 | 0, _, b => b
 | n + 1, i, b => runB s evs n (i + 1) (doB s b i (evt evs i))
def runE (s : Sch) (evs : Dt) : Nat -> Int -> Bks -> Dt
 | 0, _, _ => []
 | n + 1, i, b => [.i (doE s b i (evt evs i))] :: runE s evs n (i + 1) (doB s b i (evt evs i))
end Sp
def FinR [InW] {t1 t2 t3 : List Ty} (K : Nat -> List Ed -> Prop) (j : Nat) (rl : Ro t1) (rc : Ro t2) (pr ex lo hi : Int) (rt : Ro t3) (B : Sp.Bks) (er : Dt) : Prop :=
 K j [.ro _ rl, .ro _ rc, .i pr, .i ex, .i lo, .i hi, .ro _ rt, .i B.tm, .i B.ev, .l B.ls, .l B.km, .l B.si, .l B.ac, .m B.es, .l B.ps, .l er]
def Xeq [InW] (e : List Ed) (K : Nat -> List Ed -> Prop) : Prop := match e with
 | [.ro _ evs, .i n, .i i, .ro _ rl, .ro _ rc, .i pr, .i ex, .i lo, .i hi, .ro _ rt, .i tm, .i ev, .l ls, .l km, .l si, .l ac, .m es, .l ps, .l er] =>
  Pre (n = (evs.xs.length : Int) /\ n <= 60 /\ 0 <= i /\ i <= n /\ (er.length : Int) = i /\ Sp.Inv ⟨rl.xs, rc.xs, pr, ex, lo, hi, rt.xs⟩ ⟨ls, km, si, ac, es, ps, tm, ev⟩ i)
   (FinR K 0 rl rc pr ex lo hi rt (Sp.runB ⟨rl.xs, rc.xs, pr, ex, lo, hi, rt.xs⟩ evs.xs (evs.xs.length - i.toNat) i ⟨ls, km, si, ac, es, ps, tm, ev⟩) (er ++ Sp.runE ⟨rl.xs, rc.xs, pr, ex, lo, hi, rt.xs⟩ evs.xs (evs.xs.length - i.toNat) i ⟨ls, km, si, ac, es, ps, tm, ev⟩))
 | _ => False
noncomputable def Xe2 : LC where
 len := 36
 T := [(4, (.ptr 4 0)), (5, (.row 12)), (19, .rs Iv11), (20, .int .i64), (21, .int .i64)]
 H := [(4, .blk 63 [.rs Jd, .rs Ivs, .int .i64, .int .i64, .int .i64, .int .i64, .rs Jc, (.row 6), (.row 7), (.row 10), (.row 13), (.mp 16), (.row 9), .int .i64, .int .i64]), (6, .arr 51 Iv5), (7, .arr 3 Je), (10, .arr 3 Je), (13, .arr 3 Je), (16, .mpI), (9, .arr 104 Iv4), (12, .arr 41 Je)]
 W := ([7, 8] ++ rgg 22 12)
 outs := [⟨.exit 0, [(4, (.ptr 4 0)), (5, (.row 21))], [(4, .blk 63 [.rs Jd, .rs Ivs, .int .i64, .int .i64, .int .i64, .int .i64, .rs Jc, (.row 15), (.row 7), (.row 10), (.row 13), (.mp 16), (.row 18), .int .i64, .int .i64]), (15, .arr 51 Iv5), (7, .arr 3 Je), (10, .arr 3 Je), (13, .arr 3 Je), (16, .mpI), (18, .arr 104 Iv4), (21, .arr 41 Je)], ([7, 8] ++ rgg 19 15)⟩]
 spec := Xeq
def Zcb [W : InW] (evs : Ro Iv11) (i : Int) := cel evs.xs i.toNat Zh
def Zca [W : InW] (evs : Ro Iv11) (i : Int) := cel evs.xs i.toNat (0+1)
def Zbz [W : InW] (evs : Ro Iv11) (i : Int) := cel evs.xs i.toNat (Zh + 1 + 1)
def Zby [W : InW] (evs : Ro Iv11) (i : Int) := cel evs.xs i.toNat (Zh + 1 + 1 + 1)
def Zbx [W : InW] (evs : Ro Iv11) (i : Int) := cel evs.xs i.toNat (Zh + 1 + 1 + 1 + 1)
def Zbw [W : InW] (evs : Ro Iv11) (i : Int) := cel evs.xs i.toNat (Zh + 1 + 1 + 1 + 1 + 1)
def Zbv [W : InW] (evs : Ro Iv11) (i : Int) := cel evs.xs i.toNat (Zh + 1 + 1 + 1 + 1 + 1 + 1)
def Zbu [W : InW] (evs : Ro Iv11) (i : Int) := cel evs.xs i.toNat (Zh + 1 + 1 + 1 + 1 + 1 + 1 + 1)
def Zbt [W : InW] (evs : Ro Iv11) (i : Int) := cel evs.xs i.toNat (Zh + 1 + 1 + 1 + 1 + 1 + 1 + 1 + 1)
def Zbs [W : InW] (evs : Ro Iv11) (i : Int) := cel evs.xs i.toNat (Zh + 1 + 1 + 1 + 1 + 1 + 1 + 1 + 1 + 1)
def Zbr [W : InW] (evs : Ro Iv11) (i : Int) := cel evs.xs i.toNat (Zh + 1 + 1 + 1 + 1 + 1 + 1 + 1 + 1 + 1 + 1)
def Xft [W : InW] (evs : Ro Iv11) (n i : Int) (rl : Ro Jd) (rc : Ro Ivs) (pr ex lo hi : Int) (rt : Ro Jc) (tm ev : Int) (ls km si ac : Dt) (es : List (Int × Int)) (ps er : Dt) (A : List Ed -> Prop) (K : Nat -> List Ed -> Prop) : Prop :=
 Vif (decide (i < n)) (Need (decide (0 <= i) && decide (i < (↑(evs.xs.length) : Int))) (Need (decide (i.toNat < evs.xs.length)) (Pre (Sp.Inv ⟨rl.xs, rc.xs, pr, ex, lo, hi, rt.xs⟩ { ls := ls, km := km, si := si, ac := ac, es := es, ps := ps, tm := tm, ev := ev } i) (Need (decide ((er.length + [[Cl.i (Sp.doE ⟨rl.xs, rc.xs, pr, ex, lo, hi, rt.xs⟩ { ls := ls, km := km, si := si, ac := ac, es := es, ps := ps, tm := tm, ev := ev } i { kind := (Zcb evs i).int, at_ := (Zca evs i).int, l := (Zbz evs i).int, c := (Zby evs i).int, b := (Zbx evs i).int, s := (Zbw evs i).int, h := (Zbv evs i).int, d := (Zbu evs i).int, w := (Zbt evs i).int, k := (Zbs evs i).int, m := (Zbr evs i).int })]].length) * 8 <= 140737488355328)) (Ar .i64 (i + 1) fun z => A [.ro _ evs, .i n, .i z, .ro _ rl, .ro _ rc, .i pr, .i ex, .i lo, .i hi, .ro _ rt, .i (Sp.doB ⟨rl.xs, rc.xs, pr, ex, lo, hi, rt.xs⟩ { ls := ls, km := km, si := si, ac := ac, es := es, ps := ps, tm := tm, ev := ev } i { kind := (Zcb evs i).int, at_ := (Zca evs i).int, l := (Zbz evs i).int, c := (Zby evs i).int, b := (Zbx evs i).int, s := (Zbw evs i).int, h := (Zbv evs i).int, d := (Zbu evs i).int, w := (Zbt evs i).int, k := (Zbs evs i).int, m := (Zbr evs i).int }).tm, .i (Sp.doB ⟨rl.xs, rc.xs, pr, ex, lo, hi, rt.xs⟩ { ls := ls, km := km, si := si, ac := ac, es := es, ps := ps, tm := tm, ev := ev } i { kind := (Zcb evs i).int, at_ := (Zca evs i).int, l := (Zbz evs i).int, c := (Zby evs i).int, b := (Zbx evs i).int, s := (Zbw evs i).int, h := (Zbv evs i).int, d := (Zbu evs i).int, w := (Zbt evs i).int, k := (Zbs evs i).int, m := (Zbr evs i).int }).ev, .l (Sp.doB ⟨rl.xs, rc.xs, pr, ex, lo, hi, rt.xs⟩ { ls := ls, km := km, si := si, ac := ac, es := es, ps := ps, tm := tm, ev := ev } i { kind := (Zcb evs i).int, at_ := (Zca evs i).int, l := (Zbz evs i).int, c := (Zby evs i).int, b := (Zbx evs i).int, s := (Zbw evs i).int, h := (Zbv evs i).int, d := (Zbu evs i).int, w := (Zbt evs i).int, k := (Zbs evs i).int, m := (Zbr evs i).int }).ls, .l (Sp.doB ⟨rl.xs, rc.xs, pr, ex, lo, hi, rt.xs⟩ { ls := ls, km := km, si := si, ac := ac, es := es, ps := ps, tm := tm, ev := ev } i { kind := (Zcb evs i).int, at_ := (Zca evs i).int, l := (Zbz evs i).int, c := (Zby evs i).int, b := (Zbx evs i).int, s := (Zbw evs i).int, h := (Zbv evs i).int, d := (Zbu evs i).int, w := (Zbt evs i).int, k := (Zbs evs i).int, m := (Zbr evs i).int }).km, .l (Sp.doB ⟨rl.xs, rc.xs, pr, ex, lo, hi, rt.xs⟩ { ls := ls, km := km, si := si, ac := ac, es := es, ps := ps, tm := tm, ev := ev } i { kind := (Zcb evs i).int, at_ := (Zca evs i).int, l := (Zbz evs i).int, c := (Zby evs i).int, b := (Zbx evs i).int, s := (Zbw evs i).int, h := (Zbv evs i).int, d := (Zbu evs i).int, w := (Zbt evs i).int, k := (Zbs evs i).int, m := (Zbr evs i).int }).si, .l (Sp.doB ⟨rl.xs, rc.xs, pr, ex, lo, hi, rt.xs⟩ { ls := ls, km := km, si := si, ac := ac, es := es, ps := ps, tm := tm, ev := ev } i { kind := (Zcb evs i).int, at_ := (Zca evs i).int, l := (Zbz evs i).int, c := (Zby evs i).int, b := (Zbx evs i).int, s := (Zbw evs i).int, h := (Zbv evs i).int, d := (Zbu evs i).int, w := (Zbt evs i).int, k := (Zbs evs i).int, m := (Zbr evs i).int }).ac, .m (Sp.doB ⟨rl.xs, rc.xs, pr, ex, lo, hi, rt.xs⟩ { ls := ls, km := km, si := si, ac := ac, es := es, ps := ps, tm := tm, ev := ev } i { kind := (Zcb evs i).int, at_ := (Zca evs i).int, l := (Zbz evs i).int, c := (Zby evs i).int, b := (Zbx evs i).int, s := (Zbw evs i).int, h := (Zbv evs i).int, d := (Zbu evs i).int, w := (Zbt evs i).int, k := (Zbs evs i).int, m := (Zbr evs i).int }).es, .l (Sp.doB ⟨rl.xs, rc.xs, pr, ex, lo, hi, rt.xs⟩ { ls := ls, km := km, si := si, ac := ac, es := es, ps := ps, tm := tm, ev := ev } i { kind := (Zcb evs i).int, at_ := (Zca evs i).int, l := (Zbz evs i).int, c := (Zby evs i).int, b := (Zbx evs i).int, s := (Zbw evs i).int, h := (Zbv evs i).int, d := (Zbu evs i).int, w := (Zbt evs i).int, k := (Zbs evs i).int, m := (Zbr evs i).int }).ps, .l (er ++ [[Cl.i (Sp.doE ⟨rl.xs, rc.xs, pr, ex, lo, hi, rt.xs⟩ { ls := ls, km := km, si := si, ac := ac, es := es, ps := ps, tm := tm, ev := ev } i { kind := (Zcb evs i).int, at_ := (Zca evs i).int, l := (Zbz evs i).int, c := (Zby evs i).int, b := (Zbx evs i).int, s := (Zbw evs i).int, h := (Zbv evs i).int, d := (Zbu evs i).int, w := (Zbt evs i).int, k := (Zbs evs i).int, m := (Zbr evs i).int })]])]))))) (K 0 [.ro _ rl, .ro _ rc, .i pr, .i ex, .i lo, .i hi, .ro _ rt, .i tm, .i ev, .l ls, .l km, .l si, .l ac, .m es, .l ps, .l er])
theorem Xok (W : InW) (evs n i rl rc pr ex lo hi rt tm ev ls km si ac es ps er A K) : Ye9 { cxT Tryz.prog TT TPc 1000 50 with fn := 10 } 1000 (Ynh Tryz.prog 10 6) (Ydy 36 [(4, .ptr 4 0), (5, .rw 12), (19, .rs _ evs), (20, .si .i64 n), (21, .si .i64 i)] ([7, 8] ++ rgg 22 12)) [(4, .blk 63 [.rs _ rl, .rs _ rc, .si .i64 pr, .si .i64 ex, .si .i64 lo, .si .i64 hi, .rs _ rt, .rw 6, .rw 7, .rw 10, .rw 13, .mp 16, .rw 9, .si .i64 tm, .si .i64 ev]), (6, .arr 51 Iv5 ls), (7, .arr 3 Je km), (10, .arr 3 Je si), (13, .arr 3 Je ac), (16, .obj (.mpI es)), (9, .arr 104 Iv4 ps), (12, .arr 41 Je er)] (Yth Xe2 A K) = Xft evs n i rl rc pr ex lo hi rt tm ev ls km si ac es ps er A K := by kernel_rfl
def Xgj : Prop := ∀ (W : InW) (body a : Code), (Tryz.prog.funcs[10]?).bind (·.body) = some body -> a ∈ Yw body -> Yfu a = 6 -> @Yma W Tryz.prog a (@Ysp W Xe2)
theorem Xpv (meas : [InW] -> List Ed -> Nat) (hyp_ : ∀ (W : InW) evs n i rl rc pr ex lo hi rt tm ev ls km si ac es ps er K, Xeq [.ro _ evs, .i n, .i i, .ro _ rl, .ro _ rc, .i pr, .i ex, .i lo, .i hi, .ro _ rt, .i tm, .i ev, .l ls, .l km, .l si, .l ac, .m es, .l ps, .l er] K -> ∀ A : List Ed -> Prop, (∀ e, meas e < meas [.ro _ evs, .i n, .i i, .ro _ rl, .ro _ rc, .i pr, .i ex, .i lo, .i hi, .ro _ rt, .i tm, .i ev, .l ls, .l km, .l si, .l ac, .m es, .l ps, .l er] -> Xeq e K -> A e) -> Xft evs n i rl rc pr ex lo hi rt tm ev ls km si ac es ps er A K) : Xgj :=
 LE.okOf' (fun W => @TT W) (fun W => @Xb W) Xa TPc 1000 50 (by kernel_rfl) Xe2 (fun W => @meas W) fun W evs n i rl rc pr ex lo hi rt tm ev ls km si ac es ps er K hs =>
  (Xok W evs n i rl rc pr ex lo hi rt tm ev ls km si ac es ps er (fun e => meas e < meas [.ro _ evs, .i n, .i i, .ro _ rl, .ro _ rc, .i pr, .i ex, .i lo, .i hi, .ro _ rt, .i tm, .i ev, .l ls, .l km, .l si, .l ac, .m es, .l ps, .l er] /\ Xeq e K) K).mpr (hyp_ W evs n i rl rc pr ex lo hi rt tm ev ls km si ac es ps er K hs _ fun e h1 h2 => ⟨h1, h2⟩)
theorem Xt2 : Xgj := Xpv (fun e => match e with | _ :: .i n :: .i i :: _ => (n - i).toNat | _ => 0) fun W evs n i rl rc pr ex lo hi rt tm ev ls km si ac es ps er K hs A hA => by
 obtain ⟨⟨rfl, h0, h1, h2, h3, hI⟩, hk⟩ := hs;unfold Xft;delta Zbr Zbs Zbt Zbu Zbv Zbw Zbx Zby Zbz Zcb Zh Zca;simp only [Nat.zero_add, Nat.reduceAdd];refine vifd (fun e => ned (by simp; omega) (nedd (by omega) ⟨hI, nedd (by simp only [List.length_append, List.length_cons, List.length_nil]; omega) (ar64 (by omega) (hA _ ?_ ⟨⟨rfl, h0, by omega, by omega, by simp only [List.length_append, List.length_cons, List.length_nil]; omega, hI.step (by omega) _⟩, ?_⟩))⟩)) fun e => ?_
 ·show ((evs.xs.length : Int) - (i + 1)).toNat < ((evs.xs.length : Int) - i).toNat
  omega
 ·rw [show evs.xs.length - i.toNat = (evs.xs.length - (i.toNat + 1)) + 1 by omega] at hk;rw [show (i + 1).toNat = i.toNat + 1 by omega, List.append_assoc];exact hk
 ·rw [show evs.xs.length - i.toNat = 0 by omega] at hk;simp only [Sp.runB, Sp.runE, List.append_nil] at hk;exact hk
noncomputable def Xuf : LE Tryz.prog := ⟨10, 6, fun W => @Ysp W Xe2, Xt2⟩
noncomputable def TPd : Tab Tryz.prog := ⟨[], [Xuf], [Xgx, Xw2]⟩
namespace Sp
def open0 (s : Sch) : Bks := ⟨[], kms s.rc 0 s.rc.length, List.replicate s.rc.length [.i 0], List.replicate (s.rl.length + 4) [.i 0], [], [], 0, 0⟩
def runErr (rl rc : Dt) (pr ex lo hi : Int) (rt : Dt) (evs : Dt) : Int :=
 if chkE rl rc pr ex lo hi rt = 0 then (if 60 < evs.length then 3 else 0) else chkE rl rc pr ex lo hi rt
def runAll (s : Sch) (evs : Dt) : Bks := runB s evs evs.length 0 (open0 s)
def errAll (s : Sch) (evs : Dt) : Dt := runE s evs evs.length 0 (open0 s)
end Sp
def Xi5 [InW] (e : List Ed) (K : Nat -> List Ed -> Prop) : Prop := match e with
 | [.ro _ rl, .ro _ rc, .i pr, .i ex, .i lo, .i hi, .ro _ rt, .ro _ evs] =>
  Vif (decide (Sp.runErr rl.xs rc.xs pr ex lo hi rt.xs evs.xs = 0))
   (FinR K 1 rl rc pr ex lo hi rt (Sp.runAll ⟨rl.xs, rc.xs, pr, ex, lo, hi, rt.xs⟩ evs.xs) (Sp.errAll ⟨rl.xs, rc.xs, pr, ex, lo, hi, rt.xs⟩ evs.xs))
   (K 0 [.i (Sp.runErr rl.xs rc.xs pr ex lo hi rt.xs evs.xs)])
 | _ => False
noncomputable def Xbu : CC where
 g := 10
 args := [.agg [.rs Jd, .rs Ivs, .int .i64, .int .i64, .int .i64, .int .i64, .rs Jc], .rs Iv11]
 H := []
 outs := [⟨false, .tup [(.lit (.pointer none)), (.lit (.slice none 0 0)), .int .i64], [], false⟩, ⟨false, .tup [(.ptr 6 0), (.row 27), (.lit (.int .i64 0))], [(6, .blk 63 [.rs Jd, .rs Ivs, .int .i64, .int .i64, .int .i64, .int .i64, .rs Jc, (.row 9), (.row 12), (.row 15), (.row 18), (.mp 21), (.row 24), .int .i64, .int .i64]), (9, .arr 51 Iv5), (12, .arr 3 Je), (15, .arr 3 Je), (18, .arr 3 Je), (21, .mpI), (24, .arr 104 Iv4), (27, .arr 41 Je)], false⟩]
 spec := Xi5
def Zcf [W : InW] (evs : Ro Iv11) := (↑(evs.xs.length) : Int)
def Zcd := [Cl.i 0]
def Zce [W : InW] (rl : Ro Jd) := rl.xs.length + 4
def Zcc [W : InW] (evs : Ro Iv11) := evs.xs.length - Int.toNat Ze
def Xd7 [W : InW] (rl : Ro Jd) (rc : Ro Ivs) (pr ex lo hi : Int) (rt : Ro Jc) (evs : Ro Iv11) (K : Nat -> List Ed -> Prop) : Prop :=
 Pre (Ze <= (Zcf evs)) (Vif (decide (Sp.chkE rl.xs rc.xs pr ex lo hi rt.xs = 0)) (Vif (decide ((60 : Int) < (Zcf evs))) (Vif (!decide ((3 : Int) = 0)) (K 0 [.i (3 : Int)]) ((435 : Nat) = 435 + 1)) (Pre ((Zcf evs) = (Zcf evs) /\ (Zcf evs) <= 60 /\ Ze <= 0 /\ Ze <= (Zcf evs) /\ (↑Zh : Int) = 0 /\ Sp.Inv ⟨rl.xs, rc.xs, pr, ex, lo, hi, rt.xs⟩ { ls := [], km := Sp.kms rc.xs Zh (rc.xs.length), si := List.replicate (rc.xs.length) Zcd, ac := List.replicate (Zce rl) Zcd, es := [], ps := [], tm := Ze, ev := Ze } Ze) (K (0+1) [.ro _ rl, .ro _ rc, .i pr, .i ex, .i lo, .i hi, .ro _ rt, .i (Sp.runB ⟨rl.xs, rc.xs, pr, ex, lo, hi, rt.xs⟩ evs.xs (Zcc evs) Ze { ls := [], km := Sp.kms rc.xs Zh (rc.xs.length), si := List.replicate (rc.xs.length) Zcd, ac := List.replicate (Zce rl) Zcd, es := [], ps := [], tm := Ze, ev := Ze }).tm, .i (Sp.runB ⟨rl.xs, rc.xs, pr, ex, lo, hi, rt.xs⟩ evs.xs (Zcc evs) Ze { ls := [], km := Sp.kms rc.xs Zh (rc.xs.length), si := List.replicate (rc.xs.length) Zcd, ac := List.replicate (Zce rl) Zcd, es := [], ps := [], tm := Ze, ev := Ze }).ev, .l (Sp.runB ⟨rl.xs, rc.xs, pr, ex, lo, hi, rt.xs⟩ evs.xs (Zcc evs) Ze { ls := [], km := Sp.kms rc.xs Zh (rc.xs.length), si := List.replicate (rc.xs.length) Zcd, ac := List.replicate (Zce rl) Zcd, es := [], ps := [], tm := Ze, ev := Ze }).ls, .l (Sp.runB ⟨rl.xs, rc.xs, pr, ex, lo, hi, rt.xs⟩ evs.xs (Zcc evs) Ze { ls := [], km := Sp.kms rc.xs Zh (rc.xs.length), si := List.replicate (rc.xs.length) Zcd, ac := List.replicate (Zce rl) Zcd, es := [], ps := [], tm := Ze, ev := Ze }).km, .l (Sp.runB ⟨rl.xs, rc.xs, pr, ex, lo, hi, rt.xs⟩ evs.xs (Zcc evs) Ze { ls := [], km := Sp.kms rc.xs Zh (rc.xs.length), si := List.replicate (rc.xs.length) Zcd, ac := List.replicate (Zce rl) Zcd, es := [], ps := [], tm := Ze, ev := Ze }).si, .l (Sp.runB ⟨rl.xs, rc.xs, pr, ex, lo, hi, rt.xs⟩ evs.xs (Zcc evs) Ze { ls := [], km := Sp.kms rc.xs Zh (rc.xs.length), si := List.replicate (rc.xs.length) Zcd, ac := List.replicate (Zce rl) Zcd, es := [], ps := [], tm := Ze, ev := Ze }).ac, .m (Sp.runB ⟨rl.xs, rc.xs, pr, ex, lo, hi, rt.xs⟩ evs.xs (Zcc evs) Ze { ls := [], km := Sp.kms rc.xs Zh (rc.xs.length), si := List.replicate (rc.xs.length) Zcd, ac := List.replicate (Zce rl) Zcd, es := [], ps := [], tm := Ze, ev := Ze }).es, .l (Sp.runB ⟨rl.xs, rc.xs, pr, ex, lo, hi, rt.xs⟩ evs.xs (Zcc evs) Ze { ls := [], km := Sp.kms rc.xs Zh (rc.xs.length), si := List.replicate (rc.xs.length) Zcd, ac := List.replicate (Zce rl) Zcd, es := [], ps := [], tm := Ze, ev := Ze }).ps, .l (Sp.runE ⟨rl.xs, rc.xs, pr, ex, lo, hi, rt.xs⟩ evs.xs (Zcc evs) Ze { ls := [], km := Sp.kms rc.xs Zh (rc.xs.length), si := List.replicate (rc.xs.length) Zcd, ac := List.replicate (Zce rl) Zcd, es := [], ps := [], tm := Ze, ev := Ze })]))) (Vif (!decide (Sp.chkE rl.xs rc.xs pr ex lo hi rt.xs = 0)) (K 0 [.i (Sp.chkE rl.xs rc.xs pr ex lo hi rt.xs)]) ((435 : Nat) = 435 + 1)))
theorem Xly (W : InW) (rl rc pr ex lo hi rt evs K) : Yvm (cxT Tryz.prog TT TPd 1000 50) 1000 10 [.agg [.rs _ rl, .rs _ rc, .si .i64 pr, .si .i64 ex, .si .i64 lo, .si .i64 hi, .rs _ rt], .rs _ evs] [] (fun v h => outC Xbu.H [] Xbu.outs 0 false v h K) (fun v h => outC Xbu.H [] Xbu.outs 0 true v h K) = Xd7 rl rc pr ex lo hi rt evs K := by kernel_rfl
theorem Xm4 (hyp_ : ∀ (W : InW) rl rc pr ex lo hi rt evs K, Xi5 [.ro _ rl, .ro _ rc, .i pr, .i ex, .i lo, .i hi, .ro _ rt, .ro _ evs] K -> Xd7 rl rc pr ex lo hi rt evs K) : ∀ W : InW, @CallC W Tryz.prog Xbu :=
 CC.okOf (fun W => @TT W) (fun W => @Xb W) Xa TPd 1000 50 Xbu fun W rl rc pr ex lo hi rt evs K hs => (Xly W rl rc pr ex lo hi rt evs K).mpr (hyp_ W rl rc pr ex lo hi rt evs K hs)
namespace Sp
theorem kms_len (rc : Dt) : ∀ (n i : Nat), (kms rc i n).length = n
 | 0, _ => rfl
 | n + 1, i => by simp [kms, kms_len rc n]
theorem kms_cel (rc : Dt) : ∀ (n i j : Nat), j < n -> (cel (kms rc i n) j 0).int = (cel rc (i + j) 1).int
 | 0, _, _, h => by omega
 | n + 1, i, 0, h => rfl
 | n + 1, i, j + 1, h => by
  rw [show i + (j + 1) = i + 1 + j by omega, <- kms_cel rc n (i + 1) j (by omega)];rfl
theorem cel_rep (n j : Nat) (v : Int) : (cel (List.replicate n [Cl.i v]) j 0).int = if j < n then v else 0 := by
 unfold cel;rw [List.getD_eq_getElem?_getD, List.getD_eq_getElem?_getD, List.getElem?_replicate]
 split <;> rfl
theorem car_in {rc : Dt} {i : Nat} (h : carErr rc i = 0) : (0 <= (cel rc i 1).int /\ (cel rc i 1).int <= 1000000) /\ (1 <= (cel rc i 2).int /\ (cel rc i 2).int <= 1000000) /\ (0 <= (cel rc i 3).int /\ (cel rc i 3).int <= 255) := by
 unfold carErr at h
 split at h
 ·split at h
  ·cases h
  ·split at h
   ·rename_i e;simp only [Bool.and_eq_true, inr_iff] at e;exact ⟨e.1.1, e.1.2, e.2⟩
   ·cases h
 ·cases h
theorem Inv.zero {s : Sch} (h : s.Ok) : Inv s (open0 s) 0 := by
 have hc := h.cars;refine ⟨by omega, h, fun j hj => (car_in (h.car j hj)).2.2, by simp [open0], fun j hj => by simp [open0] at hj, ⟨kms_len _ _ _, fun j hj => ?_⟩, ⟨by simp [open0], fun j hj => ?_⟩, ⟨by simp [open0], fun j => ?_⟩, by simp [open0], by simp [open0], fun d => by simp [open0, getI]⟩
 ·have hj' : j < s.rc.length := by rw [<- kms_len s.rc s.rc.length 0]; exact hj
  show 0 <= (cel (kms s.rc 0 s.rc.length) j 0).int /\ (cel (kms s.rc 0 s.rc.length) j 0).int <= _
  rw [kms_cel _ _ _ _ hj', Nat.zero_add];have := (car_in (h.car j hj')).1;omega
 ·show 0 <= (cel (List.replicate s.rc.length [Cl.i 0]) j 0).int /\ (cel (List.replicate s.rc.length [Cl.i 0]) j 0).int <= _
  rw [cel_rep]
  split <;> omega
 ·show _ <= (cel (List.replicate (s.rl.length + 4) [Cl.i 0]) j 0).int /\ (cel (List.replicate (s.rl.length + 4) [Cl.i 0]) j 0).int <= _
  rw [cel_rep]
  split <;> omega
end Sp
theorem Xsx : ∀ W : InW, @CallC W Tryz.prog Xbu := Xm4 fun W rl rc pr ex lo hi rt evs K hs => by
 unfold Xd7;delta Zcc Ze Zcd Zce Zh Zcf;obtain ⟨hs1, hs2⟩ := hs;refine ⟨by omega, vif (fun e => ?_) fun e => ?_⟩
 ·have e1 : Sp.chkE rl.xs rc.xs pr ex lo hi rt.xs = 0 := by simpa using e
  have hr : Sp.runErr rl.xs rc.xs pr ex lo hi rt.xs evs.xs = if 60 < evs.xs.length then 3 else 0 := by rw [Sp.runErr, if_pos e1]
  refine vifd (fun e2 => ?_) fun e2 => ?_
  ·rw [if_pos (by omega)] at hr;rw [hr] at hs1 hs2;exact vif (fun _ => hs2 (by decide)) fun h => absurd h (by decide)
  ·rw [if_neg (by omega)] at hr;rw [hr] at hs1 hs2;have hI := Sp.Inv.zero (s := ⟨rl.xs, rc.xs, pr, ex, lo, hi, rt.xs⟩) (Xn2 e1);exact ⟨⟨rfl, by omega, by omega, by omega, rfl, hI⟩, hs1 (by decide)⟩
 ·have e1 : ¬ Sp.chkE rl.xs rc.xs pr ex lo hi rt.xs = 0 := by simpa using e
  have hr : Sp.runErr rl.xs rc.xs pr ex lo hi rt.xs evs.xs = Sp.chkE rl.xs rc.xs pr ex lo hi rt.xs := by rw [Sp.runErr, if_neg e1]
  rw [hr] at hs1 hs2;exact vif (fun _ => hs2 (by simpa using e1)) fun h => absurd h (by simpa using e1)
noncomputable def Xq3 : CE Tryz.prog := ceOf Xbu Xsx
noncomputable def TPe : Tab Tryz.prog := ⟨[], [], [Xq3]⟩
def Xh5 [W : InW] (s_Learners : Ro Jd) (s_Cars : Ro Ivs) (s_Price s_Excess s_Lo s_Hi : Int) (s_Terms : Ro Jc) (evs : Ro Iv11) (Q : DS -> Prop) : Prop :=
 Vif (decide (Sp.runErr s_Learners.xs s_Cars.xs s_Price s_Excess s_Lo s_Hi s_Terms.xs evs.xs = 0)) (Q [[Cl.l (Sp.errAll ⟨s_Learners.xs, s_Cars.xs, s_Price, s_Excess, s_Lo, s_Hi, s_Terms.xs⟩ evs.xs)], [Cl.l (Sp.runAll ⟨s_Learners.xs, s_Cars.xs, s_Price, s_Excess, s_Lo, s_Hi, s_Terms.xs⟩ evs.xs).ls, Cl.l (Sp.runAll ⟨s_Learners.xs, s_Cars.xs, s_Price, s_Excess, s_Lo, s_Hi, s_Terms.xs⟩ evs.xs).km, Cl.l (Sp.runAll ⟨s_Learners.xs, s_Cars.xs, s_Price, s_Excess, s_Lo, s_Hi, s_Terms.xs⟩ evs.xs).si, Cl.l (Sp.runAll ⟨s_Learners.xs, s_Cars.xs, s_Price, s_Excess, s_Lo, s_Hi, s_Terms.xs⟩ evs.xs).ac], [Cl.i 0]]) (Vif (!decide (Sp.runErr s_Learners.xs s_Cars.xs s_Price s_Excess s_Lo s_Hi s_Terms.xs evs.xs = 0)) (Q [[Cl.l []], [Cl.l [], Cl.l [], Cl.l [], Cl.l []], [Cl.i (Sp.runErr s_Learners.xs s_Cars.xs s_Price s_Excess s_Lo s_Hi s_Terms.xs evs.xs)]]) ((16 : Nat) = 16 + 1))
theorem Xsu (W : InW) (s_Learners s_Cars s_Price s_Excess s_Lo s_Hi s_Terms evs Q) : Yvp (cxT Tryz.prog TT TPe 1000 50) 1000 4 [.agg [.rs _ s_Learners, .rs _ s_Cars, .si .i64 s_Price, .si .i64 s_Excess, .si .i64 s_Lo, .si .i64 s_Hi, .rs _ s_Terms], .rs _ evs] [] 0 (Yzq [(false, [.row 41 Je]), (true, [.row 51 I5, .row 3 Je, .row 3 Je, .row 3 Je]), (false, [.int .i64])] Q) (fun _ _ _ _ => Stuck 421) = Xh5 s_Learners s_Cars s_Price s_Excess s_Lo s_Hi s_Terms evs Q := by kernel_rfl
abbrev Xfn : List AT := [.agg [.sl Jd, .sl Ivs, .int .i64, .int .i64, .int .i64, .int .i64, .sl Jc], .one (.sl Iv11)]
theorem Xt0 {pre : DS -> Prop} {res : DS -> DS} (hyp_ : ∀ (W : InW) (s_Learners : Ro Jd) (s_Cars : Ro Ivs) (s_Price s_Excess s_Lo s_Hi : Int) (s_Terms : Ro Jc) (evs : Ro Iv11), pre [[.l s_Learners.xs, .l s_Cars.xs, .i s_Price, .i s_Excess, .i s_Lo, .i s_Hi, .l s_Terms.xs], [.l evs.xs]] -> ∀ Q : DS -> Prop, Q (res [[.l s_Learners.xs, .l s_Cars.xs, .i s_Price, .i s_Excess, .i s_Lo, .i s_Hi, .l s_Terms.xs], [.l evs.xs]]) -> Xh5 s_Learners s_Cars s_Price s_Excess s_Lo s_Hi s_Terms evs Q) : PureOk Tryz.prog 4 Xfn [(false, [.row 41 Je]), (true, [.row 51 I5, .row 3 Je, .row 3 Je, .row 3 Je]), (false, [.int .i64])] pre res :=
 PureOk.of' (fun W => @TT W) (fun W => @Xb W) Xa TPe 1000 50 fun W s_Learners s_Cars s_Price s_Excess s_Lo s_Hi s_Terms evs hp =>
  (Xsu W s_Learners s_Cars s_Price s_Excess s_Lo s_Hi s_Terms evs (fun o => o = res [[.l s_Learners.xs, .l s_Cars.xs, .i s_Price, .i s_Excess, .i s_Lo, .i s_Hi, .l s_Terms.xs], [.l evs.xs]])).mpr (hyp_ W s_Learners s_Cars s_Price s_Excess s_Lo s_Hi s_Terms evs hp _ rfl)
abbrev Xmk : RTs := [(false, [.row 41 Je]), (true, [.row 51 I5, .row 3 Je, .row 3 Je, .row 3 Je]), (false, [.int .i64])]
namespace Sp
def rErr (s : Sch) (evs : Dt) : Int := runErr s.rl s.rc s.pr s.ex s.lo s.hi s.rt evs
def rB (s : Sch) (evs : Dt) : Bks := if rErr s evs = 0 then runAll s evs else ⟨[], [], [], [], [], [], 0, 0⟩
def rE (s : Sch) (evs : Dt) : Dt := if rErr s evs = 0 then errAll s evs else []
end Sp
abbrev Xdc (ds : DS) : DS := match ds with | [[.l rl, .l rc, .i pr, .i ex, .i lo, .i hi, .l rt], [.l evs]] => [[.l (Sp.rE ⟨rl, rc, pr, ex, lo, hi, rt⟩ evs)], [.l (Sp.rB ⟨rl, rc, pr, ex, lo, hi, rt⟩ evs).ls, .l (Sp.rB ⟨rl, rc, pr, ex, lo, hi, rt⟩ evs).km, .l (Sp.rB ⟨rl, rc, pr, ex, lo, hi, rt⟩ evs).si, .l (Sp.rB ⟨rl, rc, pr, ex, lo, hi, rt⟩ evs).ac], [.i (Sp.rErr ⟨rl, rc, pr, ex, lo, hi, rt⟩ evs)]] | _ => []
theorem Xvk : PureOk Tryz.prog 4 Xfn Xmk (fun _ => True) Xdc :=
 Xt0 fun W rl rc pr ex lo hi rt evs _ Q h => by
  unfold Xh5
  by_cases e : Sp.rErr ⟨rl.xs, rc.xs, pr, ex, lo, hi, rt.xs⟩ evs.xs = 0
  ·simp only [Xdc, Sp.rB, Sp.rE, if_pos e, e] at h;rw [show Sp.runErr rl.xs rc.xs pr ex lo hi rt.xs evs.xs = 0 from e];exact ⟨fun _ => h, fun h => absurd h (by decide)⟩
  ·simp only [Xdc, Sp.rB, Sp.rE, if_neg e] at h;exact vifd (fun e1 => absurd e1 e) fun e1 => vif (fun _ => h) fun h => absurd h (by simpa using e1)
noncomputable def Xsw : PC Tryz.prog := ⟨4, Xfn, Xmk, fun _ => True, Xdc, Xvk⟩
end Go.Proofs.YtbhlmkgliflhaaaGreat
