/-
  'AnswerMissed': for every input the law returns true, and what is handed in reads as before. No condition.
-/
import Derived.Test.YtifhdbgciehicaaQmia
import Derived.Shelf.Sort.AssemblyIn
import Derived.Sort.EveryDepth
import Derived.Sort.OwnSortedInts
set_option linter.unusedVariables false
set_option linter.unusedSectionVars false
set_option linter.unusedSimpArgs false
noncomputable section
namespace Go.Proofs.Ytifhdbgciehicaa
open Go.RowKit
set_option maxRecDepth 100000
set_option maxHeartbeats 1600000
namespace Sp
def mis1 (right : Int) (rs : Dt) (k : Nat) : Bool := !decide (ansOf (row (row rs k) 0) = right)
def one (b : Dt) : Dt := [[.l b]]
def mAny (right : Int) (b : Dt) : Bool := anyF (mis1 right (rdD (one b))) 0 (rdD (one b)).length
def mAll (right : Int) (b : Dt) : Bool := allF (mis1 right (rdD (one b))) 0 (rdD (one b)).length
end Sp
theorem Xmy {b : Dt} (h : b.length <= 4) : Sp.Few (Sp.one b) := by
 refine ⟨by simp [Sp.one], fun i hi => ?_⟩;have : i = 0 := by simp [Sp.one] at hi; exact hi
 subst this;exact h
theorem Xid {b : Dt} : (Sp.pos (Sp.one b)).length <= b.length := by
 rw [<- Sp.uns_len];have := Sp.unsRow_len b ((0 : Nat) : Int) b.length 0;have e : Sp.uns (Sp.one b) = Sp.unsRow b ((0 : Nat) : Int) 0 b.length ++ [] := rfl;rw [e, List.append_nil];exact this
theorem Xmw {b : Dt} (h : b.length <= 4) : Sp.RdgOk 8 (Sp.one b) := ⟨Xmy h, by have := Xid (b := b); omega, by omega⟩
theorem Xmx {b : Dt} (h : b.length <= 4) : Sp.LikOk (Sp.one b) (Sp.rdD (Sp.one b)) := Sp.rds_lik rfl (fun _ => rfl) (by have := Xid (b := b); omega)
namespace Sp
def errL (f : Nat -> Int) : Nat -> Nat -> Int -> Int
 | _, 0, e => e
 | i, n + 1, e => if e = 0 then errL f (i + 1) n (f i) else e
theorem errL_ne {f : Nat -> Int} {e : Int} (h : e ≠ 0) : ∀ n i, errL f i n e = e
 | 0, _ => rfl
 | n + 1, i => by unfold errL; rw [if_neg h]
theorem errL_0 {f : Nat -> Int} : ∀ n i e, errL f i n e = 0 -> e = 0 /\ ∀ k, i <= k -> k < i + n -> f k = 0
 | 0, i, e, h => ⟨h, fun k a b => by omega⟩
 | n + 1, i, e, h => by
  unfold errL at h
  by_cases c : e = 0
  ·rw [if_pos c] at h;have := errL_0 n (i + 1) _ h;refine ⟨c, fun k a b => ?_⟩;rcases Nat.eq_or_lt_of_le a with d | d
   ·exact d ▸ this.1
   ·exact this.2 k (by omega) (by omega)
  ·rw [if_neg c] at h; exact absurd h c
def shI (qs pp : Dt) (i : Nat) : Int := shE qs (row pp i)
end Sp
namespace Sp
def mAdd (qs sh l : Dt) (j : Nat) : Dt := l.set j [.i ((cel l j 0).int + if mAll (qRight qs j) (row sh j) = true then 1 else 0), .i ((cel l j 1).int + if mAny (qRight qs j) (row sh j) = true then 1 else 0)]
def addQ (qs sh : Dt) : Nat -> Nat -> Dt -> Dt
 | _, 0, l => l
 | j, n + 1, l => addQ qs sh (j + 1) n (mAdd qs sh l j)
def addP (qs pp : Dt) : Nat -> Nat -> Dt -> Dt
 | _, 0, l => l
 | i, n + 1, l => addP qs pp (i + 1) n (addQ qs (row pp i) 0 l.length l)
structure CntAt (l : Dt) (m : Int) (q : Int) : Prop where
 ok : ∀ j : Nat, j < l.length -> ∃ x y : Int, l.getD j [] = [.i x, .i y] /\ 0 <= x /\ x <= (if (j : Int) < q then m + 1 else m) /\ 0 <= y /\ y <= (if (j : Int) < q then m + 1 else m)
theorem set_getD {l : Dt} {j : Nat} {c : List Cl} (h : j < l.length) : (l.set j c).getD j [] = c := by
 rw [List.getD_eq_getElem?_getD, List.getElem?_set_self h]; rfl
theorem set_getN {l : Dt} {j k : Nat} {c : List Cl} (h : j ≠ k) : (l.set j c).getD k [] = l.getD k [] := by
 rw [List.getD_eq_getElem?_getD, List.getElem?_set_ne h, <- List.getD_eq_getElem?_getD]
theorem cel_set {l : Dt} {j k : Nat} {c : List Cl} (h : j < l.length) : cel (l.set j c) j k = c.getD k .z := by
 unfold cel; rw [set_getD h]
theorem CntAt.next {l : Dt} {m : Int} {j : Nat} (h : CntAt l m j) (hj : j < l.length) {x y dx dy : Int} (e : l.getD j [] = [.i x, .i y]) (hx : dx = 0 \/ dx = 1) (hy : dy = 0 \/ dy = 1) : CntAt (l.set j [.i (x + dx), .i (y + dy)]) m (j + 1 : Int) := by
 refine ⟨fun k hk => ?_⟩;rw [List.length_set] at hk;obtain ⟨a, b, h1, h2, h3, h4, h5⟩ := h.ok k hk
 by_cases c : j = k
 ·subst c;rw [e] at h1;injection h1 with h6 h7
  injection h6 with h6
  injection h7 with h7 _
  injection h7 with h7
  subst h6; subst h7;refine ⟨x + dx, y + dy, set_getD hj, ?_⟩;rw [if_neg (by omega)] at h3 h5;rw [if_pos (by omega)];omega
 ·refine ⟨a, b, by rw [set_getN c]; exact h1, h2, ?_, h4, ?_⟩
  ·split at h3 <;> split <;> omega
  ·split at h5 <;> split <;> omega
end Sp
namespace Sp
theorem addQ_len (qs sh : Dt) : ∀ n j l, (addQ qs sh j n l).length = l.length
 | 0, _, _ => rfl
 | n + 1, j, l => by simp [addQ, addQ_len qs sh n, mAdd]
theorem addP_len (qs pp : Dt) : ∀ n i l, (addP qs pp i n l).length = l.length
 | 0, _, _ => rfl
 | n + 1, i, l => by simp [addP, addP_len qs pp n, addQ_len]
theorem CntAt.go {qs sh : Dt} {m : Int} : ∀ n j l, CntAt l m (j : Nat) -> j + n = l.length -> CntAt (addQ qs sh j n l) m (l.length : Nat)
 | 0, j, l, h, e => by rw [<- e]; exact h
 | n + 1, j, l, h, e => by
  obtain ⟨x, y, hg, _⟩ := h.ok j (by omega);have c0 : cel l j 0 = .i x := by unfold cel; rw [hg]; rfl
  have c1 : cel l j 1 = .i y := by unfold cel; rw [hg]; rfl
  have := CntAt.go (qs := qs) (sh := sh) n (j + 1) (mAdd qs sh l j) (by
   unfold mAdd;rw [c0, c1];exact h.next (by omega) hg (by split <;> simp) (by split <;> simp)) (by unfold mAdd; rw [List.length_set]; omega)
  rw [show (mAdd qs sh l j).length = l.length by unfold mAdd; rw [List.length_set]] at this;exact this
theorem CntAt.up {l : Dt} {m : Int} (h : CntAt l m (l.length : Nat)) : CntAt l (m + 1) 0 := ⟨fun j hj => by
 obtain ⟨x, y, hg, h1, h2, h3, h4⟩ := h.ok j hj;rw [if_pos (by omega)] at h2 h4;exact ⟨x, y, hg, h1, by rw [if_neg (by omega)]; exact h2, h3, by rw [if_neg (by omega)]; exact h4⟩⟩
end Sp
namespace Sp
def misE (qs ps : Dt) (all : Int) (pp : Dt) : Int := errL (shI qs pp) 0 pp.length (if chkE qs ps all = 0 then (if 20 < pp.length then 3 else 0) else chkE qs ps all)
def misV (qs ps : Dt) (all : Int) (pp : Dt) : Dt := if misE qs ps all pp = 0 then addP qs pp 0 pp.length (List.replicate qs.length [.i 0, .i 0]) else []
theorem misE_ok {qs ps pp : Dt} {all : Int} (h : misE qs ps all pp = 0) : KeyOk qs ps all /\ pp.length <= 20 /\ ∀ i, i < pp.length -> ShOk qs (row pp i) := by
 obtain ⟨h1, h2⟩ := errL_0 _ _ _ h
 split at h1
 ·rename_i e
  split at h1
  ·omega
  ·exact ⟨chkE_iff.1 e, by omega, fun i hi => shE_iff.1 (h2 i (by omega) (by omega))⟩
 ·rename_i e; exact absurd h1 e
end Sp
abbrev Xdc (ds : DS) : DS := match ds with | [[.l qs, .l ps, .i all], [.l pp]] => [[.l (Sp.misV qs ps all pp)], [.i (Sp.misE qs ps all pp)]] | _ => []
namespace Sp
def eqI (xs : Dt) (x : Int) (k : Nat) : Bool := decide (x = num xs k)
def idxOf (xs : Dt) (x : Int) : Int := if anyF (eqI xs x) 0 xs.length = true then (fstF (eqI xs x) 0 xs.length : Nat) else -1
end Sp
def Xjv [InW] (e : List Ed) (K : Nat -> List Ed -> Prop) : Prop := match e with
 | [.ro _ xs, .i x, .i n, .i i] => Pre (n = xs.xs.length /\ 0 <= i /\ i <= n) (Vif (Sp.anyF (Sp.eqI xs.xs x) i.toNat (xs.xs.length - i.toNat)) (K 1 [.i ((Sp.fstF (Sp.eqI xs.xs x) i.toNat (xs.xs.length - i.toNat) : Nat) : Int)]) (K 0 []))
 | _ => False
def Xkt : LC where
 len := 19
 T := [(0, .rs Jc), (1, .int .i64), (7, .int .i64), (8, .int .i64)]
 H := []
 W := ([4, 5] ++ rg 9 10)
 outs := [⟨.exit 0, [], [], ([0, 1, 4, 5] ++ rg 7 12)⟩, ⟨.ret, [(4, .int .i64)], [], ([0, 1, 5] ++ rg 7 12)⟩]
 spec := Xjv
def Xjc [W : InW] (xs : Ro Jc) (x n i : Int) (A : List Ed -> Prop) (K : Nat -> List Ed -> Prop) : Prop :=
 Vif (decide (i < n)) (Need (decide (0 <= i) && decide (i < (↑(xs.xs.length) : Int))) (Need (decide (i.toNat < xs.xs.length)) (Vif (decide (x = (cel xs.xs i.toNat (0 : Nat)).int)) (K (0+1) [.i i]) (Ar .i64 (i + 1) fun z => A [.ro _ xs, .i x, .i n, .i z])))) (K 0 [])
theorem Xow (W : InW) (xs x n i A K) : Yfc { cxT Try.prog TT T0 1000 50 with fn := 86 } 1000 (Yn7 Try.prog 86 3) (Yd6 19 [(0, .rs _ xs), (1, .si .i64 x), (7, .si .i64 n), (8, .si .i64 i)] ([4, 5] ++ rg 9 10)) [] (Yuf Xkt A K) = Xjc xs x n i A K := by kernel_rfl
def Xim : Prop := ∀ (W : InW) (body a : Code), (Try.prog.funcs[86]?).bind (·.body) = some body -> a ∈ Yy body -> Yfw a = 3 -> @Ymq W Try.prog a (@Ytn W Xkt)
theorem Xpi (meas : [InW] -> List Ed -> Nat) (hyp_ : ∀ (W : InW) xs x n i K, Xjv [.ro _ xs, .i x, .i n, .i i] K -> ∀ A : List Ed -> Prop, (∀ e, meas e < meas [.ro _ xs, .i x, .i n, .i i] -> Xjv e K -> A e) -> Xjc xs x n i A K) : Xim :=
 LE.okOf' (fun W => @TT W) (fun W => @Xe W) Xa T0 1000 50 (by kernel_rfl) Xkt (fun W => @meas W) fun W xs x n i K hs =>
  (Xow W xs x n i (fun e => meas e < meas [.ro _ xs, .i x, .i n, .i i] /\ Xjv e K) K).mpr (hyp_ W xs x n i K hs _ fun e h1 h2 => ⟨h1, h2⟩)
theorem okLix : Xim := Xpi (fun e => match e with | [_, _, .i n, .i i] => (n - i).toNat | _ => 0) fun W xs x n i K hs A hA => by
 obtain ⟨⟨rfl, h0, h1⟩, hk⟩ := hs;unfold Xjc;have hm := xs.len;simp only [maxLen] at hm;have ez : (i + 1).toNat = i.toNat + 1 := by omega
 have ei : ((i.toNat : Nat) : Int) = i := Int.toNat_of_nonneg h0
 by_cases hi : i < xs.xs.length
 ·rw [show xs.xs.length - i.toNat = (xs.xs.length - (i.toNat + 1)) + 1 by omega] at hk;simp only [Sp.anyF, Sp.fstF] at hk;simp only [show ∀ k, (cel xs.xs k 0).int = Sp.num xs.xs k from fun _ => rfl]
  by_cases c : x = Sp.num xs.xs i.toNat
  ·have c2 : Sp.eqI xs.xs x i.toNat = true := decide_eq_true c;rw [c2, Bool.true_or, if_pos rfl, ei] at hk;have hk := hk.1 rfl;clear hA
   repeat' (first | omega|intro _|with_reducible first|apply vifd|apply vifn|apply vifq|apply Xd|apply Xc|apply vifb|apply vif|apply nedd|apply ned2|apply ned|apply ar64|apply Xb|exact True.intro|assumption|rfl|apply And.intro)
   all_goals first | contradiction | exact hk | skip
  ·have c2 : Sp.eqI xs.xs x i.toNat = false := decide_eq_false c;rw [c2, Bool.false_or, if_neg (by decide)] at hk;have hA' := hA [.ro _ xs, .i x, .i xs.xs.length, .i (i + 1)] (show ((xs.xs.length : Int) - (i + 1)).toNat < ((xs.xs.length : Int) - i).toNat by omega) ⟨⟨rfl, by omega, by omega⟩, by rw [ez]; exact hk⟩;clear hA hk
   repeat' (first | omega|intro _|with_reducible first|apply vifd|apply vifn|apply vifq|apply Xd|apply Xc|apply vifb|apply vif|apply nedd|apply ned2|apply ned|apply ar64|apply Xb|exact True.intro|assumption|rfl|apply And.intro)
   all_goals first | contradiction | exact hA' | skip
 ·rw [show xs.xs.length - i.toNat = 0 by omega] at hk;clear hA
  repeat' (first | omega|intro _|with_reducible first|apply vifd|apply vifn|apply vifq|apply Xd|apply Xc|apply vifb|apply vif|apply nedd|apply ned2|apply ned|apply ar64|apply Xb|exact True.intro|assumption|rfl|apply And.intro)
  all_goals exact hk.2 rfl
def le_ix : LE Try.prog := ⟨86, 3, fun W => @Ytn W Xkt, okLix⟩
def T40 : Tab Try.prog := ⟨[], [le_ix], []⟩
def Xoq [W : InW] (xs : Ro Jc) (x : Int) (Q : DS -> Prop) : Prop :=
 Pre ((↑(xs.xs.length) : Int) = (↑(xs.xs.length) : Int) /\ Zb <= 0 /\ Zb <= (↑(xs.xs.length) : Int)) (Vif (Sp.anyF (Sp.eqI xs.xs x) (Int.toNat Zb) (xs.xs.length - Int.toNat Zb)) (Q [[Cl.i (↑(Sp.fstF (Sp.eqI xs.xs x) (Int.toNat Zb) (xs.xs.length - Int.toNat Zb)) : Int)]]) (Q [[Cl.i (-1 : Int)]]))
theorem vc_ix (W : InW) (xs x Q) : Ywt (cxT Try.prog TT T40 1000 50) 1000 86 [.rs _ xs, .si .i64 x] [] 0 (Y02 [(false, [.int .i64])] Q) (fun _ _ _ _ => Stuck 421) = Xoq xs x Q := by kernel_rfl
abbrev Xi0 : List AT := [.one (.sl Jc), .one (.int .i64)]
theorem ok_ix {pre : DS -> Prop} {res : DS -> DS} (hyp_ : ∀ (W : InW) (xs : Ro Jc) (x : Int), pre [[.l xs.xs], [.i x]] -> ∀ Q : DS -> Prop, Q (res [[.l xs.xs], [.i x]]) -> Xoq xs x Q) : PureOk Try.prog 86 Xi0 [(false, [.int .i64])] pre res :=
 PureOk.of' (fun W => @TT W) (fun W => @Xe W) Xa T40 1000 50 fun W xs x hp =>
  (vc_ix W xs x (fun o => o = res [[.l xs.xs], [.i x]])).mpr (hyp_ W xs x hp _ rfl)
abbrev Xh4 (ds : DS) : DS := match ds with | [[.l xs], [.i x]] => [[.i (Sp.idxOf xs x)]] | _ => []
theorem okix : PureOk Try.prog 86 Xi0 [(false, [.int .i64])] (fun _ => True) Xh4 :=
 ok_ix fun W xs x hp Q h => by
  unfold Xoq;delta Zb;simp only [Xh4, Sp.idxOf] at h;simp only [show Int.toNat 0 = 0 from rfl, Nat.sub_zero];refine ⟨⟨trivial, by omega, by omega⟩, vif (fun e => ?_) fun e => ?_⟩
  ·rw [if_pos e] at h; exact h
  ·rw [if_neg (by simp [e])] at h; exact h
def Xo6 : PC Try.prog := ⟨86, Xi0, [(false, [.int .i64])], fun _ => True, Xh4, okix⟩
def T41 : Tab Try.prog := ⟨[Xo6], [], []⟩
def Xor [W : InW] (xs : Ro Jc) (x : Int) (Q : DS -> Prop) : Prop :=
 Pre True (Q [[Cl.b (decide ((0 : Int) <= Sp.idxOf xs.xs x))]])
theorem vc_cn (W : InW) (xs x Q) : Ywt (cxT Try.prog TT T41 1000 50) 1000 87 [.rs _ xs, .si .i64 x] [] 0 (Y02 [(false, [.bool])] Q) (fun _ _ _ _ => Stuck 421) = Xor xs x Q := by kernel_rfl
abbrev Xi2 : List AT := [.one (.sl Jc), .one (.int .i64)]
theorem ok_cn {pre : DS -> Prop} {res : DS -> DS} (hyp_ : ∀ (W : InW) (xs : Ro Jc) (x : Int), pre [[.l xs.xs], [.i x]] -> ∀ Q : DS -> Prop, Q (res [[.l xs.xs], [.i x]]) -> Xor xs x Q) : PureOk Try.prog 87 Xi2 [(false, [.bool])] pre res :=
 PureOk.of' (fun W => @TT W) (fun W => @Xe W) Xa T41 1000 50 fun W xs x hp =>
  (vc_cn W xs x (fun o => o = res [[.l xs.xs], [.i x]])).mpr (hyp_ W xs x hp _ rfl)
abbrev Xk5 (ds : DS) : DS := match ds with | [[.l xs], [.i x]] => [[.b (decide (0 <= Sp.idxOf xs x))]] | _ => []
theorem okcn : PureOk Try.prog 87 Xi2 [(false, [.bool])] (fun _ => True) Xk5 :=
 ok_cn fun W xs x hp Q h => by
  unfold Xor;exact ⟨trivial, h⟩
def pc_cn : PC Try.prog := ⟨87, Xi2, [(false, [.bool])], fun _ => True, Xk5, okcn⟩
def Xjs [InW] (e : List Ed) (K : Nat -> List Ed -> Prop) : Prop := match e with
 | [.i a, .ro _ d, .i n, .i i] => Pre (n = d.xs.length /\ 0 <= i /\ i <= d.xs.length /\ Sp.Low d.xs /\ -1000 * i <= a /\ a <= 1000 * i) (K 0 [.i (Sp.sumF (Sp.num d.xs) i.toNat (d.xs.length - i.toNat) a)])
 | _ => False
def Xkq : LC where
 len := 16
 T := [(2, .int .i64), (5, .rs Jc), (6, .int .i64), (7, .int .i64)]
 H := []
 W := ([4] ++ rg 8 7)
 outs := [⟨.exit 0, [(2, .int .i64)], [], (rg 4 11)⟩]
 spec := Xjs
def Xi9 [W : InW] (a : Int) (d : Ro Jc) (n i : Int) (A : List Ed -> Prop) (K : Nat -> List Ed -> Prop) : Prop :=
 Vif (decide (i < n)) (Need (decide (0 <= i) && decide (i < (↑(d.xs.length) : Int))) (Need (decide (i.toNat < d.xs.length)) (Ar .i64 (a + (cel d.xs i.toNat (0 : Nat)).int) fun z => Ar .i64 (i + 1) fun z_1 => A [.i z, .ro _ d, .i n, .i z_1]))) (K 0 [.i a])
theorem Xot (W : InW) (a d n i A K) : Yfc { cxT Try.prog TT T0 1000 50 with fn := 63 } 1000 (Yn7 Try.prog 63 3) (Yd6 16 [(2, .si .i64 a), (5, .rs _ d), (6, .si .i64 n), (7, .si .i64 i)] ([4] ++ rg 8 7)) [] (Yuf Xkq A K) = Xi9 a d n i A K := by kernel_rfl
def Xij : Prop := ∀ (W : InW) (body a : Code), (Try.prog.funcs[63]?).bind (·.body) = some body -> a ∈ Yy body -> Yfw a = 3 -> @Ymq W Try.prog a (@Ytn W Xkq)
theorem Xpf (meas : [InW] -> List Ed -> Nat) (hyp_ : ∀ (W : InW) a d n i K, Xjs [.i a, .ro _ d, .i n, .i i] K -> ∀ A : List Ed -> Prop, (∀ e, meas e < meas [.i a, .ro _ d, .i n, .i i] -> Xjs e K -> A e) -> Xi9 a d n i A K) : Xij :=
 LE.okOf' (fun W => @TT W) (fun W => @Xe W) Xa T0 1000 50 (by kernel_rfl) Xkq (fun W => @meas W) fun W a d n i K hs =>
  (Xot W a d n i (fun e => meas e < meas [.i a, .ro _ d, .i n, .i i] /\ Xjs e K) K).mpr (hyp_ W a d n i K hs _ fun e h1 h2 => ⟨h1, h2⟩)
theorem okLsu : Xij := Xpf (fun e => match e with | [_, _, .i n, .i i] => (n - i).toNat | _ => 0) fun W a d n i K hs A hA => by
 obtain ⟨⟨rfl, h0, h1, hl, h2, h3⟩, hk⟩ := hs;unfold Xi9;have hm := d.len;have hl1 := hl.1;simp only [maxLen] at hm;have ez : (i + 1).toNat = i.toNat + 1 := by omega
 by_cases hi : i < d.xs.length
 ·rw [show d.xs.length - i.toNat = (d.xs.length - (i.toNat + 1)) + 1 by omega] at hk;simp only [Sp.sumF] at hk;have hv := hl.2 i.toNat (by omega);have hA' := hA [.i (a + Sp.num d.xs i.toNat), .ro _ d, .i d.xs.length, .i (i + 1)] (show ((d.xs.length : Int) - (i + 1)).toNat < ((d.xs.length : Int) - i).toNat by omega) ⟨⟨rfl, by omega, by omega, hl, by omega, by omega⟩, by rw [ez]; exact hk⟩;clear hA hk;simp only [show ∀ k, (cel d.xs k 0).int = Sp.num d.xs k from fun _ => rfl]
  repeat' (first | omega|intro _|with_reducible first|apply vifd|apply vifn|apply vifq|apply Xd|apply Xc|apply vifb|apply vif|apply nedd|apply ned2|apply ned|apply ar64|apply Xb|exact True.intro|assumption|rfl|apply And.intro)
  all_goals first | contradiction | exact hA' | skip
 ·rw [show d.xs.length - i.toNat = 0 by omega] at hk;simp only [Sp.sumF] at hk;clear hA
  repeat' (first | omega|intro _|with_reducible first|apply vifd|apply vifn|apply vifq|apply Xd|apply Xc|apply vifb|apply vif|apply nedd|apply ned2|apply ned|apply ar64|apply Xb|exact True.intro|assumption|rfl|apply And.intro)
  all_goals exact hk
def le_su : LE Try.prog := ⟨63, 3, fun W => @Ytn W Xkq, okLsu⟩
def T42 : Tab Try.prog := ⟨[], [le_su], []⟩
def Xop [W : InW] (d : Ro Jc) (Q : DS -> Prop) : Prop :=
 Pre ((↑(d.xs.length) : Int) = (↑(d.xs.length) : Int) /\ (0 : Int) <= 0 /\ (0 : Int) <= (↑(d.xs.length) : Int) /\ Sp.Low d.xs /\ (-1000 : Int) * 0 <= 0 /\ (0 : Int) <= 1000 * 0) (Q [[Cl.i (Sp.sumF (Sp.num d.xs) (Int.toNat (0 : Int)) (d.xs.length - Int.toNat (0 : Int)) (0 : Int))]])
theorem vc_su (W : InW) (d Q) : Ywt (cxT Try.prog TT T42 1000 50) 1000 63 [.rs _ d] [] 0 (Y02 [(false, [.int .i64])] Q) (fun _ _ _ _ => Stuck 421) = Xop d Q := by kernel_rfl
abbrev Xiz : List AT := [.one (.sl Jc)]
theorem ok_su {pre : DS -> Prop} {res : DS -> DS} (hyp_ : ∀ (W : InW) (d : Ro Jc), pre [[.l d.xs]] -> ∀ Q : DS -> Prop, Q (res [[.l d.xs]]) -> Xop d Q) : PureOk Try.prog 63 Xiz [(false, [.int .i64])] pre res :=
 PureOk.of' (fun W => @TT W) (fun W => @Xe W) Xa T42 1000 50 fun W d hp =>
  (vc_su W d (fun o => o = res [[.l d.xs]])).mpr (hyp_ W d hp _ rfl)
theorem oksu : PureOk Try.prog 63 Xiz [(false, [.int .i64])] Xh6 Xh3 :=
 ok_su fun W d hp Q h => by
  have hp : Sp.Low d.xs := hp;unfold Xop;simp only [show Int.toNat 0 = 0 from rfl, Nat.sub_zero];exact ⟨⟨trivial, by omega, by omega, hp, by omega, by omega⟩, h⟩
def Xo3 : PC Try.prog := ⟨63, Xiz, [(false, [.int .i64])], Xh6, Xh3, oksu⟩
def Xds [W : InW] (a b : Bool) (Q : DS -> Prop) : Prop :=
 Vif b (Q [[Cl.i 1]]) (Vif a (Q [[Cl.i 2]]) (Q [[Cl.i 0]]))
theorem Xml (W : InW) (a b Q) : Ywt (cxT Try.prog TT T0 1000 50) 1000 59 [.sb a, .sb b] [] 0 (Y02 [(false, [.int .i64])] Q) (fun _ _ _ _ => Stuck 421) = Xds a b Q := by kernel_rfl
abbrev Xcd : List AT := [.one (.bool), .one (.bool)]
theorem Xoc {pre : DS -> Prop} {res : DS -> DS} (hyp_ : ∀ (W : InW) (a b : Bool), pre [[.b a], [.b b]] -> ∀ Q : DS -> Prop, Q (res [[.b a], [.b b]]) -> Xds a b Q) : PureOk Try.prog 59 Xcd [(false, [.int .i64])] pre res :=
 PureOk.of' (fun W => @TT W) (fun W => @Xe W) Xa T0 1000 50 fun W a b hp =>
  (Xml W a b (fun o => o = res [[.b a], [.b b]])).mpr (hyp_ W a b hp _ rfl)
namespace Sp
def ocB (a b : Bool) : Int := if b = true then 1 else if a = true then 2 else 0
end Sp
abbrev Xfv (ds : DS) : DS := match ds with | [[.b a], [.b b]] => [[.i (Sp.ocB a b)]] | _ => []
theorem Xpe : PureOk Try.prog 59 Xcd [(false, [.int .i64])] (fun _ => True) Xfv :=
 Xoc fun W a b hp Q h => by
  unfold Xds;cases a <;> cases b <;> (repeat' (first | omega|intro _|with_reducible first|apply vifd|apply vifn|apply vifq|apply Xd|apply Xc|apply vifb|apply vif|apply nedd|apply ned2|apply ned|apply ar64|apply Xb|exact True.intro|assumption|rfl|apply And.intro)) <;> first | exact h | contradiction | skip
def Xic : PC Try.prog := ⟨59, Xcd, [(false, [.int .i64])], fun _ => True, Xfv, Xpe⟩
namespace Sp
def bitV (b : Int) (i : Int) : Int := andI .i64 (b.fdiv (2 ^ min i.toNat 64)) 1
def ansW (u : Dt) (q b : Int) : Nat -> Nat -> Dt -> Dt
 | _, 0, l => l
 | i, n + 1, l => ansW u q b (i + 1) n (if cA u i = q then l.set (cB u i).toNat [.i (bitV b i)] else l)
structure UqOk (u : Dt) (q : Int) (l : Nat) : Prop where
 few : u.length <= 64
 low : l <= 1000
 in_ : ∀ i, i < u.length -> cA u i = q -> 0 <= cB u i /\ cB u i < l
end Sp
def Xjw [InW] (e : List Ed) (K : Nat -> List Ed -> Prop) : Prop := match e with
 | [.i q, .i b, .i n, .i i, .ro _ qs, .ro _ ps, .i all, .ro _ sh, .l u, .l l] => Pre (n = u.length /\ 0 <= i /\ i <= u.length /\ 0 <= b /\ Sp.UqOk u q l.length) (K 0 [.i q, .i b, .ro _ qs, .ro _ ps, .i all, .ro _ sh, .l u, .l (Sp.ansW u q b i.toNat (u.length - i.toNat) l)])
 | _ => False
def Xku : LC where
 len := 64
 T := [(0, (.ptr 1 0)), (1, .int .i64), (2, .int .i64), (7, (.row 3)), (32, (.row 4)), (33, .int .i64), (34, .int .i64)]
 H := [(1, .blk 89 [.rs Iv5, .rs Jc, .int .i64, .rs Jb, (.row 4)]), (4, .arr 44 Ja), (3, .arr 3 Jc)]
 W := ([8, 9] ++ rg 35 17)
 outs := [⟨.exit 0, [(0, (.ptr 1 0)), (1, .int .i64), (2, .int .i64), (7, (.row 6))], [(1, .blk 89 [.rs Iv5, .rs Jc, .int .i64, .rs Jb, (.row 4)]), (4, .arr 44 Ja), (6, .arr 3 Jc)], ([8, 9] ++ rg 32 20)⟩]
 spec := Xjw
def Xjd [W : InW] (q b n i : Int) (qs : Ro Iv5) (ps : Ro Jc) (all : Int) (sh : Ro Jb) (u l : Dt) (A : List Ed -> Prop) (K : Nat -> List Ed -> Prop) : Prop :=
 Vif (decide (i < n)) (Need (decide (0 <= i) && decide (i < (↑(u.length) : Int))) (Need (decide (i.toNat < u.length)) (Vif (decide ((cel u i.toNat (0 : Nat)).int = q)) (Need (decide (0 <= i)) (Need (decide ((0 : Int) <= (cel u i.toNat (0+1)).int) && decide ((cel u i.toNat (0+1)).int < (↑(l.length) : Int))) (Need (decide ((cel u i.toNat (0+1)).int.toNat < l.length)) (Ar .i64 (i + 1) fun z => A [.i q, .i b, .i n, .i z, .ro _ qs, .ro _ ps, .i all, .ro [Ty.sl [Ty.int IntKind.i64]] sh, .l u, .l (List.set l (cel u i.toNat (0+1)).int.toNat [Cl.i (andI IntKind.i64 (b.fdiv ((2 : Int) ^ min i.toNat (64 : Nat))) (1 : Int))])])))) (Ar .i64 (i + 1) fun z => A [.i q, .i b, .i n, .i z, .ro _ qs, .ro _ ps, .i all, .ro [Ty.sl [Ty.int IntKind.i64]] sh, .l u, .l l])))) (K 0 [.i q, .i b, .ro _ qs, .ro _ ps, .i all, .ro [Ty.sl [Ty.int IntKind.i64]] sh, .l u, .l l])
theorem Xox (W : InW) (q b n i qs ps all sh u l A K) : Yfc { cxT Try.prog TT T0 1000 50 with fn := 78 } 1000 (Yn7 Try.prog 78 5) (Yd6 64 [(0, .ptr 1 0), (1, .si .i64 q), (2, .si .i64 b), (7, .rw 3), (32, .rw 4), (33, .si .i64 n), (34, .si .i64 i)] ([8, 9] ++ rg 35 17)) [(1, .blk 89 [.rs _ qs, .rs _ ps, .si .i64 all, .rs _ sh, .rw 4]), (4, .arr 44 Ja u), (3, .arr 3 Jc l)] (Yuf Xku A K) = Xjd q b n i qs ps all sh u l A K := by kernel_rfl
def Xin : Prop := ∀ (W : InW) (body a : Code), (Try.prog.funcs[78]?).bind (·.body) = some body -> a ∈ Yy body -> Yfw a = 5 -> @Ymq W Try.prog a (@Ytn W Xku)
theorem Xpj (meas : [InW] -> List Ed -> Nat) (hyp_ : ∀ (W : InW) q b n i qs ps all sh u l K, Xjw [.i q, .i b, .i n, .i i, .ro _ qs, .ro _ ps, .i all, .ro _ sh, .l u, .l l] K -> ∀ A : List Ed -> Prop, (∀ e, meas e < meas [.i q, .i b, .i n, .i i, .ro _ qs, .ro _ ps, .i all, .ro _ sh, .l u, .l l] -> Xjw e K -> A e) -> Xjd q b n i qs ps all sh u l A K) : Xin :=
 LE.okOf' (fun W => @TT W) (fun W => @Xe W) Xa T0 1000 50 (by kernel_rfl) Xku (fun W => @meas W) fun W q b n i qs ps all sh u l K hs =>
  (Xox W q b n i qs ps all sh u l (fun e => meas e < meas [.i q, .i b, .i n, .i i, .ro _ qs, .ro _ ps, .i all, .ro _ sh, .l u, .l l] /\ Xjw e K) K).mpr (hyp_ W q b n i qs ps all sh u l K hs _ fun e h1 h2 => ⟨h1, h2⟩)
theorem okLan : Xin := Xpj (fun e => match e with | [_, _, .i n, .i i, _, _, _, _, _, _] => (n - i).toNat | _ => 0) fun W q b n i qs ps all sh u l K hs A hA => by
 obtain ⟨⟨rfl, h0, h1, hb, hu⟩, hk⟩ := hs;have h64 := hu.few;unfold Xjd;simp only [Nat.zero_add, show ∀ k, (cel u k 0).int = Sp.cA u k from fun _ => rfl, show ∀ k, (cel u k 1).int = Sp.cB u k from fun _ => rfl];have ez : (i + 1).toNat = i.toNat + 1 := by omega
 by_cases hi : i < u.length
 ·rw [show u.length - i.toNat = (u.length - (i.toNat + 1)) + 1 by omega] at hk;simp only [Sp.ansW, Sp.bitV, Int.toNat_natCast] at hk
  by_cases c : Sp.cA u i.toNat = q
  ·have h3 := hu.in_ i.toNat (by omega) c;rw [if_pos c] at hk;have hA' := hA [.i q, .i b, .i u.length, .i (i + 1), .ro _ qs, .ro _ ps, .i all, .ro _ sh, .l u, .l (l.set (Sp.cB u i.toNat).toNat [.i (andI .i64 (b.fdiv (2 ^ min i.toNat 64)) 1)])] (show ((u.length : Int) - (i + 1)).toNat < ((u.length : Int) - i).toNat by omega) ⟨⟨rfl, by omega, by omega, hb, ⟨hu.few, by rw [List.length_set]; exact hu.low, fun k hk he => by rw [List.length_set]; exact hu.in_ k hk he⟩⟩, by rw [ez]; exact hk⟩;clear hA hk
   repeat' (first | omega|intro _|with_reducible first|apply vifd|apply vifn|apply vifq|apply Xd|apply Xc|apply vifb|apply vif|apply nedd|apply ned2|apply ned|apply ar64|apply Xb|exact True.intro|assumption|rfl|apply And.intro)
   all_goals first | contradiction | exact hA' | skip
  ·rw [if_neg c] at hk;have hA' := hA [.i q, .i b, .i u.length, .i (i + 1), .ro _ qs, .ro _ ps, .i all, .ro _ sh, .l u, .l l] (show ((u.length : Int) - (i + 1)).toNat < ((u.length : Int) - i).toNat by omega) ⟨⟨rfl, by omega, by omega, hb, hu⟩, by rw [ez]; exact hk⟩;clear hA hk
   repeat' (first | omega|intro _|with_reducible first|apply vifd|apply vifn|apply vifq|apply Xd|apply Xc|apply vifb|apply vif|apply nedd|apply ned2|apply ned|apply ar64|apply Xb|exact True.intro|assumption|rfl|apply And.intro)
   all_goals first | contradiction | exact hA' | skip
 ·rw [show u.length - i.toNat = 0 by omega] at hk;simp only [Sp.ansW] at hk;clear hA
  repeat' (first | omega|intro _|with_reducible first|apply vifd|apply vifn|apply vifq|apply Xd|apply Xc|apply vifb|apply vif|apply nedd|apply ned2|apply ned|apply ar64|apply Xb|exact True.intro|assumption|rfl|apply And.intro)
  all_goals exact hk
def le_an : LE Try.prog := ⟨78, 5, fun W => @Ytn W Xku, okLan⟩
namespace Sp
def ansX (l : Dt) : Int := if 0 <= idxOf l 1 /\ 0 <= idxOf (l.drop (idxOf l 1 + 1).toNat) 1 then -1 else idxOf l 1
def rowW (sh u : Dt) (q b : Int) : Dt := ansW u q b 0 u.length (row sh q.toNat)
end Sp
def T43 : Tab Try.prog := ⟨[Xo6, pc_cn], [le_an], []⟩
def Xk4 [InW] (e : List Ed) (K : Nat -> List Ed -> Prop) : Prop := match e with
 | [.i q, .i b, .ro _ qs, .ro _ ps, .i all, .ro _ sh, .l u] => Pre (0 <= q /\ q < sh.xs.length /\ 0 <= b /\ Sp.UqOk u q (Sp.row sh.xs q.toNat).length) (K 0 [.i (Sp.ansX (Sp.rowW sh.xs u q b)), .ro _ qs, .ro _ ps, .i all, .ro _ sh, .l u])
 | _ => False
def Xq : CC where
 g := 78
 args := [(.ptr 1 0), .int .i64, .int .i64]
 H := [(1, .blk 89 [.rs Iv5, .rs Jc, .int .i64, .rs Jb, (.row 4)]), (4, .arr 44 Ja)]
 outs := [⟨false, .int .i64, [(1, .blk 89 [.rs Iv5, .rs Jc, .int .i64, .rs Jb, (.row 4)]), (4, .arr 44 Ja)], false⟩]
 spec := Xk4
def Zdv [W : InW] (q : Int) (sh : Ro Jb) := List.length (cel sh.xs q.toNat (0 : Nat)).lst
def Zdw [W : InW] (q : Int) (sh : Ro Jb) := List.replicate (↑(Zdv q sh) : Int).toNat (Ybr [Ty.int IntKind.i64])
def Zdu [W : InW] (q : Int) (sh : Ro Jb) := List.take (min (Zdv q sh) (Zdw q sh).length) (cel sh.xs q.toNat (0 : Nat)).lst ++ List.drop (min (Zdv q sh) (Zdw q sh).length) (Zdw q sh)
def Zdt [W : InW] (q b : Int) (sh : Ro Jb) (u : Dt) := Sp.ansW u q b (Int.toNat Zb) (u.length - Int.toNat Zb) (Zdu q sh)
def Xev [W : InW] (q b : Int) (qs : Ro Iv5) (ps : Ro Jc) (all : Int) (sh : Ro Jb) (u : Dt) (K : Nat -> List Ed -> Prop) : Prop :=
 Need (decide (0 <= q) && decide (q < (↑(sh.xs.length) : Int))) (Need (decide (q.toNat < sh.xs.length)) (Need (decide ((↑(Zdv q sh) : Int) = (↑(Zdv q sh) : Int)) && decide (Zb <= (↑(Zdv q sh) : Int)) && decide ((8 : Nat) * (↑(Zdv q sh) : Int).toNat <= 281474976710656)) (Need (decide (0 <= q) && decide (q < (↑(sh.xs.length) : Int))) (Need (decide (q.toNat < sh.xs.length)) (Pre ((↑(u.length) : Int) = (↑(u.length) : Int) /\ Zb <= 0 /\ Zb <= (↑(u.length) : Int) /\ 0 <= b /\ Sp.UqOk u q (Zdu q sh).length) (Pre True (Vif (decide (Zb <= Sp.idxOf (Zdt q b sh u) (1 : Int))) (Ar .i64 (Sp.idxOf (Zdt q b sh u) (1 : Int) + 1) fun z => Need (decide (0 <= z)) (Need (decide (z.toNat <= List.length (Zdt q b sh u)) && decide (List.length (Zdt q b sh u) <= List.length (Zdt q b sh u))) (Need (decide (z.toNat + (List.length (Zdt q b sh u) - z.toNat) <= List.length (Zdt q b sh u))) (Pre True (Vif (decide (Zb <= Sp.idxOf (List.take (List.length (Zdt q b sh u) - z.toNat) (List.drop z.toNat (Zdt q b sh u))) (1 : Int))) (K 0 [.i (-1 : Int), .ro _ qs, .ro _ ps, .i all, .ro [Ty.sl [Ty.int IntKind.i64]] sh, .l u]) (K 0 [.i (Sp.idxOf (Zdt q b sh u) (1 : Int)), .ro _ qs, .ro _ ps, .i all, .ro [Ty.sl [Ty.int IntKind.i64]] sh, .l u])))))) (K 0 [.i (Sp.idxOf (Zdt q b sh u) (1 : Int)), .ro _ qs, .ro _ ps, .i all, .ro [Ty.sl [Ty.int IntKind.i64]] sh, .l u]))))))))
theorem Xmc (W : InW) (q b qs ps all sh u K) : Ywq (cxT Try.prog TT T43 1000 50) 1000 78 [.ptr 1 0, .si .i64 q, .si .i64 b] [(1, .blk 89 [.rs _ qs, .rs _ ps, .si .i64 all, .rs _ sh, .rw 4]), (4, .arr 44 Ja u)] (fun v h => outC Xq.H [.ro _ qs, .ro _ ps, .i all, .ro _ sh, .l u] Xq.outs 0 false v h K) (fun v h => outC Xq.H [.ro _ qs, .ro _ ps, .i all, .ro _ sh, .l u] Xq.outs 0 true v h K) = Xev q b qs ps all sh u K := by kernel_rfl
theorem Xn2 (hyp_ : ∀ (W : InW) q b qs ps all sh u K, Xk4 [.i q, .i b, .ro _ qs, .ro _ ps, .i all, .ro _ sh, .l u] K -> Xev q b qs ps all sh u K) : ∀ W : InW, @CallC W Try.prog Xq :=
 CC.okOf (fun W => @TT W) (fun W => @Xe W) Xa T43 1000 50 Xq fun W q b qs ps all sh u K hs => (Xmc W q b qs ps all sh u K).mpr (hyp_ W q b qs ps all sh u K hs)
theorem Xhr (u : Dt) (q b : Int) : ∀ n i l, (Sp.ansW u q b i n l).length = l.length
 | 0, _, _ => rfl
 | n + 1, i, l => by
  simp only [Sp.ansW];rw [Xhr u q b n (i + 1)]
  split <;> simp
theorem Xhp (xs : Dt) (x : Int) : -1 <= Sp.idxOf xs x /\ Sp.idxOf xs x < xs.length := by
 unfold Sp.idxOf
 split
 ·rename_i h;have := Sp.fstF_spec h;omega
 ·omega
theorem Xiq : ∀ W : InW, @CallC W Try.prog Xq := Xn2 fun W q b qs ps all sh u K hs => by
 obtain ⟨⟨h0, h1, h2, h3⟩, hk⟩ := hs;unfold Xev;delta Zdt Zdu Zdw Zdv Zb;have hlow := h3.low;simp only [show Int.toNat 0 = 0 from rfl, Nat.sub_zero, Int.toNat_natCast, List.length_replicate, Nat.min_self, List.take_length, List.drop_replicate, Nat.sub_self, List.replicate_zero, List.append_nil, show (cel sh.xs q.toNat 0).lst = Sp.row sh.xs q.toNat from rfl, show Sp.ansW u q b 0 u.length (Sp.row sh.xs q.toNat) = Sp.rowW sh.xs u q b from rfl];have hl : (Sp.rowW sh.xs u q b).length = (Sp.row sh.xs q.toNat).length := Xhr _ _ _ _ _ _;have hz : ∀ z : Nat, List.take ((Sp.rowW sh.xs u q b).length - z) (List.drop z (Sp.rowW sh.xs u q b)) = List.drop z (Sp.rowW sh.xs u q b) := fun z => List.take_of_length_le (by simp);simp only [hz];clear hz;unfold Sp.ansX at hk;generalize Sp.rowW sh.xs u q b = l at *;have hi := Xhp l 1
 by_cases c : 0 <= Sp.idxOf l 1
 ·by_cases c2 : 0 <= Sp.idxOf (l.drop (Sp.idxOf l 1 + 1).toNat) 1
  ·rw [if_pos ⟨c, c2⟩] at hk
   repeat' (first | (with_reducible refine Xb ⟨rfl, by omega, by omega, h2, h3⟩ ?_) | (with_reducible refine Xb trivial ?_) | (with_reducible refine ned ?_ ?_; simp; omega) | omega|intro _|with_reducible first|apply vifd|apply vifn|apply vifq|apply Xd|apply Xc|apply vifb|apply vif|apply nedd|apply ned2|apply ned|apply ar64|apply Xb|exact True.intro|assumption|rfl|apply And.intro)
   all_goals first | contradiction | exact hk | skip
  ·rw [if_neg (fun x => c2 x.2)] at hk
   repeat' (first | (with_reducible refine Xb ⟨rfl, by omega, by omega, h2, h3⟩ ?_) | (with_reducible refine Xb trivial ?_) | (with_reducible refine ned ?_ ?_; simp; omega) | omega|intro _|with_reducible first|apply vifd|apply vifn|apply vifq|apply Xd|apply Xc|apply vifb|apply vif|apply nedd|apply ned2|apply ned|apply ar64|apply Xb|exact True.intro|assumption|rfl|apply And.intro)
   all_goals first | contradiction | exact hk | skip
 ·rw [if_neg (fun x => c x.1)] at hk
  repeat' (first | (with_reducible refine Xb ⟨rfl, by omega, by omega, h2, h3⟩ ?_) | (with_reducible refine Xb trivial ?_) | (with_reducible refine ned ?_ ?_; simp; omega) | omega|intro _|with_reducible first|apply vifd|apply vifn|apply vifq|apply Xd|apply Xc|apply vifb|apply vif|apply nedd|apply ned2|apply ned|apply ar64|apply Xb|exact True.intro|assumption|rfl|apply And.intro)
  all_goals first | contradiction | exact hk | skip
namespace Sp
def anW (sh u : Dt) (b : Int) (i : Nat) : Int := ansX (rowW sh u i b)
def stW (qs sh u : Dt) (b : Int) (i : Nat) (l : Dt) : Dt :=
 if anW sh u b i = qRight qs i then l.set (qPart qs i).toNat [.i (num l (qPart qs i).toNat + qPts qs i)] else if anW sh u b i = -1 then l else l.set (qPart qs i).toNat [.i (num l (qPart qs i).toNat - qMin qs i)]
def addW (qs sh u : Dt) (b : Int) : Nat -> Nat -> Dt -> Dt
 | _, 0, l => l
 | i, n + 1, l => addW qs sh u b (i + 1) n (stW qs sh u b i l)
def mkW (qs ps sh u : Dt) (b : Int) : Dt := addW qs sh u b 0 qs.length (List.replicate ps.length [.i 0])
structure SeOk (qs sh u : Dt) : Prop where
 n : sh.length = qs.length
 few : u.length <= 64
 uq : ∀ q, q < sh.length -> UqOk u q (row sh q).length
theorem stW_len (qs sh u : Dt) (b : Int) (i : Nat) (l : Dt) : (stW qs sh u b i l).length = l.length := by
 unfold stW; split
 ·simp
 ·split <;> simp
theorem addW_len (qs sh u : Dt) (b : Int) : ∀ n i l, (addW qs sh u b i n l).length = l.length
 | 0, _, _ => rfl
 | n + 1, i, l => by simp only [addW, addW_len qs sh u b n, stW_len]
theorem stW_in {qs sh u l : Dt} {b m : Int} {i : Nat} (hp : 0 <= qPart qs i /\ qPart qs i < l.length) (h1 : 0 <= qPts qs i /\ qPts qs i <= 20) (h2 : 0 <= qMin qs i /\ qMin qs i <= 20) (h : ∀ p, p < l.length -> -m <= num l p /\ num l p <= m) : ∀ p, p < (stW qs sh u b i l).length -> -(m + 20) <= num (stW qs sh u b i l) p /\ num (stW qs sh u b i l) p <= m + 20 := fun p hpl => by
 rw [stW_len] at hpl;have a := h p hpl;have c := h (qPart qs i).toNat (by omega);unfold stW
 split
 ·rw [num_set (by omega)]; split <;> omega
 ·split
  ·omega
  ·rw [num_set (by omega)]; split <;> omega
theorem addW_in {qs sh u : Dt} {b : Int} {np : Nat} (hp : ∀ i, i < qs.length -> 0 <= qPart qs i /\ qPart qs i < np) (h1 : ∀ i, i < qs.length -> 0 <= qPts qs i /\ qPts qs i <= 20) (h2 : ∀ i, i < qs.length -> 0 <= qMin qs i /\ qMin qs i <= 20) : ∀ n i l (m : Int), i + n <= qs.length -> l.length = np -> (∀ p, p < l.length -> -m <= num l p /\ num l p <= m) -> ∀ p, p < np -> -(m + 20 * n) <= num (addW qs sh u b i n l) p /\ num (addW qs sh u b i n l) p <= m + 20 * n
 | 0, i, l, m, hi, hl, h, p, hpn => by
  have := h p (by omega);simp only [addW];omega
 | n + 1, i, l, m, hi, hl, h, p, hpn => by
  have := addW_in (sh := sh) (u := u) (b := b) hp h1 h2 n (i + 1) (stW qs sh u b i l) (m + 20) (by omega) (by rw [stW_len]; exact hl) (stW_in (by rw [hl]; exact hp i (by omega)) (h1 i (by omega)) (h2 i (by omega)) h) p hpn;simp only [addW];omega
end Sp
def Xjt [InW] (e : List Ed) (K : Nat -> List Ed -> Prop) : Prop := match e with
 | [.i b, .ro _ qs', .i n, .i i, .ro _ qs, .ro _ ps, .i all, .ro _ sh, .l u, .l l] => Pre (qs'.xs = qs.xs /\ n = qs.xs.length /\ 0 <= i /\ i <= qs.xs.length /\ 0 <= b /\ Sp.KeyOk qs.xs ps.xs all /\ Sp.SeOk qs.xs sh.xs u /\ l.length = ps.xs.length /\ ∀ p, p < l.length -> -(20 * i) <= Sp.num l p /\ Sp.num l p <= 20 * i) (K 0 [.i b, .ro _ qs, .ro _ ps, .i all, .ro _ sh, .l u, .l (Sp.addW qs.xs sh.xs u b i.toNat (qs.xs.length - i.toNat) l)])
 | _ => False
def T44 : Tab Try.prog := ⟨[], [], [ceOf Xq Xiq]⟩
def Xkr : LC where
 len := 56
 T := [(0, (.ptr 1 0)), (1, .int .i64), (5, (.row 3)), (19, .rs Iv5), (20, .int .i64), (21, .int .i64)]
 H := [(1, .blk 89 [.rs Iv5, .rs Jc, .int .i64, .rs Jb, (.row 4)]), (4, .arr 44 Ja), (3, .arr 3 Jc)]
 W := ([6, 7] ++ rg 22 33)
 outs := [⟨.exit 0, [(0, (.ptr 1 0)), (1, .int .i64), (5, (.row 6))], [(1, .blk 89 [.rs Iv5, .rs Jc, .int .i64, .rs Jb, (.row 4)]), (4, .arr 44 Ja), (6, .arr 3 Jc)], ([6, 7] ++ rg 19 36)⟩]
 spec := Xjt
def Zdx [W : InW] (qz : Ro Iv5) (i : Int) (l : Dt) := decide ((0 : Int) <= (cel qz.xs i.toNat Zd).int) && decide ((cel qz.xs i.toNat Zd).int < (↑(l.length) : Int))
def Zdy [W : InW] (qz : Ro Iv5) (i : Int) (l : Dt) := decide ((cel qz.xs i.toNat Zd).int.toNat < l.length)
def Zdz := [Ty.sl [Ty.int IntKind.i64]]
def Xja [W : InW] (b : Int) (qz : Ro Iv5) (n i : Int) (qs : Ro Iv5) (ps : Ro Jc) (all : Int) (sh : Ro Jb) (u l : Dt) (A : List Ed -> Prop) (K : Nat -> List Ed -> Prop) : Prop :=
 Vif (decide (i < n)) (Need (decide (0 <= i) && decide (i < (↑(qz.xs.length) : Int))) (Need (decide (i.toNat < qz.xs.length)) (Pre (0 <= i /\ i < (↑(sh.xs.length) : Int) /\ 0 <= b /\ Sp.UqOk u i (List.length (Sp.row sh.xs i.toNat))) (Vif (decide (Sp.ansX (Sp.rowW sh.xs u i b) = (cel qz.xs i.toNat (Zd + 1 + 1)).int)) (Need (Zdx qz i l) (Need (Zdy qz i l) (Ar .i64 ((cel l (cel qz.xs i.toNat Zd).int.toNat Zd).int + (cel qz.xs i.toNat (Zd + 1 + 1 + 1)).int) fun z => Need (Zdx qz i l) (Need (Zdy qz i l) (Ar .i64 (i + 1) fun z_1 => A [.i b, .ro _ qz, .i n, .i z_1, .ro _ qs, .ro _ ps, .i all, .ro Zdz sh, .l u, .l (List.set l (cel qz.xs i.toNat Zd).int.toNat [Cl.i z])]))))) (Vif (decide (Sp.ansX (Sp.rowW sh.xs u i b) = (-1 : Int))) (Ar .i64 (i + 1) fun z => A [.i b, .ro _ qz, .i n, .i z, .ro _ qs, .ro _ ps, .i all, .ro Zdz sh, .l u, .l l]) (Need (Zdx qz i l) (Need (Zdy qz i l) (Ar .i64 ((cel l (cel qz.xs i.toNat Zd).int.toNat Zd).int - (cel qz.xs i.toNat (Zd + 1 + 1 + 1 + 1)).int) fun z => Need (Zdx qz i l) (Need (Zdy qz i l) (Ar .i64 (i + 1) fun z_1 => A [.i b, .ro _ qz, .i n, .i z_1, .ro _ qs, .ro _ ps, .i all, .ro Zdz sh, .l u, .l (List.set l (cel qz.xs i.toNat Zd).int.toNat [Cl.i z])])))))))))) (K 0 [.i b, .ro _ qs, .ro _ ps, .i all, .ro Zdz sh, .l u, .l l])
theorem Xou (W : InW) (b qz n i qs ps all sh u l A K) : Yfc { cxT Try.prog TT T44 1000 50 with fn := 55 } 1000 (Yn7 Try.prog 55 4) (Yd6 56 [(0, .ptr 1 0), (1, .si .i64 b), (5, .rw 3), (19, .rs _ qz), (20, .si .i64 n), (21, .si .i64 i)] ([6, 7] ++ rg 22 33)) [(1, .blk 89 [.rs _ qs, .rs _ ps, .si .i64 all, .rs _ sh, .rw 4]), (4, .arr 44 Ja u), (3, .arr 3 Jc l)] (Yuf Xkr A K) = Xja b qz n i qs ps all sh u l A K := by kernel_rfl
def Xik : Prop := ∀ (W : InW) (body a : Code), (Try.prog.funcs[55]?).bind (·.body) = some body -> a ∈ Yy body -> Yfw a = 4 -> @Ymq W Try.prog a (@Ytn W Xkr)
theorem Xpg (meas : [InW] -> List Ed -> Nat) (hyp_ : ∀ (W : InW) b qz n i qs ps all sh u l K, Xjt [.i b, .ro _ qz, .i n, .i i, .ro _ qs, .ro _ ps, .i all, .ro _ sh, .l u, .l l] K -> ∀ A : List Ed -> Prop, (∀ e, meas e < meas [.i b, .ro _ qz, .i n, .i i, .ro _ qs, .ro _ ps, .i all, .ro _ sh, .l u, .l l] -> Xjt e K -> A e) -> Xja b qz n i qs ps all sh u l A K) : Xik :=
 LE.okOf' (fun W => @TT W) (fun W => @Xe W) Xa T44 1000 50 (by kernel_rfl) Xkr (fun W => @meas W) fun W b qz n i qs ps all sh u l K hs =>
  (Xou W b qz n i qs ps all sh u l (fun e => meas e < meas [.i b, .ro _ qz, .i n, .i i, .ro _ qs, .ro _ ps, .i all, .ro _ sh, .l u, .l l] /\ Xjt e K) K).mpr (hyp_ W b qz n i qs ps all sh u l K hs _ fun e h1 h2 => ⟨h1, h2⟩)
theorem okLpw : Xik := Xpg (fun e => match e with | [_, _, .i n, .i i, _, _, _, _, _, _] => (n - i).toNat | _ => 0) fun W b qz n i qs ps all sh u l K hs A hA => by
 obtain ⟨⟨hq, rfl, h0, h1, hb, hkey, hse, hl, hin⟩, hk⟩ := hs;unfold Xja;delta Zdy Zdx Zdz Zd;simp only [hq];have n2 := hkey.n2;have ez : (i + 1).toNat = i.toNat + 1 := by omega
 have ei : ((i.toNat : Nat) : Int) = i := Int.toNat_of_nonneg h0
 by_cases hi : i < qs.xs.length
 ·have hn := hse.n;have huq := hse.uq i.toNat (by omega);rw [ei] at huq;have hp := hkey.part i.toNat (by omega);have hpt := hkey.pts i.toNat (by omega);have hmn := hkey.minus i.toNat (by omega);have hv := hin (Sp.qPart qs.xs i.toNat).toNat (by omega);rw [show qs.xs.length - i.toNat = (qs.xs.length - (i.toNat + 1)) + 1 by omega] at hk;simp only [Sp.addW] at hk;have hA' := hA [.i b, .ro _ qz, .i qs.xs.length, .i (i + 1), .ro _ qs, .ro _ ps, .i all, .ro _ sh, .l u, .l (Sp.stW qs.xs sh.xs u b i.toNat l)] (show ((qs.xs.length : Int) - (i + 1)).toNat < ((qs.xs.length : Int) - i).toNat by omega) ⟨⟨hq, rfl, by omega, by omega, hb, hkey, hse, by rw [Sp.stW_len]; exact hl, fun p hp2 => by
   have := Sp.stW_in (qs := qs.xs) (sh := sh.xs) (u := u) (b := b) (m := 20 * i) (i := i.toNat) (by omega) hpt hmn hin p hp2;omega⟩, by rw [ez]; exact hk⟩
  clear hA hk;unfold Sp.stW Sp.anW at hA';rw [ei] at hA';simp only [Nat.zero_add, Nat.reduceAdd, show (cel qs.xs i.toNat 0).int = Sp.qPart qs.xs i.toNat from rfl, show (cel qs.xs i.toNat 2).int = Sp.qRight qs.xs i.toNat from rfl, show (cel qs.xs i.toNat 3).int = Sp.qPts qs.xs i.toNat from rfl, show (cel qs.xs i.toNat 4).int = Sp.qMin qs.xs i.toNat from rfl, show ∀ k, (cel l k 0).int = Sp.num l k from fun _ => rfl];generalize Sp.ansX (Sp.rowW sh.xs u i b) = r at *
  by_cases c : r = Sp.qRight qs.xs i.toNat
  ·rw [if_pos c] at hA'
   repeat' (first | (with_reducible refine Xb ⟨by omega, by omega, hb, huq⟩ ?_) | omega|intro _|with_reducible first|apply vifd|apply vifn|apply vifq|apply Xd|apply Xc|apply vifb|apply vif|apply nedd|apply ned2|apply ned|apply ar64|apply Xb|exact True.intro|assumption|rfl|apply And.intro)
   all_goals first | contradiction | exact hA' | skip
  ·rw [if_neg c] at hA'
   by_cases c2 : r = -1
   ·rw [if_pos c2] at hA'
    repeat' (first | (with_reducible refine Xb ⟨by omega, by omega, hb, huq⟩ ?_) | omega|intro _|with_reducible first|apply vifd|apply vifn|apply vifq|apply Xd|apply Xc|apply vifb|apply vif|apply nedd|apply ned2|apply ned|apply ar64|apply Xb|exact True.intro|assumption|rfl|apply And.intro)
    all_goals first | contradiction | exact hA' | skip
   ·rw [if_neg c2] at hA'
    repeat' (first | (with_reducible refine Xb ⟨by omega, by omega, hb, huq⟩ ?_) | omega|intro _|with_reducible first|apply vifd|apply vifn|apply vifq|apply Xd|apply Xc|apply vifb|apply vif|apply nedd|apply ned2|apply ned|apply ar64|apply Xb|exact True.intro|assumption|rfl|apply And.intro)
    all_goals first | contradiction | exact hA' | skip
 ·rw [show qs.xs.length - i.toNat = 0 by omega] at hk;simp only [Sp.addW] at hk;clear hA
  repeat' (first | omega|intro _|with_reducible first|apply vifd|apply vifn|apply vifq|apply Xd|apply Xc|apply vifb|apply vif|apply nedd|apply ned2|apply ned|apply ar64|apply Xb|exact True.intro|assumption|rfl|apply And.intro)
  all_goals exact hk
def le_pw : LE Try.prog := ⟨55, 4, fun W => @Ytn W Xkr, okLpw⟩
def T45 : Tab Try.prog := ⟨[], [le_pw], [ceOf Xq Xiq]⟩
def Xkz [InW] (e : List Ed) (K : Nat -> List Ed -> Prop) : Prop := match e with
 | [.i b, .ro _ qs, .ro _ ps, .i all, .ro _ sh, .l u] => Pre (0 <= b /\ Sp.KeyOk qs.xs ps.xs all /\ Sp.SeOk qs.xs sh.xs u) (K 0 [.ro _ qs, .ro _ ps, .i all, .ro _ sh, .l u, .l (Sp.mkW qs.xs ps.xs sh.xs u b)])
 | _ => False
def Xp : CC where
 g := 55
 args := [(.ptr 1 0), .int .i64]
 H := [(1, .blk 89 [.rs Iv5, .rs Jc, .int .i64, .rs Jb, (.row 4)]), (4, .arr 44 Ja)]
 outs := [⟨false, (.row 6), [(1, .blk 89 [.rs Iv5, .rs Jc, .int .i64, .rs Jb, (.row 4)]), (4, .arr 44 Ja), (6, .arr 3 Jc)], false⟩]
 spec := Xkz
def Zea [W : InW] (ps : Ro Jc) := List.replicate (↑(ps.xs.length) : Int).toNat (Ybr [Ty.int IntKind.i64])
def Xeq [W : InW] (b : Int) (qs : Ro Iv5) (ps : Ro Jc) (all : Int) (sh : Ro Jb) (u : Dt) (K : Nat -> List Ed -> Prop) : Prop :=
 Need (decide ((↑(ps.xs.length) : Int) = (↑(ps.xs.length) : Int)) && decide (Zb <= (↑(ps.xs.length) : Int)) && decide ((8 : Nat) * (↑(ps.xs.length) : Int).toNat <= 281474976710656)) (Pre (qs.xs = qs.xs /\ (↑(qs.xs.length) : Int) = (↑(qs.xs.length) : Int) /\ Zb <= 0 /\ Zb <= (↑(qs.xs.length) : Int) /\ 0 <= b /\ Sp.KeyOk qs.xs ps.xs all /\ Sp.SeOk qs.xs sh.xs u /\ (Zea ps).length = ps.xs.length /\ ∀ (p : Nat), p < (Zea ps).length -> -((20 : Int) * 0) <= Sp.num (Zea ps) p /\ Sp.num (Zea ps) p <= 20 * 0) (K 0 [.ro _ qs, .ro _ ps, .i all, .ro Zdz sh, .l u, .l (Sp.addW qs.xs sh.xs u b (Int.toNat Zb) (qs.xs.length - Int.toNat Zb) (Zea ps))]))
theorem Xl7 (W : InW) (b qs ps all sh u K) : Ywq (cxT Try.prog TT T45 1000 50) 1000 55 [.ptr 1 0, .si .i64 b] [(1, .blk 89 [.rs _ qs, .rs _ ps, .si .i64 all, .rs _ sh, .rw 4]), (4, .arr 44 Ja u)] (fun v h => outC Xp.H [.ro _ qs, .ro _ ps, .i all, .ro _ sh, .l u] Xp.outs 0 false v h K) (fun v h => outC Xp.H [.ro _ qs, .ro _ ps, .i all, .ro _ sh, .l u] Xp.outs 0 true v h K) = Xeq b qs ps all sh u K := by kernel_rfl
theorem Xnx (hyp_ : ∀ (W : InW) b qs ps all sh u K, Xkz [.i b, .ro _ qs, .ro _ ps, .i all, .ro _ sh, .l u] K -> Xeq b qs ps all sh u K) : ∀ W : InW, @CallC W Try.prog Xp :=
 CC.okOf (fun W => @TT W) (fun W => @Xe W) Xa T45 1000 50 Xp fun W b qs ps all sh u K hs => (Xl7 W b qs ps all sh u K).mpr (hyp_ W b qs ps all sh u K hs)
theorem Xip : ∀ W : InW, @CallC W Try.prog Xp := Xnx fun W b qs ps all sh u K hs => by
 obtain ⟨⟨hb, hkey, hse⟩, hk⟩ := hs;have p2 := hkey.p2;unfold Xeq;delta Zea Zb Zdz;simp only [show Int.toNat 0 = 0 from rfl, Nat.sub_zero, Int.toNat_natCast, show Ybr [.int .i64] = [Cl.i 0] from rfl];unfold Sp.mkW at hk;refine ned (by simp; omega) ⟨⟨trivial, trivial, by omega, by omega, hb, hkey, hse, by simp, fun p _ => by rw [Sp.num_rep]; omega⟩, ?_⟩;exact hk
def Xju [InW] (e : List Ed) (K : Nat -> List Ed -> Prop) : Prop := match e with
 | [.i n, .i i, .ro _ qs, .ro _ ps, .i all, .ro _ sh, .l u, .l l] => Pre (n = l.length /\ 0 <= i /\ i <= l.length /\ l.length = ps.xs.length /\ l.length <= 4) (Vif (Sp.partsOk l ps.xs i.toNat (l.length - i.toNat)) (K 0 [.ro _ qs, .ro _ ps, .i all, .ro _ sh, .l u, .l l]) (K 1 [.ro _ qs, .ro _ ps, .i all, .ro _ sh, .l u]))
 | _ => False
def Xks : LC where
 len := 37
 T := [(0, (.ptr 1 0)), (5, (.row 7)), (11, (.row 7)), (12, .int .i64), (13, .int .i64)]
 H := [(1, .blk 89 [.rs Iv5, .rs Jc, .int .i64, .rs Jb, (.row 4)]), (4, .arr 44 Ja), (7, .arr 3 Jc)]
 W := ([4, 6, 7] ++ rg 14 15)
 outs := [⟨.exit 0, [(0, (.ptr 1 0)), (5, (.row 7))], [(1, .blk 89 [.rs Iv5, .rs Jc, .int .i64, .rs Jb, (.row 4)]), (4, .arr 44 Ja), (7, .arr 3 Jc)], ([4, 6, 7] ++ rg 11 18)⟩, ⟨.ret, [(0, (.ptr 1 0)), (4, (.lit (.bool false)))], [(1, .blk 89 [.rs Iv5, .rs Jc, .int .i64, .rs Jb, (.row 4)]), (4, .arr 44 Ja)], ([5, 6, 7] ++ rg 11 18)⟩]
 spec := Xju
def Xjb [W : InW] (n i : Int) (qs : Ro Iv5) (ps : Ro Jc) (all : Int) (sh : Ro Jb) (u l : Dt) (A : List Ed -> Prop) (K : Nat -> List Ed -> Prop) : Prop :=
 Vif (decide (i < n)) (Need (decide (0 <= i) && decide (i < (↑(l.length) : Int))) (Need (decide (i.toNat < l.length)) (Need (decide (0 <= i) && decide (i < (↑(ps.xs.length) : Int))) (Need (decide (i.toNat < ps.xs.length)) (Vif (decide ((cel l i.toNat (0 : Nat)).int < (cel ps.xs i.toNat (0 : Nat)).int)) (K (0+1) [.ro _ qs, .ro _ ps, .i all, .ro Zdz sh, .l u]) (Ar .i64 (i + 1) fun z => A [.i n, .i z, .ro _ qs, .ro _ ps, .i all, .ro Zdz sh, .l u, .l l])))))) (K 0 [.ro _ qs, .ro _ ps, .i all, .ro Zdz sh, .l u, .l l])
theorem Xov (W : InW) (n i qs ps all sh u l A K) : Yfc { cxT Try.prog TT T0 1000 50 with fn := 56 } 1000 (Yn7 Try.prog 56 4) (Yd6 37 [(0, .ptr 1 0), (5, .rw 7), (11, .rw 7), (12, .si .i64 n), (13, .si .i64 i)] ([4, 6, 7] ++ rg 14 15)) [(1, .blk 89 [.rs _ qs, .rs _ ps, .si .i64 all, .rs _ sh, .rw 4]), (4, .arr 44 Ja u), (7, .arr 3 Jc l)] (Yuf Xks A K) = Xjb n i qs ps all sh u l A K := by kernel_rfl
def Xil : Prop := ∀ (W : InW) (body a : Code), (Try.prog.funcs[56]?).bind (·.body) = some body -> a ∈ Yy body -> Yfw a = 4 -> @Ymq W Try.prog a (@Ytn W Xks)
theorem Xph (meas : [InW] -> List Ed -> Nat) (hyp_ : ∀ (W : InW) n i qs ps all sh u l K, Xju [.i n, .i i, .ro _ qs, .ro _ ps, .i all, .ro _ sh, .l u, .l l] K -> ∀ A : List Ed -> Prop, (∀ e, meas e < meas [.i n, .i i, .ro _ qs, .ro _ ps, .i all, .ro _ sh, .l u, .l l] -> Xju e K -> A e) -> Xjb n i qs ps all sh u l A K) : Xil :=
 LE.okOf' (fun W => @TT W) (fun W => @Xe W) Xa T0 1000 50 (by kernel_rfl) Xks (fun W => @meas W) fun W n i qs ps all sh u l K hs =>
  (Xov W n i qs ps all sh u l (fun e => meas e < meas [.i n, .i i, .ro _ qs, .ro _ ps, .i all, .ro _ sh, .l u, .l l] /\ Xju e K) K).mpr (hyp_ W n i qs ps all sh u l K hs _ fun e h1 h2 => ⟨h1, h2⟩)
theorem okLpl : Xil := Xph (fun e => match e with | [.i n, .i i, _, _, _, _, _, _] => (n - i).toNat | _ => 0) fun W n i qs ps all sh u l K hs A hA => by
 obtain ⟨⟨rfl, h0, h1, hl, h4⟩, hk⟩ := hs;unfold Xjb;delta Zdz;simp only [show ∀ k, (cel l k 0).int = Sp.num l k from fun _ => rfl, show ∀ k, (cel ps.xs k 0).int = Sp.num ps.xs k from fun _ => rfl];have ez : (i + 1).toNat = i.toNat + 1 := by omega
 by_cases hi : i < l.length
 ·rw [show l.length - i.toNat = (l.length - (i.toNat + 1)) + 1 by omega] at hk;simp only [Sp.partsOk, Sp.allF] at hk
  by_cases c : Sp.num ps.xs i.toNat <= Sp.num l i.toNat
  ·rw [decide_eq_true c, Bool.true_and] at hk;have hA' := hA [.i l.length, .i (i + 1), .ro _ qs, .ro _ ps, .i all, .ro _ sh, .l u, .l l] (show ((l.length : Int) - (i + 1)).toNat < ((l.length : Int) - i).toNat by omega) ⟨⟨rfl, by omega, by omega, hl, h4⟩, by rw [ez]; exact hk⟩;clear hA hk
   repeat' (first | omega|intro _|with_reducible first|apply vifd|apply vifn|apply vifq|apply Xd|apply Xc|apply vifb|apply vif|apply nedd|apply ned2|apply ned|apply ar64|apply Xb|exact True.intro|assumption|rfl|apply And.intro)
   all_goals first | contradiction | exact hA' | skip
  ·rw [decide_eq_false c, Bool.false_and] at hk;have hk := hk.2 rfl;clear hA
   repeat' (first | omega|intro _|with_reducible first|apply vifd|apply vifn|apply vifq|apply Xd|apply Xc|apply vifb|apply vif|apply nedd|apply ned2|apply ned|apply ar64|apply Xb|exact True.intro|assumption|rfl|apply And.intro)
   all_goals first | contradiction | exact hk | skip
 ·rw [show l.length - i.toNat = 0 by omega] at hk;simp only [Sp.partsOk, Sp.allF] at hk;have hk := hk.1 rfl;clear hA
  repeat' (first | omega|intro _|with_reducible first|apply vifd|apply vifn|apply vifq|apply Xd|apply Xc|apply vifb|apply vif|apply nedd|apply ned2|apply ned|apply ar64|apply Xb|exact True.intro|assumption|rfl|apply And.intro)
  all_goals exact hk
def le_pl : LE Try.prog := ⟨56, 4, fun W => @Ytn W Xks, okLpl⟩
namespace Sp
def psW (qs ps : Dt) (all : Int) (sh u : Dt) (b : Int) : Bool := passOf all ps (mkW qs ps sh u b)
theorem mkW_len (qs ps sh u : Dt) (b : Int) : (mkW qs ps sh u b).length = ps.length := by unfold mkW; rw [addW_len, List.length_replicate]
theorem mkW_low {qs ps sh u : Dt} {all b : Int} (hk : KeyOk qs ps all) : Low (mkW qs ps sh u b) := by
 have h1 := hk.p2;have h2 := hk.n2;refine ⟨by rw [mkW_len]; omega, fun i hi => ?_⟩;rw [mkW_len] at hi;have := addW_in (sh := sh) (u := u) (b := b) hk.part hk.pts hk.minus qs.length 0 (List.replicate ps.length [.i 0]) 0 (by omega) (by simp) (fun p _ => by rw [num_rep]; omega) i hi;unfold mkW;omega
end Sp
def T46 : Tab Try.prog := ⟨[Xo3], [le_pl], [ceOf Xp Xip]⟩
def Xk0 [InW] (e : List Ed) (K : Nat -> List Ed -> Prop) : Prop := match e with
 | [.i b, .ro _ qs, .ro _ ps, .i all, .ro _ sh, .l u] => Pre (0 <= b /\ Sp.KeyOk qs.xs ps.xs all /\ Sp.SeOk qs.xs sh.xs u) (K 0 [.b (Sp.psW qs.xs ps.xs all sh.xs u b), .ro _ qs, .ro _ ps, .i all, .ro _ sh, .l u])
 | _ => False
def Xw : CC where
 g := 56
 args := [(.ptr 1 0), .int .i64]
 H := [(1, .blk 89 [.rs Iv5, .rs Jc, .int .i64, .rs Jb, (.row 4)]), (4, .arr 44 Ja)]
 outs := [⟨false, .bool, [(1, .blk 89 [.rs Iv5, .rs Jc, .int .i64, .rs Jb, (.row 4)]), (4, .arr 44 Ja)], false⟩]
 spec := Xk0
def Xer [W : InW] (b : Int) (qs : Ro Iv5) (ps : Ro Jc) (all : Int) (sh : Ro Jb) (u : Dt) (K : Nat -> List Ed -> Prop) : Prop :=
 Pre (0 <= b /\ Sp.KeyOk qs.xs ps.xs all /\ Sp.SeOk qs.xs sh.xs u) (Pre ((↑(List.length (Sp.mkW qs.xs ps.xs sh.xs u b)) : Int) = (↑(List.length (Sp.mkW qs.xs ps.xs sh.xs u b)) : Int) /\ Zb <= 0 /\ Zb <= (↑(List.length (Sp.mkW qs.xs ps.xs sh.xs u b)) : Int) /\ List.length (Sp.mkW qs.xs ps.xs sh.xs u b) = ps.xs.length /\ List.length (Sp.mkW qs.xs ps.xs sh.xs u b) <= 4) (Vif (Sp.partsOk (Sp.mkW qs.xs ps.xs sh.xs u b) ps.xs (Int.toNat Zb) (List.length (Sp.mkW qs.xs ps.xs sh.xs u b) - Int.toNat Zb)) (Pre (Sp.Low (Sp.mkW qs.xs ps.xs sh.xs u b)) (K 0 [.b (decide (all <= Sp.total (Sp.mkW qs.xs ps.xs sh.xs u b))), .ro _ qs, .ro _ ps, .i all, .ro Zdz sh, .l u])) (K 0 [.b false, .ro _ qs, .ro _ ps, .i all, .ro Zdz sh, .l u])))
theorem Xl8 (W : InW) (b qs ps all sh u K) : Ywq (cxT Try.prog TT T46 1000 50) 1000 56 [.ptr 1 0, .si .i64 b] [(1, .blk 89 [.rs _ qs, .rs _ ps, .si .i64 all, .rs _ sh, .rw 4]), (4, .arr 44 Ja u)] (fun v h => outC Xw.H [.ro _ qs, .ro _ ps, .i all, .ro _ sh, .l u] Xw.outs 0 false v h K) (fun v h => outC Xw.H [.ro _ qs, .ro _ ps, .i all, .ro _ sh, .l u] Xw.outs 0 true v h K) = Xer b qs ps all sh u K := by kernel_rfl
theorem Xny (hyp_ : ∀ (W : InW) b qs ps all sh u K, Xk0 [.i b, .ro _ qs, .ro _ ps, .i all, .ro _ sh, .l u] K -> Xer b qs ps all sh u K) : ∀ W : InW, @CallC W Try.prog Xw :=
 CC.okOf (fun W => @TT W) (fun W => @Xe W) Xa T46 1000 50 Xw fun W b qs ps all sh u K hs => (Xl8 W b qs ps all sh u K).mpr (hyp_ W b qs ps all sh u K hs)
theorem Xk8 : ∀ W : InW, @CallC W Try.prog Xw := Xny fun W b qs ps all sh u K hs => by
 obtain ⟨⟨hb, hkey, hse⟩, hk⟩ := hs;have p2 := hkey.p2;have hl := Sp.mkW_len qs.xs ps.xs sh.xs u b;unfold Xer;delta Zdz Zb;unfold Sp.psW Sp.passOf at hk;simp only [show Int.toNat 0 = 0 from rfl, Nat.sub_zero];refine ⟨⟨hb, hkey, hse⟩, ⟨⟨trivial, by omega, by omega, hl, by omega⟩, vif (fun e => ?_) fun e => ?_⟩⟩
 ·rw [e, Bool.and_true] at hk;exact ⟨Sp.mkW_low hkey, hk⟩
 ·rw [e, Bool.and_false] at hk;exact hk
def Xe5 [InW] (e : List Ed) (K : Nat -> List Ed -> Prop) : Prop := match e with
 | [.i q, .ro _ bx, .i n, .i j, .ro _ qz, .ro _ pz, .i az, .ro _ sh, .l acc] => Pre (n = bx.xs.length /\ 0 <= j /\ j <= n /\ 0 <= q /\ q <= 12 /\ n <= 4 /\ (acc.length : Int) <= 4 * q + j) (K 0 [.i q, .ro _ qz, .ro _ pz, .i az, .ro _ sh, .l (acc ++ Sp.unsRow bx.xs q j.toNat (bx.xs.length - j.toNat))])
 | _ => False
def Xg5 : LC where
 len := 71
 T := [(6, (.ptr 7 0)), (7, .int .i64), (41, .rs Jc), (42, .int .i64), (43, .int .i64)]
 H := [(7, .blk 89 [.rs Iv5, .rs Jc, .int .i64, .rs Jb, (.row 6)]), (6, .arr 44 Ja)]
 W := ([9, 10] ++ rg 44 19)
 outs := [⟨.exit 3, [(6, (.ptr 7 0)), (7, .int .i64)], [(7, .blk 89 [.rs Iv5, .rs Jc, .int .i64, .rs Jb, (.row 9)]), (9, .arr 44 Ja)], ([9, 10] ++ rg 41 22)⟩]
 spec := Xe5
def Xd4 [W : InW] (q : Int) (bx : Ro Jc) (n j : Int) (qz : Ro Iv5) (pz : Ro Jc) (az : Int) (sh : Ro Jb) (acc : Dt) (A : List Ed -> Prop) (K : Nat -> List Ed -> Prop) : Prop :=
 Vif (decide (j < n)) (Need (decide (0 <= j) && decide (j < (↑(bx.xs.length) : Int))) (Need (decide (j.toNat < bx.xs.length)) (Vif (decide ((cel bx.xs j.toNat (0 : Nat)).int = 2)) (Need (decide ((acc.length + [[Cl.i q, Cl.i j]].length) * 16 <= 140737488355328)) (Ar .i64 (j + 1) fun z => A [.i q, .ro _ bx, .i n, .i z, .ro _ qz, .ro _ pz, .i az, .ro Zdz sh, .l (acc ++ [[Cl.i q, Cl.i j]])])) (Ar .i64 (j + 1) fun z => A [.i q, .ro _ bx, .i n, .i z, .ro _ qz, .ro _ pz, .i az, .ro Zdz sh, .l acc])))) (K 0 [.i q, .ro _ qz, .ro _ pz, .i az, .ro Zdz sh, .l acc])
theorem Xll (W : InW) (q bx n j qz pz az sh acc A K) : Yfc { cxT Try.prog TT T0 1000 50 with fn := 76 } 1000 (Yn7 Try.prog 76 13) (Yd6 71 [(6, .ptr 7 0), (7, .si .i64 q), (41, .rs _ bx), (42, .si .i64 n), (43, .si .i64 j)] ([9, 10] ++ rg 44 19)) [(7, .blk 89 [.rs _ qz, .rs _ pz, .si .i64 az, .rs _ sh, .rw 6]), (6, .arr 44 Ja acc)] (Yuf Xg5 A K) = Xd4 q bx n j qz pz az sh acc A K := by kernel_rfl
def Xga : Prop := ∀ (W : InW) (body a : Code), (Try.prog.funcs[76]?).bind (·.body) = some body -> a ∈ Yy body -> Yfw a = 13 -> @Ymq W Try.prog a (@Ytn W Xg5)
theorem Xnb (meas : [InW] -> List Ed -> Nat) (hyp_ : ∀ (W : InW) q bx n j qz pz az sh acc K, Xe5 [.i q, .ro _ bx, .i n, .i j, .ro _ qz, .ro _ pz, .i az, .ro _ sh, .l acc] K -> ∀ A : List Ed -> Prop, (∀ e, meas e < meas [.i q, .ro _ bx, .i n, .i j, .ro _ qz, .ro _ pz, .i az, .ro _ sh, .l acc] -> Xe5 e K -> A e) -> Xd4 q bx n j qz pz az sh acc A K) : Xga :=
 LE.okOf' (fun W => @TT W) (fun W => @Xe W) Xa T0 1000 50 (by kernel_rfl) Xg5 (fun W => @meas W) fun W q bx n j qz pz az sh acc K hs =>
  (Xll W q bx n j qz pz az sh acc (fun e => meas e < meas [.i q, .ro _ bx, .i n, .i j, .ro _ qz, .ro _ pz, .i az, .ro _ sh, .l acc] /\ Xe5 e K) K).mpr (hyp_ W q bx n j qz pz az sh acc K hs _ fun e h1 h2 => ⟨h1, h2⟩)
theorem Xpz : Xga := Xnb (fun e => match e with | [_, _, .i n, .i j, _, _, _, _, _] => (n - j).toNat | _ => 0) fun W q bx n j qz pz az sh acc K hs A hA => by
 obtain ⟨⟨rfl, h0, h1, h2, h3, h4, h5⟩, hk⟩ := hs;unfold Xd4;delta Zdz;simp only [List.length_cons, List.length_nil];have ez : (j + 1).toNat = j.toNat + 1 := by omega
 have ej : ((j.toNat : Nat) : Int) = j := Int.toNat_of_nonneg h0
 by_cases hj : j < bx.xs.length
 ·rw [show bx.xs.length - j.toNat = (bx.xs.length - (j.toNat + 1)) + 1 by omega] at hk;simp only [Sp.unsRow, Sp.bx, ej] at hk
  by_cases c : (cel bx.xs j.toNat 0).int = 2
  ·simp only [c, if_true] at hk;rw [<- List.append_assoc] at hk;have hA' := hA [.i q, .ro _ bx, .i bx.xs.length, .i (j + 1), .ro _ qz, .ro _ pz, .i az, .ro _ sh, .l (acc ++ [[.i q, .i j]])] (show ((bx.xs.length : Int) - (j + 1)).toNat < ((bx.xs.length : Int) - j).toNat by omega) ⟨⟨rfl, by omega, by omega, h2, h3, h4, by simp; omega⟩, by rw [ez]; exact hk⟩;clear hA hk
   repeat' (first | omega|intro _|with_reducible first|apply vifd|apply vifn|apply vifq|apply Xd|apply Xc|apply vifb|apply vif|apply nedd|apply ned2|apply ned|apply ar64|apply Xb|exact True.intro|assumption|rfl|apply And.intro)
   all_goals first | contradiction | exact hA' | skip
  ·simp only [c, if_false, List.nil_append] at hk;have hA' := hA [.i q, .ro _ bx, .i bx.xs.length, .i (j + 1), .ro _ qz, .ro _ pz, .i az, .ro _ sh, .l acc] (show ((bx.xs.length : Int) - (j + 1)).toNat < ((bx.xs.length : Int) - j).toNat by omega) ⟨⟨rfl, by omega, by omega, h2, h3, h4, by omega⟩, by rw [ez]; exact hk⟩;clear hA hk
   repeat' (first | omega|intro _|with_reducible first|apply vifd|apply vifn|apply vifq|apply Xd|apply Xc|apply vifb|apply vif|apply nedd|apply ned2|apply ned|apply ar64|apply Xb|exact True.intro|assumption|rfl|apply And.intro)
   all_goals first | contradiction | exact hA' | skip
 ·rw [show bx.xs.length - j.toNat = 0 by omega] at hk;simp only [Sp.unsRow, List.append_nil] at hk;clear hA
  repeat' (first | omega|intro _|with_reducible first|apply vifd|apply vifn|apply vifq|apply Xd|apply Xc|apply vifb|apply vif|apply nedd|apply ned2|apply ned|apply ar64|apply Xb|exact True.intro|assumption|rfl|apply And.intro)
  all_goals exact hk
def Xqy : LE Try.prog := ⟨76, 13, fun W => @Ytn W Xg5, Xpz⟩
def T47 : Tab Try.prog := ⟨[Xcu], [Xqy], []⟩
def Xe4 [InW] (e : List Ed) (K : Nat -> List Ed -> Prop) : Prop := match e with
 | [.ro _ s2, .i n, .i i, .ro _ qs, .ro _ ps, .i all, .ro _ qz, .ro _ pz, .i az, .ro _ sh, .l acc] => Pre (n = s2.xs.length /\ 0 <= i /\ i <= n /\ s2.xs.length = qs.xs.length /\ Sp.KeyOk qs.xs ps.xs all /\ (acc.length : Int) <= 4 * i) (Vif (Sp.hasE (Sp.rowE qs.xs s2.xs) i.toNat (s2.xs.length - i.toNat)) (K 1 [.i (Sp.rowE qs.xs s2.xs (Sp.idxE (Sp.rowE qs.xs s2.xs) i.toNat (s2.xs.length - i.toNat)))]) (K 0 [.ro _ qz, .ro _ pz, .i az, .ro _ sh, .l (acc ++ Sp.unsAll s2.xs i.toNat (s2.xs.length - i.toNat))]))
 | _ => False
def Xg4 : LC where
 len := 71
 T := [(2, (.ptr 1 0)), (6, (.ptr 7 0)), (21, .rs Jb), (22, .int .i64), (23, .int .i64)]
 H := [(1, .blk 25 [.rs Iv5, .rs Jc, .int .i64]), (7, .blk 89 [.rs Iv5, .rs Jc, .int .i64, .rs Jb, (.row 6)]), (6, .arr 44 Ja)]
 W := ([4, 5] ++ rg 7 4 ++ rg 24 40)
 outs := [⟨.exit 0, [(6, (.ptr 7 0))], [(7, .blk 89 [.rs Iv5, .rs Jc, .int .i64, .rs Jb, (.row 9)]), (9, .arr 44 Ja)], ([2, 4, 5] ++ rg 7 4 ++ rg 21 43)⟩, ⟨.ret, [(4, (.lit (.pointer none))), (5, .int .i64)], [], ([2] ++ rg 6 5 ++ rg 21 43)⟩]
 spec := Xe4
def Zeb [W : InW] (s2 : Ro Jb) (i : Int) := (↑(List.length (cel s2.xs i.toNat Zd).lst) : Int)
def Xd3 [W : InW] (s2 : Ro Jb) (n i : Int) (qs : Ro Iv5) (ps : Ro Jc) (all : Int) (qz : Ro Iv5) (pz : Ro Jc) (az : Int) (sh : Ro Jb) (acc : Dt) (A : List Ed -> Prop) (K : Nat -> List Ed -> Prop) : Prop :=
 Vif (decide (i < n)) (Need (decide (0 <= i) && decide (i < (↑(s2.xs.length) : Int))) (Need (decide (i.toNat < s2.xs.length)) (Need (decide (0 <= i) && decide (i < (↑(qs.xs.length) : Int))) (Need (decide (i.toNat < qs.xs.length)) (Vif (!decide ((Zeb s2 i) = (cel qs.xs i.toNat (0+1)).int)) (K (0+1) [.i (3 : Int)]) (Pre True (Vif (Sp.out Zb (2 : Int) (cel s2.xs i.toNat Zd).lst) (K (0+1) [.i (7 : Int)]) (Pre ((Zeb s2 i) = (Zeb s2 i) /\ Zb <= 0 /\ Zb <= (Zeb s2 i) /\ 0 <= i /\ i <= 12 /\ (Zeb s2 i) <= 4 /\ (↑(acc.length) : Int) <= 4 * i + 0) (Ar .i64 (i + 1) fun z => A [.ro Zdz s2, .i n, .i z, .ro _ qs, .ro _ ps, .i all, .ro _ qz, .ro _ pz, .i az, .ro Zdz sh, .l (acc ++ Sp.unsRow (cel s2.xs i.toNat Zd).lst i (Int.toNat Zb) (List.length (cel s2.xs i.toNat Zd).lst - Int.toNat Zb))]))))))))) (K 0 [.ro _ qz, .ro _ pz, .i az, .ro Zdz sh, .l acc])
theorem Xlk (W : InW) (s2 n i qs ps all qz pz az sh acc A K) : Yfc { cxT Try.prog TT T47 1000 50 with fn := 76 } 1000 (Yn7 Try.prog 76 6) (Yd6 71 [(2, .ptr 1 0), (6, .ptr 7 0), (21, .rs _ s2), (22, .si .i64 n), (23, .si .i64 i)] ([4, 5] ++ rg 7 4 ++ rg 24 40)) [(1, .blk 25 [.rs _ qs, .rs _ ps, .si .i64 all]), (7, .blk 89 [.rs _ qz, .rs _ pz, .si .i64 az, .rs _ sh, .rw 6]), (6, .arr 44 Ja acc)] (Yuf Xg4 A K) = Xd3 s2 n i qs ps all qz pz az sh acc A K := by kernel_rfl
def Xf9 : Prop := ∀ (W : InW) (body a : Code), (Try.prog.funcs[76]?).bind (·.body) = some body -> a ∈ Yy body -> Yfw a = 6 -> @Ymq W Try.prog a (@Ytn W Xg4)
theorem Xna (meas : [InW] -> List Ed -> Nat) (hyp_ : ∀ (W : InW) s2 n i qs ps all qz pz az sh acc K, Xe4 [.ro _ s2, .i n, .i i, .ro _ qs, .ro _ ps, .i all, .ro _ qz, .ro _ pz, .i az, .ro _ sh, .l acc] K -> ∀ A : List Ed -> Prop, (∀ e, meas e < meas [.ro _ s2, .i n, .i i, .ro _ qs, .ro _ ps, .i all, .ro _ qz, .ro _ pz, .i az, .ro _ sh, .l acc] -> Xe4 e K -> A e) -> Xd3 s2 n i qs ps all qz pz az sh acc A K) : Xf9 :=
 LE.okOf' (fun W => @TT W) (fun W => @Xe W) Xa T47 1000 50 (by kernel_rfl) Xg4 (fun W => @meas W) fun W s2 n i qs ps all qz pz az sh acc K hs =>
  (Xlk W s2 n i qs ps all qz pz az sh acc (fun e => meas e < meas [.ro _ s2, .i n, .i i, .ro _ qs, .ro _ ps, .i all, .ro _ qz, .ro _ pz, .i az, .ro _ sh, .l acc] /\ Xe4 e K) K).mpr (hyp_ W s2 n i qs ps all qz pz az sh acc K hs _ fun e h1 h2 => ⟨h1, h2⟩)
theorem Xpy : Xf9 := Xna (fun e => match e with | .ro _ _ :: .i n :: .i i :: _ => (n - i).toNat | _ => 0) fun W s2 n i qs ps all qz pz az sh acc K hs A hA => by
 obtain ⟨⟨rfl, h0, h1, h2, hkey, h5⟩, hk⟩ := hs;have n2 := hkey.n2;unfold Xd3;delta Zeb Zdz Zb Zd;simp only [show Int.toNat 0 = 0 from rfl, Nat.sub_zero, Nat.zero_add, show (cel s2.xs i.toNat 0).lst = Sp.row s2.xs i.toNat from rfl, show (cel qs.xs i.toNat 1).int = Sp.qBoxes qs.xs i.toNat from rfl];have ez : (i + 1).toNat = i.toNat + 1 := by omega
 have ei : ((i.toNat : Nat) : Int) = i := Int.toNat_of_nonneg h0
 by_cases hi : i < s2.xs.length
 ·have hb := hkey.boxes i.toNat (by omega);rw [show s2.xs.length - i.toNat = (s2.xs.length - (i.toNat + 1)) + 1 by omega] at hk;obtain ⟨g1, g2⟩ := Xc2 (K1 := fun _ e => K 1 [.i e]) hk;simp only [Sp.unsAll, ei] at g2;have hul := Sp.unsRow_len (Sp.row s2.xs i.toNat) i (Sp.row s2.xs i.toNat).length 0;have hA' : Sp.rowE qs.xs s2.xs i.toNat = 0 -> (Sp.row s2.xs i.toNat).length <= 4 -> A [.ro _ s2, .i s2.xs.length, .i (i + 1), .ro _ qs, .ro _ ps, .i all, .ro _ qz, .ro _ pz, .i az, .ro _ sh, .l (acc ++ Sp.unsRow (Sp.row s2.xs i.toNat) i 0 (Sp.row s2.xs i.toNat).length)] := fun f f4 => hA _ (by show ((s2.xs.length : Int) - (i + 1)).toNat < ((s2.xs.length : Int) - i).toNat; omega) ⟨⟨rfl, by omega, by omega, h2, hkey, by simp; omega⟩, by
   have g2 := g2 f;rw [<- List.append_assoc] at g2;rw [ez]; exact g2⟩
  clear hA hk g2;unfold Sp.rowE at hA' g1
  by_cases c : ((Sp.row s2.xs i.toNat).length : Int) = Sp.qBoxes qs.xs i.toNat
  ·have f4 : (Sp.row s2.xs i.toNat).length <= 4 := by omega
   rw [if_pos c] at hA' g1
   by_cases c2 : Sp.out 0 2 (Sp.row s2.xs i.toNat) = true
   ·rw [if_pos c2] at hA' g1;have g1 := g1 (by decide)
    repeat' (first | (with_reducible refine Xb trivial ?_) | (with_reducible refine Xb ⟨rfl, by omega, by omega, by omega, by omega, by omega, by omega⟩ ?_) | omega|intro _|with_reducible first|apply vifd|apply vifn|apply vifq|apply Xd|apply Xc|apply vifb|apply vif|apply nedd|apply ned2|apply ned|apply ar64|apply Xb|exact True.intro|assumption|rfl|apply And.intro)
    all_goals first | contradiction | exact g1 | skip
    all_goals (rw [c2] at *; contradiction)
   ·rw [if_neg c2] at hA' g1;have hA' := hA' rfl f4
    repeat' (first | (with_reducible refine Xb trivial ?_) | (with_reducible refine Xb ⟨rfl, by omega, by omega, by omega, by omega, by omega, by omega⟩ ?_) | omega|intro _|with_reducible first|apply vifd|apply vifn|apply vifq|apply Xd|apply Xc|apply vifb|apply vif|apply nedd|apply ned2|apply ned|apply ar64|apply Xb|exact True.intro|assumption|rfl|apply And.intro)
    all_goals first | contradiction | exact hA' | skip
  ·rw [if_neg c] at hA' g1;have g1 := g1 (by decide)
   repeat' (first | (with_reducible refine Xb trivial ?_) | omega|intro _|with_reducible first|apply vifd|apply vifn|apply vifq|apply Xd|apply Xc|apply vifb|apply vif|apply nedd|apply ned2|apply ned|apply ar64|apply Xb|exact True.intro|assumption|rfl|apply And.intro)
   all_goals first | contradiction | exact g1 | skip
 ·rw [show s2.xs.length - i.toNat = 0 by omega] at hk;simp only [Sp.unsAll, List.append_nil] at hk;clear hA
  repeat' (first | omega|intro _|with_reducible first|apply vifd|apply vifn|apply vifq|apply Xd|apply Xc|apply vifb|apply vif|apply nedd|apply ned2|apply ned|apply ar64|apply Xb|exact True.intro|assumption|rfl|apply And.intro)
  all_goals exact hk.2 rfl
def Xqx : LE Try.prog := ⟨76, 6, fun W => @Ytn W Xg4, Xpy⟩
def T48 : Tab Try.prog := ⟨[Xcu], [Xqx], []⟩
def Xky [InW] (e : List Ed) (K : Nat -> List Ed -> Prop) : Prop := match e with
 | [.ro _ qs, .ro _ ps, .i all, .ro _ sh] => Pre (Sp.KeyOk qs.xs ps.xs all) (Vif (decide (Sp.shE qs.xs sh.xs = 0)) (K 1 [.ro _ qs, .ro _ ps, .i all, .ro _ sh, .l (Sp.uns sh.xs)]) (K 0 [.i (Sp.shE qs.xs sh.xs)]))
 | _ => False
def Xv : CC where
 g := 76
 args := [.agg [.rs Iv5, .rs Jc, .int .i64], .rs Jb]
 H := []
 outs := [⟨false, .tup [(.lit (.pointer none)), .int .i64], [], false⟩, ⟨false, .tup [(.ptr 6 0), (.lit (.int .i64 0))], [(6, .blk 89 [.rs Iv5, .rs Jc, .int .i64, .rs Jb, (.row 12)]), (12, .arr 44 Ja)], false⟩]
 spec := Xky
def Xep [W : InW] (qs : Ro Iv5) (ps : Ro Jc) (all : Int) (sh : Ro Jb) (K : Nat -> List Ed -> Prop) : Prop :=
 Vif (!decide ((↑(sh.xs.length) : Int) = (↑(qs.xs.length) : Int))) (K 0 [.i (3 : Int)]) (Pre ((↑(sh.xs.length) : Int) = (↑(sh.xs.length) : Int) /\ Zb <= 0 /\ Zb <= (↑(sh.xs.length) : Int) /\ sh.xs.length = qs.xs.length /\ Sp.KeyOk qs.xs ps.xs all /\ (↑(0 : Nat) : Int) <= 4 * 0) (Vif (Sp.hasE (Sp.rowE qs.xs sh.xs) Za (sh.xs.length - Int.toNat Zb)) (K 0 [.i (Sp.rowE qs.xs sh.xs (Sp.idxE (Sp.rowE qs.xs sh.xs) Za (sh.xs.length - Int.toNat Zb)))]) (Vif (decide ((7 : Int) < (↑(List.length (Sp.unsAll sh.xs Za (sh.xs.length - Int.toNat Zb))) : Int))) (K 0 [.i (3 : Int)]) (K (0+1) [.ro _ qs, .ro _ ps, .i all, .ro Zdz sh, .l (Sp.unsAll sh.xs Za (sh.xs.length - Int.toNat Zb))]))))
theorem Xl6 (W : InW) (qs ps all sh K) : Ywq (cxT Try.prog TT T48 1000 50) 1000 76 [.agg [.rs _ qs, .rs _ ps, .si .i64 all], .rs _ sh] [] (fun v h => outC Xv.H [] Xv.outs 0 false v h K) (fun v h => outC Xv.H [] Xv.outs 0 true v h K) = Xep qs ps all sh K := by kernel_rfl
theorem Xnw (hyp_ : ∀ (W : InW) qs ps all sh K, Xky [.ro _ qs, .ro _ ps, .i all, .ro _ sh] K -> Xep qs ps all sh K) : ∀ W : InW, @CallC W Try.prog Xv :=
 CC.okOf (fun W => @TT W) (fun W => @Xe W) Xa T48 1000 50 Xv fun W qs ps all sh K hs => (Xl6 W qs ps all sh K).mpr (hyp_ W qs ps all sh K hs)
theorem Xk7 : ∀ W : InW, @CallC W Try.prog Xv := Xnw fun W qs ps all sh K hs => by
 obtain ⟨hkey, hk⟩ := hs;unfold Xep;delta Za Zb Zdz;simp only [show Int.toNat 0 = 0 from rfl, Nat.sub_zero];have k0 : ∀ e, Sp.shE qs.xs sh.xs = e -> e ≠ 0 -> K 0 [.i e] := fun e h1 h2 => by
  have := hk.2 (decide_eq_false (by omega));rw [h1] at this; exact this
 have k1 : Sp.shE qs.xs sh.xs = 0 -> K 1 [.ro _ qs, .ro _ ps, .i all, .ro _ sh, .l (Sp.uns sh.xs)] := fun h => hk.1 (decide_eq_true h);clear hk;unfold Sp.shE at k0 k1;refine vifn (fun e => k0 3 (by rw [if_neg e]) (by decide)) fun e => ⟨⟨trivial, by omega, by omega, by omega, hkey, by omega⟩, ?_⟩;rw [if_pos e] at k0 k1;refine vif (fun e1 => ?_) fun e1 => ?_
 ·rw [if_pos e1] at k0;exact k0 _ rfl (Sp.hasE_ix e1).2.2
 ·rw [if_neg (by simp [e1])] at k0 k1;have hu : Sp.unsAll sh.xs 0 sh.xs.length = Sp.uns sh.xs := rfl;rw [hu];refine vifd (fun e2 => k0 3 (by rw [if_pos (by omega)]) (by decide)) fun e2 => k1 (by rw [if_neg (by omega)])
def T49 : Tab Try.prog := ⟨[Xbe], [], [ceOf Xv Xk7]⟩
def Xh1 [InW] (e : List Ed) (K : Nat -> List Ed -> Prop) : Prop := match e with
 | [.ro _ qs, .ro _ ps, .i all, .ro _ sh] => Vif (decide (Sp.askE qs.xs ps.xs all sh.xs = 0)) (K 1 [.ro _ qs, .ro _ ps, .i all, .ro _ sh, .l (Sp.uns sh.xs)]) (K 0 [.i (Sp.askE qs.xs ps.xs all sh.xs)])
 | _ => False
def Xh : CC where
 g := 54
 args := [.agg [.rs Iv5, .rs Jc, .int .i64], .rs Jb]
 H := []
 outs := [⟨false, .tup [(.lit (.pointer none)), .int .i64], [], false⟩, ⟨false, .tup [(.ptr 6 0), (.lit (.int .i64 0))], [(6, .blk 89 [.rs Iv5, .rs Jc, .int .i64, .rs Jb, (.row 12)]), (12, .arr 44 Ja)], false⟩]
 spec := Xh1
def Xcs [W : InW] (qs : Ro Iv5) (ps : Ro Jc) (all : Int) (sh : Ro Jb) (K : Nat -> List Ed -> Prop) : Prop :=
 Pre True (Vif (!decide (Sp.chkE qs.xs ps.xs all = 0)) (K 0 [.i (Sp.chkE qs.xs ps.xs all)]) (Pre (Sp.KeyOk qs.xs ps.xs all) (Vif (decide (Sp.shE qs.xs sh.xs = 0)) (K (0+1) [.ro _ qs, .ro _ ps, .i all, .ro [Ty.sl [Ty.int IntKind.i64]] sh, .l (Sp.uns sh.xs)]) (K 0 [.i (Sp.shE qs.xs sh.xs)]))))
theorem Xjl (W : InW) (qs ps all sh K) : Ywq (cxT Try.prog TT T49 1000 50) 1000 54 [.agg [.rs _ qs, .rs _ ps, .si .i64 all], .rs _ sh] [] (fun v h => outC Xh.H [] Xh.outs 0 false v h K) (fun v h => outC Xh.H [] Xh.outs 0 true v h K) = Xcs qs ps all sh K := by kernel_rfl
theorem Xkf (hyp_ : ∀ (W : InW) qs ps all sh K, Xh1 [.ro _ qs, .ro _ ps, .i all, .ro _ sh] K -> Xcs qs ps all sh K) : ∀ W : InW, @CallC W Try.prog Xh :=
 CC.okOf (fun W => @TT W) (fun W => @Xe W) Xa T49 1000 50 Xh fun W qs ps all sh K hs => (Xjl W qs ps all sh K).mpr (hyp_ W qs ps all sh K hs)
theorem Xbf : ∀ W : InW, @CallC W Try.prog Xh := Xkf fun W qs ps all sh K hs => by
 have k0 : ∀ e, Sp.askE qs.xs ps.xs all sh.xs = e -> e ≠ 0 -> K 0 [.i e] := fun e h1 h2 => by
  have := hs.2 (decide_eq_false (by omega));rw [h1] at this; exact this
 have k1 : Sp.askE qs.xs ps.xs all sh.xs = 0 -> K 1 [.ro _ qs, .ro _ ps, .i all, .ro _ sh, .l (Sp.uns sh.xs)] := fun h => hs.1 (decide_eq_true h);clear hs;unfold Sp.askE at k0 k1;unfold Xcs;refine ⟨trivial, vifn (fun e => k0 _ (by rw [if_neg e]) e) fun e => ⟨Sp.chkE_iff.1 e, ?_⟩⟩;rw [if_pos e] at k0 k1;exact vifd (fun e1 => k1 e1) fun e1 => k0 _ rfl e1
def T50 : Tab Try.prog := ⟨[], [], [ceOf Xh Xbf, ceOf Xp Xip, ceOf Xw Xk8]⟩
def Xdp [W : InW] (kQ : Ro Iv5) (kP : Ro Jc) (kA : Int) (sh : Ro Jb) (Q : DS -> Prop) : Prop :=
 Vif (decide (Sp.askE kQ.xs kP.xs kA sh.xs = 0)) (Vif (decide (Zb < (↑(List.length (Sp.uns sh.xs)) : Int))) (Q [[Cl.l []], [Cl.b false], [Cl.i 2]]) (Pre (Zb <= 0 /\ Sp.KeyOk kQ.xs kP.xs kA /\ Sp.SeOk kQ.xs sh.xs (Sp.uns sh.xs)) (Pre (Zb <= 0 /\ Sp.KeyOk kQ.xs kP.xs kA /\ Sp.SeOk kQ.xs sh.xs (Sp.uns sh.xs)) (Q [[Cl.l (Sp.mkW kQ.xs kP.xs sh.xs (Sp.uns sh.xs) Zb)], [Cl.b (Sp.psW kQ.xs kP.xs kA sh.xs (Sp.uns sh.xs) Zb)], [Cl.i 0]])))) (Vif (!decide (Sp.askE kQ.xs kP.xs kA sh.xs = 0)) (Q [[Cl.l []], [Cl.b false], [Cl.i (Sp.askE kQ.xs kP.xs kA sh.xs)]]) ((16 : Nat) = 16 + 1))
theorem Xmi (W : InW) (kQ kP kA sh Q) : Ywt (cxT Try.prog TT T50 1000 50) 1000 19 [.agg [.rs _ kQ, .rs _ kP, .si .i64 kA], .rs _ sh] [] 0 (Y02 [(false, [.row 3 Jc]), (false, [.bool]), (false, [.int .i64])] Q) (fun _ _ _ _ => Stuck 421) = Xdp kQ kP kA sh Q := by kernel_rfl
abbrev Xca : List AT := [.agg [.sl Iv5, .sl Jc, .int .i64], .one (.sl Jb)]
theorem Xn9 {pre : DS -> Prop} {res : DS -> DS} (hyp_ : ∀ (W : InW) (kQ : Ro Iv5) (kP : Ro Jc) (kA : Int) (sh : Ro Jb), pre [[.l kQ.xs, .l kP.xs, .i kA], [.l sh.xs]] -> ∀ Q : DS -> Prop, Q (res [[.l kQ.xs, .l kP.xs, .i kA], [.l sh.xs]]) -> Xdp kQ kP kA sh Q) : PureOk Try.prog 19 Xca [(false, [.row 3 Jc]), (false, [.bool]), (false, [.int .i64])] pre res :=
 PureOk.of' (fun W => @TT W) (fun W => @Xe W) Xa T50 1000 50 fun W kQ kP kA sh hp =>
  (Xmi W kQ kP kA sh (fun o => o = res [[.l kQ.xs, .l kP.xs, .i kA], [.l sh.xs]])).mpr (hyp_ W kQ kP kA sh hp _ rfl)
def rfIn : Code -> List LI
 | .seq a b => rfIn a ++ rfIn b
 | .cond _ a b => rfIn a ++ rfIn b
 | .block _ a => rfIn a
 | .loop a => rfIn a
 | .scope a => rfIn a
 | .rangeFunc _ ps asg b => ⟨.ready, none, ps, asg, b⟩ :: rfIn b
 | _ => []
def lpAt (P : Program) (g : FuncId) (k : Nat) : LI := (rfIn (Yjq P g)).getD k ⟨.ready, none, #[], .skip, .skip⟩
abbrev LPth : LI := lpAt Try.prog 60 0
namespace Sp
def psB (qs ps : Dt) (all : Int) (sh u : Dt) (k : Nat) : Bool := psW qs ps all sh u k
end Sp
def T60 : Tab Try.prog := ⟨[], [], [ceOf Xw Xk8]⟩
def Xe1 [InW] (e : List Ed) (K : Nat -> List Ed -> Prop) : Prop := match e with
 | [.i n, .i i, .ro _ qs, .ro _ ps, .i all, .ro _ sh, .l u, .b so, .b al] => Pre (0 <= i /\ i <= n /\ n <= 1000 /\ Sp.KeyOk qs.xs ps.xs all /\ Sp.SeOk qs.xs sh.xs u) (K 0 [.ro _ qs, .ro _ ps, .i all, .ro _ sh, .l u, .b (so || Sp.anyF (Sp.psB qs.xs ps.xs all sh.xs u) i.toNat (n - i).toNat), .b (al && Sp.allF (Sp.psB qs.xs ps.xs all sh.xs u) i.toNat (n - i).toNat)])
 | _ => False
def Xg1 : LC where
 len := 18
 T := [(0, (.yl 1)), (1, (.ptr 10 0)), (9, .int .i64), (10, .int .i64)]
 H := [(1, .lp LPth [(.opq 1501), (.opq 1504), (.opq 1507), (.opq 1510), (.ptr 13 0), (.ptr 16 0), (.ptr 19 0), (.opq 318), (.opq 321), (.opq 1528), (.opq 327), (.opq 330), (.opq 333), (.opq 336), (.opq 339), (.opq 342), (.opq 345), (.opq 348), (.opq 351), (.opq 354), (.opq 357), (.opq 360), (.opq 1567), (.opq 1570)]), (10, .blk 85 [(.ptr 4 0)]), (4, .blk 89 [.rs Iv5, .rs Jc, .int .i64, .rs Jb, (.row 7)]), (7, .arr 44 Ja), (13, .blk 84 [(.fn (.func 56) [(.ptr 4 0)] [])]), (16, .blk 4 [.bool]), (19, .blk 4 [.bool])]
 W := ([3] ++ rg 11 7)
 outs := [⟨.exit 0, [], [(1, .lp LPth [(.opq 1501), (.opq 1504), (.opq 1507), (.opq 1510), (.ptr 13 0), (.ptr 16 0), (.ptr 19 0), (.opq 618), (.opq 621), (.opq 1528), (.opq 627), (.opq 630), (.opq 633), (.opq 636), (.opq 639), (.opq 642), (.opq 645), (.opq 648), (.opq 651), (.opq 654), (.opq 657), (.opq 660), (.opq 1567), (.opq 1570)]), (618, .dead), (621, .dead), (627, .dead), (630, .dead), (633, .dead), (636, .dead), (639, .dead), (642, .dead), (645, .dead), (648, .dead), (651, .dead), (654, .dead), (657, .dead), (660, .dead), (10, .blk 85 [(.ptr 4 0)]), (4, .blk 89 [.rs Iv5, .rs Jc, .int .i64, .rs Jb, (.row 7)]), (7, .arr 44 Ja), (13, .blk 84 [(.fn (.func 56) [(.ptr 4 0)] [])]), (16, .blk 4 [.bool]), (19, .blk 4 [.bool])], ([0, 1, 3] ++ rg 9 9)⟩]
 spec := Xe1
def Xd0 [W : InW] (n i : Int) (qs : Ro Iv5) (ps : Ro Jc) (all : Int) (sh : Ro Jb) (u : Dt) (so al : Bool) (A : List Ed -> Prop) (K : Nat -> List Ed -> Prop) : Prop :=
 Vif (decide (i < n)) (Pre (0 <= i /\ Sp.KeyOk qs.xs ps.xs all /\ Sp.SeOk qs.xs sh.xs u) (Vif so (Vif al (Ar .i64 (i + 1) fun z => PreL LPth LPth (A [.i n, .i z, .ro _ qs, .ro _ ps, .i all, .ro Zdz sh, .l u, .b true, .b (Sp.psW qs.xs ps.xs all sh.xs u i)])) (Ar .i64 (i + 1) fun z => PreL LPth LPth (A [.i n, .i z, .ro _ qs, .ro _ ps, .i all, .ro Zdz sh, .l u, .b true, .b false]))) (Vif al (Ar .i64 (i + 1) fun z => PreL LPth LPth (A [.i n, .i z, .ro _ qs, .ro _ ps, .i all, .ro Zdz sh, .l u, .b (Sp.psW qs.xs ps.xs all sh.xs u i), .b (Sp.psW qs.xs ps.xs all sh.xs u i)])) (Ar .i64 (i + 1) fun z => PreL LPth LPth (A [.i n, .i z, .ro _ qs, .ro _ ps, .i all, .ro Zdz sh, .l u, .b (Sp.psW qs.xs ps.xs all sh.xs u i), .b false]))))) (PreL LPth LPth (K 0 [.ro _ qs, .ro _ ps, .i all, .ro Zdz sh, .l u, .b so, .b al]))
theorem Xlh (W : InW) (n i qs ps all sh u so al A K) : Yfc { cxT Try.prog TT T60 1000 50 with fn := 83 } 1000 (Yn7 Try.prog 83 2) (Yd6 18 [(0, .yl 1), (1, .ptr 10 0), (9, .si .i64 n), (10, .si .i64 i)] ([3] ++ rg 11 7)) [(1, .lp LPth [.opq 1501, .opq 1504, .opq 1507, .opq 1510, .ptr 13 0, .ptr 16 0, .ptr 19 0, .opq 318, .opq 321, .opq 1528, .opq 327, .opq 330, .opq 333, .opq 336, .opq 339, .opq 342, .opq 345, .opq 348, .opq 351, .opq 354, .opq 357, .opq 360, .opq 1567, .opq 1570]), (10, .blk 85 [.ptr 4 0]), (4, .blk 89 [.rs _ qs, .rs _ ps, .si .i64 all, .rs _ sh, .rw 7]), (7, .arr 44 Ja u), (13, .blk 84 [.fn (.func 56) [.ptr 4 0] []]), (16, .blk 4 [.sb so]), (19, .blk 4 [.sb al])] (Yuf Xg1 A K) = Xd0 n i qs ps all sh u so al A K := by kernel_rfl
def Xf6 : Prop := ∀ (W : InW) (body a : Code), (Try.prog.funcs[83]?).bind (·.body) = some body -> a ∈ Yy body -> Yfw a = 2 -> @Ymq W Try.prog a (@Ytn W Xg1)
theorem Xm7 (meas : [InW] -> List Ed -> Nat) (hyp_ : ∀ (W : InW) n i qs ps all sh u so al K, Xe1 [.i n, .i i, .ro _ qs, .ro _ ps, .i all, .ro _ sh, .l u, .b so, .b al] K -> ∀ A : List Ed -> Prop, (∀ e, meas e < meas [.i n, .i i, .ro _ qs, .ro _ ps, .i all, .ro _ sh, .l u, .b so, .b al] -> Xe1 e K -> A e) -> Xd0 n i qs ps all sh u so al A K) : Xf6 :=
 LE.okOf' (fun W => @TT W) (fun W => @Xe W) Xa T60 1000 50 (by kernel_rfl) Xg1 (fun W => @meas W) fun W n i qs ps all sh u so al K hs =>
  (Xlh W n i qs ps all sh u so al (fun e => meas e < meas [.i n, .i i, .ro _ qs, .ro _ ps, .i all, .ro _ sh, .l u, .b so, .b al] /\ Xe1 e K) K).mpr (hyp_ W n i qs ps all sh u so al K hs _ fun e h1 h2 => ⟨h1, h2⟩)
theorem Xpv : Xf6 := Xm7 (fun e => match e with | .i n :: .i i :: _ => (n - i).toNat | _ => 0) fun W n i qs ps all sh u so al K hs A hA => by
 obtain ⟨⟨h0, h1, h2, hkey, hse⟩, hk⟩ := hs;unfold Xd0;delta Zdz;have ez : (i + 1).toNat = i.toNat + 1 := by omega
 have ei : ((i.toNat : Nat) : Int) = i := Int.toNat_of_nonneg h0
 by_cases hi : i < n
 ·rw [show (n - i).toNat = (n - (i + 1)).toNat + 1 by omega] at hk;have hA' : ∀ c d, c = (so || Sp.psW qs.xs ps.xs all sh.xs u i) -> d = (al && Sp.psW qs.xs ps.xs all sh.xs u i) -> A [.i n, .i (i + 1), .ro _ qs, .ro _ ps, .i all, .ro _ sh, .l u, .b c, .b d] := fun c d hc hd => hA _ (show (n - (i + 1)).toNat < (n - i).toNat by omega) ⟨⟨by omega, by omega, h2, hkey, hse⟩, by
   simp only [Sp.anyF, Sp.allF, Sp.psB, ei] at hk;rw [ez, hc, hd, Bool.or_assoc, Bool.and_assoc];exact hk⟩
  clear hA hk
  repeat' (first | (with_reducible refine Xb ⟨h0, hkey, hse⟩ ?_) | (refine ⟨rfl, ?_⟩; done) | omega|intro _|with_reducible first|apply vifd|apply vifn|apply vifq|apply Xd|apply Xc|apply vifb|apply vif|apply nedd|apply ned2|apply ned|apply ar64|apply Xb|exact True.intro|assumption|rfl|apply And.intro)
  all_goals first | contradiction | (refine ⟨rfl, ?_⟩; refine hA' _ _ ?_ ?_ <;> simp [*]; done) | skip
 ·rw [show (n - i).toNat = 0 by omega] at hk;simp only [Sp.allF, Sp.anyF, Bool.and_true, Bool.or_false] at hk;clear hA
  repeat' (first | omega|intro _|with_reducible first|apply vifd|apply vifn|apply vifq|apply Xd|apply Xc|apply vifb|apply vif|apply nedd|apply ned2|apply ned|apply ar64|apply Xb|exact True.intro|assumption|rfl|apply And.intro)
  all_goals exact ⟨rfl, hk⟩
def Xqu : LE Try.prog := ⟨83, 2, fun W => @Ytn W Xg1, Xpv⟩
def T61 : Tab Try.prog := ⟨[], [Xqu], []⟩
def Xh0 [InW] (e : List Ed) (K : Nat -> List Ed -> Prop) : Prop := match e with
 | [.ro _ qs, .ro _ ps, .i all, .ro _ sh, .l u] => Pre (Sp.KeyOk qs.xs ps.xs all /\ Sp.SeOk qs.xs sh.xs u /\ u.length <= 7) (K 0 [.b (Sp.anyF (Sp.psB qs.xs ps.xs all sh.xs u) 0 (2 ^ u.length)), .b (Sp.allF (Sp.psB qs.xs ps.xs all sh.xs u) 0 (2 ^ u.length)), .ro _ qs, .ro _ ps, .i all, .ro _ sh, .l u])
 | _ => False
def Xm : CC where
 g := 60
 args := [(.fn (.func 83) [] [(.ptr 10 0)]), (.fn (.func 56) [(.ptr 4 0)] [])]
 H := [(10, .blk 85 [(.ptr 4 0)]), (4, .blk 89 [.rs Iv5, .rs Jc, .int .i64, .rs Jb, (.row 7)]), (7, .arr 44 Ja)]
 outs := [⟨false, .tup [.bool, .bool], [(10, .blk 85 [(.ptr 4 0)]), (4, .blk 89 [.rs Iv5, .rs Jc, .int .i64, .rs Jb, (.row 7)]), (7, .arr 44 Ja)], false⟩]
 spec := Xh0
def Xcr [W : InW] (qs : Ro Iv5) (ps : Ro Jc) (all : Int) (sh : Ro Jb) (u : Dt) (K : Nat -> List Ed -> Prop) : Prop :=
 Need (decide ((0 : Int) <= (↑(u.length) : Int))) (Ar .i64 ((1 : Int) * 2 ^ min (↑(u.length) : Int).toNat (64 : Nat)) fun z => PreL LPth LPth (Pre ((0 : Int) <= 0 /\ 0 <= z /\ z <= 1000 /\ Sp.KeyOk qs.xs ps.xs all /\ Sp.SeOk qs.xs sh.xs u) (K 0 [.b (false || Sp.anyF (Sp.psB qs.xs ps.xs all sh.xs u) Za (z - 0).toNat), .b (true && Sp.allF (Sp.psB qs.xs ps.xs all sh.xs u) Za (z - 0).toNat), .ro _ qs, .ro _ ps, .i all, .ro Zdz sh, .l u])))
theorem Xjk (W : InW) (qs ps all sh u K) : Ywq (cxT Try.prog TT T61 1000 50) 1000 60 [.fn (.func 83) [] [.ptr 10 0], .fn (.func 56) [.ptr 4 0] []] [(10, .blk 85 [.ptr 4 0]), (4, .blk 89 [.rs _ qs, .rs _ ps, .si .i64 all, .rs _ sh, .rw 7]), (7, .arr 44 Ja u)] (fun v h => outC Xm.H [.ro _ qs, .ro _ ps, .i all, .ro _ sh, .l u] Xm.outs 0 false v h K) (fun v h => outC Xm.H [.ro _ qs, .ro _ ps, .i all, .ro _ sh, .l u] Xm.outs 0 true v h K) = Xcr qs ps all sh u K := by kernel_rfl
theorem Xke (hyp_ : ∀ (W : InW) qs ps all sh u K, Xh0 [.ro _ qs, .ro _ ps, .i all, .ro _ sh, .l u] K -> Xcr qs ps all sh u K) : ∀ W : InW, @CallC W Try.prog Xm :=
 CC.okOf (fun W => @TT W) (fun W => @Xe W) Xa T61 1000 50 Xm fun W qs ps all sh u K hs => (Xjk W qs ps all sh u K).mpr (hyp_ W qs ps all sh u K hs)
theorem Xo {n : Nat} (h : n <= 7) : (1 : Int) * 2 ^ min ((n : Nat) : Int).toNat 64 = ((2 ^ n : Nat) : Int) /\ 1 <= 2 ^ n /\ 2 ^ n <= 128 := by
 have h1 : min ((n : Nat) : Int).toNat 64 = n := by rw [Int.toNat_natCast]; omega
 refine ⟨by rw [h1, Int.one_mul]; norm_cast, Nat.one_le_two_pow, ?_⟩;exact Nat.le_trans (Nat.pow_le_pow_right (by decide) h) (by decide)
theorem Xoj : ∀ W : InW, @CallC W Try.prog Xm := Xke fun W qs ps all sh u K hs => by
 obtain ⟨⟨hkey, hse, h7⟩, hk⟩ := hs;unfold Xcr;delta Za Zdz Zb;obtain ⟨p1, p2, p3⟩ := Xo h7;rw [p1];simp only [show Int.toNat 0 = 0 from rfl, Int.sub_zero, Bool.true_and, Bool.false_or];refine nedd (by omega) (ar64 (by omega) ⟨rfl, ⟨by omega, by omega, by omega, hkey, hse⟩, ?_⟩);rw [Int.toNat_natCast];exact hk
def T62 : Tab Try.prog := ⟨[Xic], [], [ceOf Xh Xbf, ceOf Xm Xoj]⟩
def Xdo [W : InW] (kQ : Ro Iv5) (kP : Ro Jc) (kA : Int) (sh : Ro Jb) (Q : DS -> Prop) : Prop :=
 Vif (decide (Sp.askE kQ.xs kP.xs kA sh.xs = 0)) (Pre (Sp.KeyOk kQ.xs kP.xs kA /\ Sp.SeOk kQ.xs sh.xs (Sp.uns sh.xs) /\ List.length (Sp.uns sh.xs) <= 7) (Pre True (Q [[Cl.i (Sp.ocB (Sp.anyF (Sp.psB kQ.xs kP.xs kA sh.xs (Sp.uns sh.xs)) (0 : Nat) ((2 : Nat) ^ List.length (Sp.uns sh.xs))) (Sp.allF (Sp.psB kQ.xs kP.xs kA sh.xs (Sp.uns sh.xs)) (0 : Nat) ((2 : Nat) ^ List.length (Sp.uns sh.xs))))], [Cl.i 0]]))) (Vif (!decide (Sp.askE kQ.xs kP.xs kA sh.xs = 0)) (Q [[Cl.i 0], [Cl.i (Sp.askE kQ.xs kP.xs kA sh.xs)]]) ((16 : Nat) = 16 + 1))
theorem Xmh (W : InW) (kQ kP kA sh Q) : Ywt (cxT Try.prog TT T62 1000 50) 1000 23 [.agg [.rs _ kQ, .rs _ kP, .si .i64 kA], .rs _ sh] [] 0 (Y02 [(false, [.int .i64]), (false, [.int .i64])] Q) (fun _ _ _ _ => Stuck 421) = Xdo kQ kP kA sh Q := by kernel_rfl
abbrev Xb9 : List AT := [.agg [.sl Iv5, .sl Jc, .int .i64], .one (.sl Jb)]
theorem Xn8 {pre : DS -> Prop} {res : DS -> DS} (hyp_ : ∀ (W : InW) (kQ : Ro Iv5) (kP : Ro Jc) (kA : Int) (sh : Ro Jb), pre [[.l kQ.xs, .l kP.xs, .i kA], [.l sh.xs]] -> ∀ Q : DS -> Prop, Q (res [[.l kQ.xs, .l kP.xs, .i kA], [.l sh.xs]]) -> Xdo kQ kP kA sh Q) : PureOk Try.prog 23 Xb9 [(false, [.int .i64]), (false, [.int .i64])] pre res :=
 PureOk.of' (fun W => @TT W) (fun W => @Xe W) Xa T62 1000 50 fun W kQ kP kA sh hp =>
  (Xmh W kQ kP kA sh (fun o => o = res [[.l kQ.xs, .l kP.xs, .i kA], [.l sh.xs]])).mpr (hyp_ W kQ kP kA sh hp _ rfl)
namespace Sp
def mk1 (d : Dt) (k : Nat) : Bool := decide (bx d k = 1)
theorem ansD_pos (d : Dt) : ∀ n i a, 0 <= a -> ansD d i n a = anyF (mk1 d) i n
 | 0, _, _, _ => rfl
 | n + 1, i, a, h => by
  simp only [ansD, anyF, mk1]
  by_cases e : bx d i = 1
  ·simp [e, h]
  ·simp [e]; exact ansD_pos d n (i + 1) a h
theorem ansL_none (d : Dt) : ∀ n i a, anyF (mk1 d) i n = false -> ansL d i n a = a
 | 0, _, _, _ => rfl
 | n + 1, i, a, h => by
  simp only [anyF, Bool.or_eq_false_iff, mk1, decide_eq_false_iff_not] at h;simp only [ansL, if_neg h.1];exact ansL_none d n (i + 1) a h.2
theorem ansD_neg (d : Dt) : ∀ n i, ansD d i n (-1) = (anyF (mk1 d) i n && anyF (mk1 d) (fstF (mk1 d) i n + 1) (i + n - (fstF (mk1 d) i n + 1)))
 | 0, _ => rfl
 | n + 1, i => by
  by_cases e : bx d i = 1
  ·have e2 : mk1 d i = true := decide_eq_true e;simp only [ansD, anyF, fstF, e, if_true, e2, Bool.true_or, Bool.true_and];rw [if_neg (by decide), ansD_pos d n (i + 1) i (by omega), show i + (n + 1) - (i + 1) = n by omega]
  ·have e2 : mk1 d i = false := decide_eq_false e;simp only [ansD, anyF, fstF, e, if_false, e2, Bool.false_or, Bool.false_eq_true];rw [ansD_neg d n (i + 1), show i + (n + 1) = i + 1 + n by omega]
theorem ansL_neg (d : Dt) : ∀ n i, ansD d i n (-1) = false -> anyF (mk1 d) i n = true -> ansL d i n (-1) = fstF (mk1 d) i n
 | 0, _, _, h => by simp [anyF] at h
 | n + 1, i, h, h2 => by
  by_cases e : bx d i = 1
  ·have e2 : mk1 d i = true := decide_eq_true e;simp only [ansD, e, if_true] at h;rw [if_neg (by decide), ansD_pos d n (i + 1) i (by omega)] at h;simp only [ansL, e, if_true, fstF, e2];exact ansL_none d n (i + 1) i h
  ·have e2 : mk1 d i = false := decide_eq_false e;simp only [ansD, e, if_false] at h;simp only [anyF, e2, Bool.false_or] at h2;simp only [ansL, e, if_false, fstF, e2, Bool.false_eq_true];exact ansL_neg d n (i + 1) h h2
theorem anyF_shift (g : Nat -> Bool) (s : Nat) : ∀ n i, anyF (fun k => g (s + k)) i n = anyF g (s + i) n
 | 0, _ => rfl
 | n + 1, i => by simp only [anyF, anyF_shift g s n (i + 1), Nat.add_assoc]
theorem eqI_mk1 (d : Dt) : eqI d 1 = mk1 d := by
 funext k
 unfold eqI mk1 bx num;exact decide_eq_decide.2 ⟨fun h => h.symm, fun h => h.symm⟩
theorem idxOf_ge (d : Dt) : (0 <= idxOf d 1) ↔ anyF (mk1 d) 0 d.length = true := by
 unfold idxOf;rw [eqI_mk1]
 split
 ·rename_i h; exact ⟨fun _ => h, fun _ => by omega⟩
 ·rename_i h; exact ⟨fun c => by omega, fun c => absurd c h⟩
theorem ansX_of (d : Dt) : ansX d = ansOf d := by
 unfold ansX ansOf;rw [ansD_neg]
 by_cases h : anyF (mk1 d) 0 d.length = true
 ·have hi : idxOf d 1 = (fstF (mk1 d) 0 d.length : Nat) := by unfold idxOf; rw [eqI_mk1, if_pos h]
  have hf := fstF_spec h;have e1 : (idxOf d 1 + 1).toNat = fstF (mk1 d) 0 d.length + 1 := by rw [hi]; omega
  have e2 : (0 <= idxOf (d.drop (fstF (mk1 d) 0 d.length + 1)) 1) ↔ anyF (mk1 d) (fstF (mk1 d) 0 d.length + 1) (0 + d.length - (fstF (mk1 d) 0 d.length + 1)) = true := by
   rw [idxOf_ge, List.length_drop, Nat.zero_add];have : mk1 (d.drop (fstF (mk1 d) 0 d.length + 1)) = fun k => mk1 d (fstF (mk1 d) 0 d.length + 1 + k) := by
    funext k
    unfold mk1 bx cel;simp only [List.getD_eq_getElem?_getD, List.getElem?_drop]
   rw [this, anyF_shift, Nat.add_zero]
  rw [h, Bool.true_and]
  by_cases c : anyF (mk1 d) (fstF (mk1 d) 0 d.length + 1) (0 + d.length - (fstF (mk1 d) 0 d.length + 1)) = true
  ·rw [if_pos ⟨by omega, by rw [e1]; exact e2.2 c⟩, if_pos c]
  ·rw [if_neg (fun x => c (e2.1 (by rw [e1] at x; exact x.2))), if_neg c];have hL := ansL_neg d d.length 0 (by rw [ansD_neg, h, Bool.true_and]; simpa using c) h;rw [hL, hi]
 ·have h0 : anyF (mk1 d) 0 d.length = false := by simpa using h
  have hn : ¬ 0 <= idxOf d 1 := fun c => h ((idxOf_ge d).1 c);rw [if_neg (fun x => hn x.1), h0, Bool.false_and, if_neg (by decide), ansL_none d _ _ _ h0];unfold idxOf;rw [eqI_mk1, if_neg h]
theorem bit7 : ∀ b : Fin 128, ∀ i : Fin 7, bitV (b.val : Int) (i.val : Int) = ((b.val / 2 ^ i.val % 2 : Nat) : Int) := by decide +kernel
theorem bit_of {b i : Nat} (hb : b < 128) (hi : i < 7) : bitV (b : Int) (i : Int) = ((b / 2 ^ i % 2 : Nat) : Int) := bit7 ⟨b, hb⟩ ⟨i, hi⟩
def itW : List (Nat × Nat) -> Nat -> Dt -> Dt
 | [], _, s => s
 | p :: ps, b, s => itW ps (b / 2) (withD s p.1 p.2 ((b % 2 : Nat) : Int))
theorem rds_it : ∀ (ps : List (Nat × Nat)) (sh r : Dt), pos sh = ps -> (r ∈ rds sh ↔ ∃ b, b < 2 ^ ps.length /\ r = itW ps b sh)
 | [], sh, r, h => by
  rw [rds_nil h, List.mem_singleton];exact ⟨fun e => ⟨0, by simp, e⟩, fun ⟨_, _, e⟩ => e⟩
 | p :: ps, sh, r, h => by
  have h0 := rds_it ps (withD sh p.1 p.2 0) r (pos_with_tl (by decide) h);have h1 := rds_it ps (withD sh p.1 p.2 1) r (pos_with_tl (by decide) h);rw [rds_cons h, List.mem_append, h0, h1, List.length_cons, Nat.pow_succ];constructor
  ·rintro (⟨b, hb, e⟩ | ⟨b, hb, e⟩)
   ·refine ⟨2 * b, by omega, ?_⟩;simp only [itW];rw [show 2 * b / 2 = b by omega, show 2 * b % 2 = 0 by omega];exact e
   ·refine ⟨2 * b + 1, by omega, ?_⟩;simp only [itW];rw [show (2 * b + 1) / 2 = b by omega, show (2 * b + 1) % 2 = 1 by omega];exact e
  ·rintro ⟨b, hb, e⟩;simp only [itW] at e;rcases Nat.mod_two_eq_zero_or_one b with c | c
   ·left; rw [c] at e; exact ⟨b / 2, by omega, e⟩
   ·right; rw [c] at e; exact ⟨b / 2, by omega, e⟩
theorem itW_len : ∀ (ps : List (Nat × Nat)) (b : Nat) (s : Dt), (itW ps b s).length = s.length
 | [], _, _ => rfl
 | p :: ps, b, s => by simp only [itW, itW_len ps, withD_len]
theorem prC_cel (us : List (Nat × Nat)) (i : Nat) (h : i < us.length) : cA (us.map prC) i = us[i].1 /\ cB (us.map prC) i = us[i].2 := by
 unfold cA cB cel;rw [List.getD_eq_getElem?_getD (l := us.map prC), List.getElem?_map, List.getElem?_eq_getElem h];exact ⟨rfl, rfl⟩
theorem ansW_it (us : List (Nat × Nat)) (q b : Nat) (hb : b < 128) (h7 : us.length <= 7) : ∀ n i s, i + n = us.length -> q < s.length -> ansW (us.map prC) q b i n (row s q) = row (itW (us.drop i) (b / 2 ^ i) s) q
 | 0, i, s, hi, hq => by rw [List.drop_eq_nil_of_le (by omega)]; rfl
 | n + 1, i, s, hi, hq => by
  have hlt : i < us.length := by omega
  rw [List.drop_eq_getElem_cons hlt];obtain ⟨c1, c2⟩ := prC_cel us i hlt;simp only [ansW, itW, c1, c2];rw [bit_of hb (by omega), Int.toNat_natCast];have hrow := withD_row s us[i].1 us[i].2 ((b / 2 ^ i % 2 : Nat) : Int) q hq;have e : (if (us[i].1 : Int) = (q : Int) then (row s q).set us[i].2 [.i ((b / 2 ^ i % 2 : Nat) : Int)] else row s q) = row (withD s us[i].1 us[i].2 ((b / 2 ^ i % 2 : Nat) : Int)) q := by
   rw [hrow]
   by_cases c : us[i].1 = q
   ·rw [if_pos (by omega), if_pos c.symm]
   ·rw [if_neg (by omega), if_neg (fun x => c x.symm)]
  rw [e, ansW_it us q b hb h7 n (i + 1) _ (by omega) (by rw [withD_len]; exact hq), Nat.pow_succ, Nat.div_div_eq_div_mul]
theorem rowW_it {sh : Dt} {q b : Nat} (hb : b < 128) (h7 : (pos sh).length <= 7) (hq : q < sh.length) : rowW sh (uns sh) q b = row (itW (pos sh) b sh) q := by
 unfold rowW;rw [uns_pos, List.length_map, Int.toNat_natCast];have := ansW_it (pos sh) q b hb h7 (pos sh).length 0 sh (by omega) hq;rw [List.drop_zero, Nat.pow_zero, Nat.div_one] at this;exact this
def Nums (l : Dt) : Prop := ∀ p, p < l.length -> l.getD p [] = [.i (num l p)]
theorem Nums.set {l : Dt} (h : Nums l) {p : Nat} {v : Int} : Nums (l.set p [.i v]) := fun q hq => by
 rw [List.length_set] at hq
 by_cases e : p = q
 ·subst e;rw [set_getD hq, num_set hq, if_pos rfl]
 ·rw [set_getN e, h q hq]
  congr 2
  unfold num cel;rw [set_getN e]
theorem Nums.same {l : Dt} (h : Nums l) {p : Nat} (hp : p < l.length) : l.set p [.i (num l p)] = l := by
 rw [<- h p hp, List.getD_eq_getElem?_getD, List.getElem?_eq_getElem hp];exact List.set_getElem_self hp
theorem Nums.rep (n : Nat) (v : Int) : Nums (List.replicate n [.i v]) := fun p hp => by
 rw [List.length_replicate] at hp;unfold num cel;simp [List.getElem?_replicate, hp, Cl.int]
theorem ansOf_ge (d : Dt) : -1 <= ansOf d := by
 rw [<- ansX_of];unfold ansX;have := Xhp d 1
 split <;> omega
theorem stW_step {qs sh u r l : Dt} {b : Int} {i : Nat} (h : anW sh u b i = ansOf (row r i)) (hl : Nums l) (hp : (qPart qs i).toNat < l.length) : stW qs sh u b i l = l.set (qPart qs i).toNat [.i (num l (qPart qs i).toNat + ptsQ qs r i)] := by
 have hg := ansOf_ge (row r i);unfold stW ptsQ ptsV;rw [h]
 by_cases c : ansOf (row r i) = qRight qs i
 ·rw [if_pos c, if_pos c]
 ·rw [if_neg c, if_neg c]
  by_cases c2 : ansOf (row r i) = -1
  ·rw [if_pos c2, if_neg (by omega), Int.add_zero, hl.same hp]
  ·rw [if_neg c2, if_pos (by omega)]
   congr 3
   omega
theorem addW_G {qs sh u r : Dt} {b : Int} {np : Nat} (hp : ∀ i, i < qs.length -> (qPart qs i).toNat < np) (h : ∀ i, i < qs.length -> anW sh u b i = ansOf (row r i)) : ∀ n i l, i + n <= qs.length -> Nums l -> l.length = np -> addW qs sh u b i n l = addG qs r i n l
 | 0, _, _, _, _, _ => rfl
 | n + 1, i, l, hi, hl, hn => by
  simp only [addW, addG];rw [stW_step (h i (by omega)) hl (by rw [hn]; exact hp i (by omega))];exact addW_G hp h n (i + 1) _ (by omega) hl.set (by rw [List.length_set]; exact hn)
theorem mkW_it {qs ps sh : Dt} {all : Int} {b : Nat} (hk : KeyOk qs ps all) (hn : sh.length = qs.length) (h7 : (pos sh).length <= 7) (hb : b < 2 ^ (pos sh).length) : mkW qs ps sh (uns sh) b = mk qs ps (itW (pos sh) b sh) := by
 have hb2 : b < 128 := Nat.lt_of_lt_of_le hb (Nat.le_trans (Nat.pow_le_pow_right (by decide) h7) (by decide));unfold mkW mk;rw [itW_len, hn];refine addW_G (np := ps.length) (fun i hi => by have := hk.part i hi; omega) (fun i hi => ?_) _ _ _ (by omega) (Nums.rep _ _) (by simp);unfold anW;rw [rowW_it hb2 h7 (by omega), ansX_of]
theorem psW_it {qs ps sh : Dt} {all : Int} {b : Nat} (hk : KeyOk qs ps all) (hn : sh.length = qs.length) (h7 : (pos sh).length <= 7) (hb : b < 2 ^ (pos sh).length) : psW qs ps all sh (uns sh) b = psS qs ps all (itW (pos sh) b sh) := by
 unfold psW psS;rw [mkW_it hk hn h7 hb]
theorem rds_ix {sh r : Dt} : r ∈ rds sh ↔ ∃ k, k < (rdD sh).length /\ row (rdD sh) k = r := by
 constructor
 ·intro h;obtain ⟨k, hk, e⟩ := List.mem_iff_getElem.1 h;have hk2 : k < (rdD sh).length := by unfold rdD; simpa using hk
  obtain ⟨h2, e2⟩ := rdD_row hk2;exact ⟨k, hk2, e2.trans e⟩
 ·rintro ⟨k, hk, e⟩;obtain ⟨h2, e2⟩ := rdD_row hk;rw [<- e, e2];exact List.getElem_mem h2
theorem any_rds {sh : Dt} (f : Dt -> Bool) : (∃ k, k < (rdD sh).length /\ f (row (rdD sh) k) = true) ↔ ∃ b, b < 2 ^ (pos sh).length /\ f (itW (pos sh) b sh) = true := by
 constructor
 ·rintro ⟨k, hk, h⟩;obtain ⟨b, hb, e⟩ := (rds_it _ sh _ rfl).1 (rds_ix.2 ⟨k, hk, rfl⟩);exact ⟨b, hb, by rw [<- e]; exact h⟩
 ·rintro ⟨b, hb, h⟩;obtain ⟨k, hk, e⟩ := rds_ix.1 ((rds_it _ sh _ rfl).2 ⟨b, hb, rfl⟩);exact ⟨k, hk, by rw [e]; exact h⟩
theorem anyF_0 {f : Nat -> Bool} {n : Nat} : anyF f 0 n = true ↔ ∃ k, k < n /\ f k = true := by
 rw [anyF_iff];exact ⟨fun ⟨k, _, h, e⟩ => ⟨k, by omega, e⟩, fun ⟨k, h, e⟩ => ⟨k, by omega, by omega, e⟩⟩
theorem allF_0 {f : Nat -> Bool} {n : Nat} : allF f 0 n = true ↔ ∀ k, k < n -> f k = true := by
 rw [allF_iff];exact ⟨fun h k hk => h k (by omega) (by omega), fun h k _ hk => h k (by omega)⟩
theorem bool_iff {a b : Bool} (h : a = true ↔ b = true) : a = b := by cases a <;> cases b <;> simp_all
theorem anyF_rds {sh : Dt} {f : Dt -> Bool} {g : Nat -> Bool} (h : ∀ b, b < 2 ^ (pos sh).length -> g b = f (itW (pos sh) b sh)) : anyF g 0 (2 ^ (uns sh).length) = anyF (fun k => f (row (rdD sh) k)) 0 (rdD sh).length := by
 refine bool_iff ?_;rw [anyF_0, anyF_0, any_rds, uns_len];exact ⟨fun ⟨b, hb, e⟩ => ⟨b, hb, by rw [<- h b hb]; exact e⟩, fun ⟨b, hb, e⟩ => ⟨b, hb, by rw [h b hb]; exact e⟩⟩
theorem allF_rds {sh : Dt} {f : Dt -> Bool} {g : Nat -> Bool} (h : ∀ b, b < 2 ^ (pos sh).length -> g b = f (itW (pos sh) b sh)) : allF g 0 (2 ^ (uns sh).length) = allF (fun k => f (row (rdD sh) k)) 0 (rdD sh).length := by
 refine bool_iff ?_;rw [allF_0, allF_0, uns_len];have := any_rds (sh := sh) fun r => !f r;constructor
 ·intro h1 k hk;cases e : f (row (rdD sh) k) with
  | true => rfl
  | false =>
   obtain ⟨b, hb, c⟩ := this.1 ⟨k, hk, by rw [e]; rfl⟩;rw [<- h b hb, h1 b hb] at c;cases c
 ·intro h1 b hb;rw [h b hb];cases e : f (itW (pos sh) b sh) with
  | true => rfl
  | false =>
   obtain ⟨k, hk, c⟩ := this.2 ⟨b, hb, by rw [e]; rfl⟩;rw [h1 k hk] at c;cases c
theorem ocV_bits {qs ps sh : Dt} {all : Int} (hk : KeyOk qs ps all) (hs : ShOk qs sh) : ocB (anyF (psB qs ps all sh (uns sh)) 0 (2 ^ (uns sh).length)) (allF (psB qs ps all sh (uns sh)) 0 (2 ^ (uns sh).length)) = ocV qs ps all sh := by
 have h7 := hs.seven;rw [uns_len] at h7;have h := fun b (hb : b < 2 ^ (pos sh).length) => psW_it (ps := ps) (all := all) hk hs.n h7 hb;rw [anyF_rds (f := psS qs ps all) (g := psB qs ps all sh (uns sh)) h, allF_rds (f := psS qs ps all) (g := psB qs ps all sh (uns sh)) h];rfl
theorem ShOk.se {qs sh : Dt} (h : ShOk qs sh) {ps : Dt} {all : Int} (hk : KeyOk qs ps all) : SeOk qs sh (uns sh) := by
 have h7 := h.seven;refine ⟨h.n, by omega, fun q hq => ⟨by omega, ?_, fun i hi e => ?_⟩⟩
 ·have := (h.toShapeOk.few hk).2 q hq; omega
 ·obtain ⟨p, hp, e1, e2⟩ := uns_cel hi;have hm := mem_pos.1 hp;unfold cA at e;unfold cB;rw [e1] at e;rw [e2];have : p.1 = q := by omega
  subst this;omega
end Sp
theorem Xpb : PureOk Try.prog 19 Xca [(false, [.row 3 Jc]), (false, [.bool]), (false, [.int .i64])] (fun _ => True) Xdb :=
 Xn9 fun W qs ps all sh hp Q h => by
  unfold Xdp;delta Zb;simp only [Xdb, Sp.markR, Sp.markB] at h
  by_cases e : Sp.askE qs.xs ps.xs all sh.xs = 0
  ·obtain ⟨hk, hs⟩ := Sp.askE_ok e;have hse := hs.se hk
   by_cases e2 : (Sp.uns sh.xs).length = 0
   ·have e3 : Sp.markE qs.xs ps.xs all sh.xs = 0 := by unfold Sp.markE; rw [if_pos e, if_pos e2]
    rw [if_pos e3, if_pos e3, e3] at h;have hp0 : Sp.pos sh.xs = [] := List.length_eq_zero_iff.1 (by rw [<- Sp.uns_len]; exact e2);have hm := Sp.mkW_it (b := 0) (ps := ps.xs) hk hs.n (by rw [hp0]; simp) (by rw [hp0]; simp);have hm : Sp.mkW qs.xs ps.xs sh.xs (Sp.uns sh.xs) 0 = Sp.mk qs.xs ps.xs sh.xs := by rw [hp0] at hm; exact hm
    refine vifd (fun _ => vifd (fun c => by omega) fun _ => ⟨⟨by omega, hk, hse⟩, ⟨⟨by omega, hk, hse⟩, ?_⟩⟩) fun c => absurd e c;unfold Sp.psW;rw [hm];exact h
   ·have e3 : Sp.markE qs.xs ps.xs all sh.xs = 2 := by unfold Sp.markE; rw [if_pos e, if_neg e2]
    rw [if_neg (by omega), if_neg (by omega), e3] at h;exact vifd (fun _ => vifd (fun c => h) fun c => by omega) fun c => absurd e c
  ·have e3 : Sp.markE qs.xs ps.xs all sh.xs = Sp.askE qs.xs ps.xs all sh.xs := by unfold Sp.markE; rw [if_neg e]
   rw [if_neg (by omega), if_neg (by omega), e3] at h;exact vifd (fun c => absurd c e) fun _ => vifn (fun _ => h) fun c => absurd c e
def Xmt : PC Try.prog := ⟨19, Xca, [(false, [.row 3 Jc]), (false, [.bool]), (false, [.int .i64])], fun _ => True, Xdb, Xpb⟩
theorem Xpa : PureOk Try.prog 23 Xb9 [(false, [.int .i64]), (false, [.int .i64])] (fun _ => True) Xda :=
 Xn8 fun W qs ps all sh hp Q h => by
  unfold Xdo;simp only [Xda, Sp.ocA] at h;refine vifd (fun e => ?_) fun e => vifn (fun _ => ?_) fun c => absurd c e
  ·obtain ⟨hk, hs⟩ := Sp.askE_ok e;rw [if_pos e, e] at h;rw [Sp.ocV_bits hk hs];exact ⟨⟨hk, hs.se hk, hs.seven⟩, trivial, h⟩
  ·rw [if_neg e] at h; exact h
def Xms : PC Try.prog := ⟨23, Xb9, [(false, [.int .i64]), (false, [.int .i64])], fun _ => True, Xda, Xpa⟩
namespace Sp
def xorB (k ix : Int) : Int := xorI .i64 k ((1 : Int) * 2 ^ min ix.toNat 64)
def dcB (qs ps : Dt) (all : Int) (sh u : Dt) (ix : Int) (k : Nat) : Bool := !(psW qs ps all sh u k == psW qs ps all sh u (xorB k ix))
theorem xor7 : ∀ k : Fin 128, ∀ i : Fin 7, xorI .i64 (k.val : Int) ((1 : Int) * 2 ^ min ((i.val : Nat) : Int).toNat 64) = ((if k.val / 2 ^ i.val % 2 = 0 then k.val + 2 ^ i.val else k.val - 2 ^ i.val : Nat) : Int) := by decide +kernel
def flip (k i : Nat) : Nat := if k / 2 ^ i % 2 = 0 then k + 2 ^ i else k - 2 ^ i
theorem xor_of {k i : Nat} (hk : k < 128) (hi : i < 7) : xorB (k : Int) (i : Int) = (flip k i : Nat) := xor7 ⟨k, hk⟩ ⟨i, hi⟩
theorem xor_ge {k ix : Int} (h0 : 0 <= k) (h1 : k < 128) (h2 : 0 <= ix) (h3 : ix < 7) : 0 <= xorB k ix := by
 have := xor_of (k := k.toNat) (i := ix.toNat) (by omega) (by omega);rw [Int.toNat_of_nonneg h0, Int.toNat_of_nonneg h2] at this;rw [this]; omega
end Sp
def Xe0 [InW] (e : List Ed) (K : Nat -> List Ed -> Prop) : Prop := match e with
 | [.i n, .i i, .ro _ qs, .ro _ ps, .i all, .ro _ sh, .l u, .i ix, .b so, .b al] => Pre (0 <= i /\ i <= n /\ n <= 128 /\ Sp.KeyOk qs.xs ps.xs all /\ Sp.SeOk qs.xs sh.xs u /\ 0 <= ix /\ ix < 7) (K 0 [.ro _ qs, .ro _ ps, .i all, .ro _ sh, .l u, .i ix, .b (so || Sp.anyF (Sp.dcB qs.xs ps.xs all sh.xs u ix) i.toNat (n - i).toNat), .b (al && Sp.allF (Sp.dcB qs.xs ps.xs all sh.xs u ix) i.toNat (n - i).toNat)])
 | _ => False
def Xg0 : LC where
 len := 18
 T := [(0, (.yl 1)), (1, (.ptr 10 0)), (9, .int .i64), (10, .int .i64)]
 H := [(1, .lp LPth [(.opq 1501), (.opq 1504), (.opq 1507), (.opq 1510), (.ptr 13 0), (.ptr 16 0), (.ptr 19 0), (.opq 318), (.opq 321), (.opq 1528), (.opq 327), (.opq 330), (.opq 333), (.opq 336), (.opq 339), (.opq 342), (.opq 345), (.opq 348), (.opq 351), (.opq 354), (.opq 357), (.opq 360), (.opq 1567), (.opq 1570)]), (10, .blk 85 [(.ptr 4 0)]), (4, .blk 89 [.rs Iv5, .rs Jc, .int .i64, .rs Jb, (.row 7)]), (7, .arr 44 Ja), (13, .blk 84 [(.fn (.func 66) [] [(.ptr 25 0), (.ptr 22 0)])]), (25, .blk 85 [(.ptr 4 0)]), (22, .blk 3 [.int .i64]), (16, .blk 4 [.bool]), (19, .blk 4 [.bool])]
 W := ([3] ++ rg 11 7)
 outs := [⟨.exit 0, [], [(1, .lp LPth [(.opq 1501), (.opq 1504), (.opq 1507), (.opq 1510), (.ptr 13 0), (.ptr 16 0), (.ptr 19 0), (.opq 618), (.opq 621), (.opq 1528), (.opq 627), (.opq 630), (.opq 633), (.opq 636), (.opq 639), (.opq 642), (.opq 645), (.opq 648), (.opq 651), (.opq 654), (.opq 657), (.opq 660), (.opq 1567), (.opq 1570)]), (618, .dead), (621, .dead), (627, .dead), (630, .dead), (633, .dead), (636, .dead), (639, .dead), (642, .dead), (645, .dead), (648, .dead), (651, .dead), (654, .dead), (657, .dead), (660, .dead), (10, .blk 85 [(.ptr 4 0)]), (4, .blk 89 [.rs Iv5, .rs Jc, .int .i64, .rs Jb, (.row 7)]), (7, .arr 44 Ja), (13, .blk 84 [(.fn (.func 66) [] [(.ptr 25 0), (.ptr 22 0)])]), (25, .blk 85 [(.ptr 4 0)]), (22, .blk 3 [.int .i64]), (16, .blk 4 [.bool]), (19, .blk 4 [.bool])], ([0, 1, 3] ++ rg 9 9)⟩]
 spec := Xe0
def Xdz [W : InW] (n i : Int) (qs : Ro Iv5) (ps : Ro Jc) (all : Int) (sh : Ro Jb) (u : Dt) (ix : Int) (so al : Bool) (A : List Ed -> Prop) (K : Nat -> List Ed -> Prop) : Prop :=
 Vif (decide (i < n)) (Pre (0 <= i /\ Sp.KeyOk qs.xs ps.xs all /\ Sp.SeOk qs.xs sh.xs u) (Need (decide (0 <= ix)) (Ar .i64 ((1 : Int) * 2 ^ min ix.toNat (64 : Nat)) fun z => Pre ((0 : Int) <= xorI IntKind.i64 i z /\ Sp.KeyOk qs.xs ps.xs all /\ Sp.SeOk qs.xs sh.xs u) (Vif so (Vif al (Ar .i64 (i + 1) fun z_1 => PreL LPth LPth (A [.i n, .i z_1, .ro _ qs, .ro _ ps, .i all, .ro Zdz sh, .l u, .i ix, .b true, .b !Sp.psW qs.xs ps.xs all sh.xs u i == Sp.psW qs.xs ps.xs all sh.xs u (xorI IntKind.i64 i z)])) (Ar .i64 (i + 1) fun z => PreL LPth LPth (A [.i n, .i z, .ro _ qs, .ro _ ps, .i all, .ro Zdz sh, .l u, .i ix, .b true, .b false]))) (Vif al (Ar .i64 (i + 1) fun z_1 => PreL LPth LPth (A [.i n, .i z_1, .ro _ qs, .ro _ ps, .i all, .ro Zdz sh, .l u, .i ix, .b !Sp.psW qs.xs ps.xs all sh.xs u i == Sp.psW qs.xs ps.xs all sh.xs u (xorI IntKind.i64 i z), .b !Sp.psW qs.xs ps.xs all sh.xs u i == Sp.psW qs.xs ps.xs all sh.xs u (xorI IntKind.i64 i z)])) (Ar .i64 (i + 1) fun z_1 => PreL LPth LPth (A [.i n, .i z_1, .ro _ qs, .ro _ ps, .i all, .ro Zdz sh, .l u, .i ix, .b !Sp.psW qs.xs ps.xs all sh.xs u i == Sp.psW qs.xs ps.xs all sh.xs u (xorI IntKind.i64 i z), .b false]))))))) (PreL LPth LPth (K 0 [.ro _ qs, .ro _ ps, .i all, .ro Zdz sh, .l u, .i ix, .b so, .b al]))
theorem Xlg (W : InW) (n i qs ps all sh u ix so al A K) : Yfc { cxT Try.prog TT T60 1000 50 with fn := 83 } 1000 (Yn7 Try.prog 83 2) (Yd6 18 [(0, .yl 1), (1, .ptr 10 0), (9, .si .i64 n), (10, .si .i64 i)] ([3] ++ rg 11 7)) [(1, .lp LPth [.opq 1501, .opq 1504, .opq 1507, .opq 1510, .ptr 13 0, .ptr 16 0, .ptr 19 0, .opq 318, .opq 321, .opq 1528, .opq 327, .opq 330, .opq 333, .opq 336, .opq 339, .opq 342, .opq 345, .opq 348, .opq 351, .opq 354, .opq 357, .opq 360, .opq 1567, .opq 1570]), (10, .blk 85 [.ptr 4 0]), (4, .blk 89 [.rs _ qs, .rs _ ps, .si .i64 all, .rs _ sh, .rw 7]), (7, .arr 44 Ja u), (13, .blk 84 [.fn (.func 66) [] [.ptr 25 0, .ptr 22 0]]), (25, .blk 85 [.ptr 4 0]), (22, .blk 3 [.si .i64 ix]), (16, .blk 4 [.sb so]), (19, .blk 4 [.sb al])] (Yuf Xg0 A K) = Xdz n i qs ps all sh u ix so al A K := by kernel_rfl
def Xf5 : Prop := ∀ (W : InW) (body a : Code), (Try.prog.funcs[83]?).bind (·.body) = some body -> a ∈ Yy body -> Yfw a = 2 -> @Ymq W Try.prog a (@Ytn W Xg0)
theorem Xm6 (meas : [InW] -> List Ed -> Nat) (hyp_ : ∀ (W : InW) n i qs ps all sh u ix so al K, Xe0 [.i n, .i i, .ro _ qs, .ro _ ps, .i all, .ro _ sh, .l u, .i ix, .b so, .b al] K -> ∀ A : List Ed -> Prop, (∀ e, meas e < meas [.i n, .i i, .ro _ qs, .ro _ ps, .i all, .ro _ sh, .l u, .i ix, .b so, .b al] -> Xe0 e K -> A e) -> Xdz n i qs ps all sh u ix so al A K) : Xf5 :=
 LE.okOf' (fun W => @TT W) (fun W => @Xe W) Xa T60 1000 50 (by kernel_rfl) Xg0 (fun W => @meas W) fun W n i qs ps all sh u ix so al K hs =>
  (Xlg W n i qs ps all sh u ix so al (fun e => meas e < meas [.i n, .i i, .ro _ qs, .ro _ ps, .i all, .ro _ sh, .l u, .i ix, .b so, .b al] /\ Xe0 e K) K).mpr (hyp_ W n i qs ps all sh u ix so al K hs _ fun e h1 h2 => ⟨h1, h2⟩)
theorem Xpu : Xf5 := Xm6 (fun e => match e with | .i n :: .i i :: _ => (n - i).toNat | _ => 0) fun W n i qs ps all sh u ix so al K hs A hA => by
 obtain ⟨⟨h0, h1, h2, hkey, hse, h3, h4⟩, hk⟩ := hs;unfold Xdz;delta Zdz;have ez : (i + 1).toNat = i.toNat + 1 := by omega
 have ei : ((i.toNat : Nat) : Int) = i := Int.toNat_of_nonneg h0
 by_cases hi : i < n
 ·have hx := Sp.xor_ge (k := i) (ix := ix) h0 (by omega) h3 h4;obtain ⟨p1, p2, p3⟩ := Xo (n := ix.toNat) (by omega);rw [Int.toNat_of_nonneg h3] at p1;rw [show (n - i).toNat = (n - (i + 1)).toNat + 1 by omega] at hk;have hA' : ∀ c d, c = (so || !(Sp.psW qs.xs ps.xs all sh.xs u i == Sp.psW qs.xs ps.xs all sh.xs u (Sp.xorB i ix))) -> d = (al && !(Sp.psW qs.xs ps.xs all sh.xs u i == Sp.psW qs.xs ps.xs all sh.xs u (Sp.xorB i ix))) -> A [.i n, .i (i + 1), .ro _ qs, .ro _ ps, .i all, .ro _ sh, .l u, .i ix, .b c, .b d] := fun c d hc hd => hA _ (show (n - (i + 1)).toNat < (n - i).toNat by omega) ⟨⟨by omega, by omega, h2, hkey, hse, h3, h4⟩, by
   simp only [Sp.anyF, Sp.allF, Sp.dcB, ei] at hk;rw [ez, hc, hd, Bool.or_assoc, Bool.and_assoc];exact hk⟩
  clear hA hk;unfold Sp.xorB at hA' hx;rw [p1] at hA' hx ⊢;have p4 : 1 <= ((2 ^ ix.toNat : Nat) : Int) /\ ((2 ^ ix.toNat : Nat) : Int) <= 128 := by omega
  generalize ((2 ^ ix.toNat : Nat) : Int) = z at *
  repeat' (first | (with_reducible refine Xb ⟨h0, hkey, hse⟩ ?_) | (with_reducible refine Xb ⟨hx, hkey, hse⟩ ?_) | omega|intro _|with_reducible first|apply vifd|apply vifn|apply vifq|apply Xd|apply Xc|apply vifb|apply vif|apply nedd|apply ned2|apply ned|apply ar64|apply Xb|exact True.intro|assumption|rfl|apply And.intro)
  all_goals first | contradiction | (refine ⟨rfl, ?_⟩; refine hA' _ _ ?_ ?_ <;> simp [*]; done) | skip
 ·rw [show (n - i).toNat = 0 by omega] at hk;simp only [Sp.allF, Sp.anyF, Bool.and_true, Bool.or_false] at hk;clear hA
  repeat' (first | omega|intro _|with_reducible first|apply vifd|apply vifn|apply vifq|apply Xd|apply Xc|apply vifb|apply vif|apply nedd|apply ned2|apply ned|apply ar64|apply Xb|exact True.intro|assumption|rfl|apply And.intro)
  all_goals exact ⟨rfl, hk⟩
def Xqt : LE Try.prog := ⟨83, 2, fun W => @Ytn W Xg0, Xpu⟩
def T63 : Tab Try.prog := ⟨[], [Xqt], []⟩
def Xhz [InW] (e : List Ed) (K : Nat -> List Ed -> Prop) : Prop := match e with
 | [.ro _ qs, .ro _ ps, .i all, .ro _ sh, .l u, .i ix] => Pre (Sp.KeyOk qs.xs ps.xs all /\ Sp.SeOk qs.xs sh.xs u /\ u.length <= 7 /\ 0 <= ix /\ ix < 7) (K 0 [.b (Sp.anyF (Sp.dcB qs.xs ps.xs all sh.xs u ix) 0 (2 ^ u.length)), .b (Sp.allF (Sp.dcB qs.xs ps.xs all sh.xs u ix) 0 (2 ^ u.length)), .ro _ qs, .ro _ ps, .i all, .ro _ sh, .l u, .i ix])
 | _ => False
def Xl : CC where
 g := 60
 args := [(.fn (.func 83) [] [(.ptr 10 0)]), (.fn (.func 66) [] [(.ptr 25 0), (.ptr 22 0)])]
 H := [(10, .blk 85 [(.ptr 4 0)]), (4, .blk 89 [.rs Iv5, .rs Jc, .int .i64, .rs Jb, (.row 7)]), (7, .arr 44 Ja), (25, .blk 85 [(.ptr 4 0)]), (22, .blk 3 [.int .i64])]
 outs := [⟨false, .tup [.bool, .bool], [(10, .blk 85 [(.ptr 4 0)]), (4, .blk 89 [.rs Iv5, .rs Jc, .int .i64, .rs Jb, (.row 7)]), (7, .arr 44 Ja), (25, .blk 85 [(.ptr 4 0)]), (22, .blk 3 [.int .i64])], false⟩]
 spec := Xhz
def Xcq [W : InW] (qs : Ro Iv5) (ps : Ro Jc) (all : Int) (sh : Ro Jb) (u : Dt) (ix : Int) (K : Nat -> List Ed -> Prop) : Prop :=
 Need (decide ((0 : Int) <= (↑(u.length) : Int))) (Ar .i64 ((1 : Int) * 2 ^ min (↑(u.length) : Int).toNat (64 : Nat)) fun z => PreL LPth LPth (Pre ((0 : Int) <= 0 /\ 0 <= z /\ z <= 128 /\ Sp.KeyOk qs.xs ps.xs all /\ Sp.SeOk qs.xs sh.xs u /\ 0 <= ix /\ ix < 7) (K 0 [.b (false || Sp.anyF (Sp.dcB qs.xs ps.xs all sh.xs u ix) Za (z - 0).toNat), .b (true && Sp.allF (Sp.dcB qs.xs ps.xs all sh.xs u ix) Za (z - 0).toNat), .ro _ qs, .ro _ ps, .i all, .ro Zdz sh, .l u, .i ix])))
theorem Xjj (W : InW) (qs ps all sh u ix K) : Ywq (cxT Try.prog TT T63 1000 50) 1000 60 [.fn (.func 83) [] [.ptr 10 0], .fn (.func 66) [] [.ptr 25 0, .ptr 22 0]] [(10, .blk 85 [.ptr 4 0]), (4, .blk 89 [.rs _ qs, .rs _ ps, .si .i64 all, .rs _ sh, .rw 7]), (7, .arr 44 Ja u), (25, .blk 85 [.ptr 4 0]), (22, .blk 3 [.si .i64 ix])] (fun v h => outC Xl.H [.ro _ qs, .ro _ ps, .i all, .ro _ sh, .l u, .i ix] Xl.outs 0 false v h K) (fun v h => outC Xl.H [.ro _ qs, .ro _ ps, .i all, .ro _ sh, .l u, .i ix] Xl.outs 0 true v h K) = Xcq qs ps all sh u ix K := by kernel_rfl
theorem Xkd (hyp_ : ∀ (W : InW) qs ps all sh u ix K, Xhz [.ro _ qs, .ro _ ps, .i all, .ro _ sh, .l u, .i ix] K -> Xcq qs ps all sh u ix K) : ∀ W : InW, @CallC W Try.prog Xl :=
 CC.okOf (fun W => @TT W) (fun W => @Xe W) Xa T63 1000 50 Xl fun W qs ps all sh u ix K hs => (Xjj W qs ps all sh u ix K).mpr (hyp_ W qs ps all sh u ix K hs)
theorem Xoi : ∀ W : InW, @CallC W Try.prog Xl := Xkd fun W qs ps all sh u ix K hs => by
 obtain ⟨⟨hkey, hse, h7, h3, h4⟩, hk⟩ := hs;unfold Xcq;delta Za Zdz Zb;obtain ⟨p1, p2, p3⟩ := Xo h7;rw [p1];simp only [show Int.toNat 0 = 0 from rfl, Int.sub_zero, Bool.true_and, Bool.false_or];refine nedd (by omega) (ar64 (by omega) ⟨rfl, ⟨by omega, by omega, by omega, hkey, hse, h3, h4⟩, ?_⟩);rw [Int.toNat_natCast];exact hk
namespace Sp
def dcW (qs ps : Dt) (all : Int) (sh u : Dt) : Nat -> Nat -> Dt
 | _, 0 => []
 | i, n + 1 => (if anyF (dcB qs ps all sh u i) 0 (2 ^ u.length) = true then [[.i (cA u i), .i (cB u i)]] else []) ++ dcW qs ps all sh u (i + 1) n
end Sp
def T64 : Tab Try.prog := ⟨[], [], [ceOf Xl Xoi]⟩
def Xfd [InW] (e : List Ed) (K : Nat -> List Ed -> Prop) : Prop := match e with
 | [.i n, .i i, .ro _ qs, .ro _ ps, .i all, .ro _ sh, .l u, .l l] => Pre (n = u.length /\ 0 <= i /\ i <= u.length /\ Sp.KeyOk qs.xs ps.xs all /\ Sp.SeOk qs.xs sh.xs u /\ u.length <= 7 /\ l.length <= i) (K 0 [.l (l ++ Sp.dcW qs.xs ps.xs all sh.xs u i.toNat (u.length - i.toNat))])
 | _ => False
def Xhd : LC where
 len := 46
 T := [(4, (.row 3)), (6, (.ptr 25 0)), (24, (.row 7)), (25, .int .i64), (26, .int .i64)]
 H := [(25, .blk 85 [(.ptr 4 0)]), (4, .blk 89 [.rs Iv5, .rs Jc, .int .i64, .rs Jb, (.row 7)]), (7, .arr 44 Ja), (3, .arr 44 Ja)]
 W := (rg 7 5 ++ rg 27 18)
 outs := [⟨.exit 0, [(4, (.row 6))], [(6, .arr 44 Ja)], (rg 6 6 ++ rg 24 21)⟩]
 spec := Xfd
def Xec [W : InW] (n i : Int) (qs : Ro Iv5) (ps : Ro Jc) (all : Int) (sh : Ro Jb) (u l : Dt) (A : List Ed -> Prop) (K : Nat -> List Ed -> Prop) : Prop :=
 Vif (decide (i < n)) (Need (decide (0 <= i) && decide (i < (↑(u.length) : Int))) (Need (decide (i.toNat < u.length)) (Pre (Sp.KeyOk qs.xs ps.xs all /\ Sp.SeOk qs.xs sh.xs u /\ u.length <= 7 /\ 0 <= i /\ i < 7) (Vif (Sp.anyF (Sp.dcB qs.xs ps.xs all sh.xs u i) Zd ((2 : Nat) ^ u.length)) (Need (decide ((l.length + [[Cl.i (cel u i.toNat Zd).int, Cl.i (cel u i.toNat (0+1)).int]].length) * 16 <= 140737488355328)) (Ar .i64 (i + 1) fun z => A [.i n, .i z, .ro _ qs, .ro _ ps, .i all, .ro Zdz sh, .l u, .l (l ++ [[Cl.i (cel u i.toNat Zd).int, Cl.i (cel u i.toNat (0+1)).int]])])) (Ar .i64 (i + 1) fun z => A [.i n, .i z, .ro _ qs, .ro _ ps, .i all, .ro Zdz sh, .l u, .l l]))))) (K 0 [.l l])
theorem Xlt (W : InW) (n i qs ps all sh u l A K) : Yfc { cxT Try.prog TT T64 1000 50 with fn := 27 } 1000 (Yn7 Try.prog 27 6) (Yd6 46 [(4, .rw 3), (6, .ptr 25 0), (24, .rw 7), (25, .si .i64 n), (26, .si .i64 i)] (rg 7 5 ++ rg 27 18)) [(25, .blk 85 [.ptr 4 0]), (4, .blk 89 [.rs _ qs, .rs _ ps, .si .i64 all, .rs _ sh, .rw 7]), (7, .arr 44 Ja u), (3, .arr 44 Ja l)] (Yuf Xhd A K) = Xec n i qs ps all sh u l A K := by kernel_rfl
def Xgi : Prop := ∀ (W : InW) (body a : Code), (Try.prog.funcs[27]?).bind (·.body) = some body -> a ∈ Yy body -> Yfw a = 6 -> @Ymq W Try.prog a (@Ytn W Xhd)
theorem Xnj (meas : [InW] -> List Ed -> Nat) (hyp_ : ∀ (W : InW) n i qs ps all sh u l K, Xfd [.i n, .i i, .ro _ qs, .ro _ ps, .i all, .ro _ sh, .l u, .l l] K -> ∀ A : List Ed -> Prop, (∀ e, meas e < meas [.i n, .i i, .ro _ qs, .ro _ ps, .i all, .ro _ sh, .l u, .l l] -> Xfd e K -> A e) -> Xec n i qs ps all sh u l A K) : Xgi :=
 LE.okOf' (fun W => @TT W) (fun W => @Xe W) Xa T64 1000 50 (by kernel_rfl) Xhd (fun W => @meas W) fun W n i qs ps all sh u l K hs =>
  (Xlt W n i qs ps all sh u l (fun e => meas e < meas [.i n, .i i, .ro _ qs, .ro _ ps, .i all, .ro _ sh, .l u, .l l] /\ Xfd e K) K).mpr (hyp_ W n i qs ps all sh u l K hs _ fun e h1 h2 => ⟨h1, h2⟩)
theorem Xp7 : Xgi := Xnj (fun e => match e with | .i n :: .i i :: _ => (n - i).toNat | _ => 0) fun W n i qs ps all sh u l K hs A hA => by
 obtain ⟨⟨rfl, h0, h1, hkey, hse, h7, hl⟩, hk⟩ := hs;unfold Xec;delta Zdz Zd;simp only [List.length_cons, List.length_nil, Nat.zero_add, show ∀ k, (cel u k 0).int = Sp.cA u k from fun _ => rfl, show ∀ k, (cel u k 1).int = Sp.cB u k from fun _ => rfl];have ez : (i + 1).toNat = i.toNat + 1 := by omega
 have ei : ((i.toNat : Nat) : Int) = i := Int.toNat_of_nonneg h0
 by_cases hi : i < u.length
 ·rw [show u.length - i.toNat = (u.length - (i.toNat + 1)) + 1 by omega] at hk;simp only [Sp.dcW, ei] at hk;cases c : Sp.anyF (Sp.dcB qs.xs ps.xs all sh.xs u i) 0 (2 ^ u.length) with
  | true =>
   rw [c, if_pos rfl, <- List.append_assoc] at hk;have hA' := hA [.i u.length, .i (i + 1), .ro _ qs, .ro _ ps, .i all, .ro _ sh, .l u, .l (l ++ [[.i (Sp.cA u i.toNat), .i (Sp.cB u i.toNat)]])] (show ((u.length : Int) - (i + 1)).toNat < ((u.length : Int) - i).toNat by omega) ⟨⟨rfl, by omega, by omega, hkey, hse, h7, by simp; omega⟩, by rw [ez]; exact hk⟩;clear hA hk
   repeat' (first | (with_reducible refine Xb ⟨hkey, hse, h7, h0, by omega⟩ ?_) | omega|intro _|with_reducible first|apply vifd|apply vifn|apply vifq|apply Xd|apply Xc|apply vifb|apply vif|apply nedd|apply ned2|apply ned|apply ar64|apply Xb|exact True.intro|assumption|rfl|apply And.intro)
   all_goals first | contradiction | exact hA' | skip
  | false =>
   rw [c, if_neg (by decide), List.nil_append] at hk;have hA' := hA [.i u.length, .i (i + 1), .ro _ qs, .ro _ ps, .i all, .ro _ sh, .l u, .l l] (show ((u.length : Int) - (i + 1)).toNat < ((u.length : Int) - i).toNat by omega) ⟨⟨rfl, by omega, by omega, hkey, hse, h7, by omega⟩, by rw [ez]; exact hk⟩;clear hA hk
   repeat' (first | (with_reducible refine Xb ⟨hkey, hse, h7, h0, by omega⟩ ?_) | omega|intro _|with_reducible first|apply vifd|apply vifn|apply vifq|apply Xd|apply Xc|apply vifb|apply vif|apply nedd|apply ned2|apply ned|apply ar64|apply Xb|exact True.intro|assumption|rfl|apply And.intro)
   all_goals first | contradiction | exact hA' | skip
 ·rw [show u.length - i.toNat = 0 by omega] at hk;simp only [Sp.dcW, List.append_nil] at hk;clear hA
  repeat' (first | omega|intro _|with_reducible first|apply vifd|apply vifn|apply vifq|apply Xd|apply Xc|apply vifb|apply vif|apply nedd|apply ned2|apply ned|apply ar64|apply Xb|exact True.intro|assumption|rfl|apply And.intro)
  all_goals exact hk
def Xq5 : LE Try.prog := ⟨27, 6, fun W => @Ytn W Xhd, Xp7⟩
def T65 : Tab Try.prog := ⟨[], [Xq5], [ceOf Xh Xbf]⟩
def Xdr [W : InW] (kQ : Ro Iv5) (kP : Ro Jc) (kA : Int) (sh : Ro Jb) (Q : DS -> Prop) : Prop :=
 Vif (decide (Sp.askE kQ.xs kP.xs kA sh.xs = 0)) (Pre ((↑(List.length (Sp.uns sh.xs)) : Int) = (↑(List.length (Sp.uns sh.xs)) : Int) /\ Zb <= 0 /\ Zb <= (↑(List.length (Sp.uns sh.xs)) : Int) /\ Sp.KeyOk kQ.xs kP.xs kA /\ Sp.SeOk kQ.xs sh.xs (Sp.uns sh.xs) /\ List.length (Sp.uns sh.xs) <= 7 /\ (↑(0 : Nat) : Int) <= 0) (Q [[Cl.l (Sp.dcW kQ.xs kP.xs kA sh.xs (Sp.uns sh.xs) (Int.toNat Zb) (List.length (Sp.uns sh.xs) - Int.toNat Zb))], [Cl.i 0]])) (Vif (!decide (Sp.askE kQ.xs kP.xs kA sh.xs = 0)) (Q [[Cl.l []], [Cl.i (Sp.askE kQ.xs kP.xs kA sh.xs)]]) ((16 : Nat) = 16 + 1))
theorem Xmk (W : InW) (kQ kP kA sh Q) : Ywt (cxT Try.prog TT T65 1000 50) 1000 27 [.agg [.rs _ kQ, .rs _ kP, .si .i64 kA], .rs _ sh] [] 0 (Y02 [(false, [.row 44 Ja]), (false, [.int .i64])] Q) (fun _ _ _ _ => Stuck 421) = Xdr kQ kP kA sh Q := by kernel_rfl
abbrev Xcc : List AT := [.agg [.sl Iv5, .sl Jc, .int .i64], .one (.sl Jb)]
theorem Xob {pre : DS -> Prop} {res : DS -> DS} (hyp_ : ∀ (W : InW) (kQ : Ro Iv5) (kP : Ro Jc) (kA : Int) (sh : Ro Jb), pre [[.l kQ.xs, .l kP.xs, .i kA], [.l sh.xs]] -> ∀ Q : DS -> Prop, Q (res [[.l kQ.xs, .l kP.xs, .i kA], [.l sh.xs]]) -> Xdr kQ kP kA sh Q) : PureOk Try.prog 27 Xcc [(false, [.row 44 Ja]), (false, [.int .i64])] pre res :=
 PureOk.of' (fun W => @TT W) (fun W => @Xe W) Xa T65 1000 50 fun W kQ kP kA sh hp =>
  (Xmk W kQ kP kA sh (fun o => o = res [[.l kQ.xs, .l kP.xs, .i kA], [.l sh.xs]])).mpr (hyp_ W kQ kP kA sh hp _ rfl)
namespace Sp
theorem withR_map (sh : Dt) (q j : Nat) (v : Int) : ∀ n i, withR sh q j v i n = (List.range' i n).map fun k => [.l (if k = q then (row sh k).set j [.i v] else row sh k)]
 | 0, _ => rfl
 | n + 1, i => by simp only [withR, List.range'_succ, List.map_cons, withR_map sh q j v n (i + 1)]
theorem withD_ext {a b : Dt} {q j q' j' : Nat} {v v' : Int} (hl : a.length = b.length) (h : ∀ k, k < a.length -> (if k = q then (row a k).set j [.i v] else row a k) = (if k = q' then (row b k).set j' [.i v'] else row b k)) : withD a q j v = withD b q' j' v' := by
 unfold withD;rw [withR_map, withR_map, <- hl];refine List.map_congr_left fun k hk => ?_;have := List.mem_range'.1 hk;rw [h k (by omega)]
theorem withD_comm (s : Dt) (p p' : Nat × Nat) (v v' : Int) (hne : p ≠ p') : withD (withD s p.1 p.2 v) p'.1 p'.2 v' = withD (withD s p'.1 p'.2 v') p.1 p.2 v := by
 refine withD_ext (by rw [withD_len, withD_len]) fun k hk => ?_;rw [withD_len] at hk;rw [withD_row _ _ _ _ _ hk, withD_row _ _ _ _ _ hk]
 by_cases c : k = p.1 <;> by_cases c' : k = p'.1
 ·rw [if_pos c, if_pos c', if_pos c', if_pos c];have : p.2 ≠ p'.2 := fun e => hne (Prod.ext (c.symm.trans c') e);exact List.set_comm _ _ this
 ·simp [c, c', if_neg (show ¬ p.1 = p'.1 from fun e => c' (c.trans e))]
 ·simp [c, c', if_neg (show ¬ p'.1 = p.1 from fun e => c (c'.trans e))]
 ·simp [c, c']
theorem withD_same (s : Dt) (q j : Nat) (v v' : Int) : withD (withD s q j v) q j v' = withD s q j v' := by
 refine withD_ext (withD_len _ _ _ _) fun k hk => ?_;rw [withD_len] at hk;rw [withD_row _ _ _ _ _ hk]
 by_cases c : k = q
 ·rw [if_pos c, if_pos c, if_pos c, List.set_set]
 ·rw [if_neg c, if_neg c, if_neg c]
theorem itW_out : ∀ (ps : List (Nat × Nat)) (b : Nat) (s : Dt) (p : Nat × Nat) (v : Int), p ∉ ps -> itW ps b (withD s p.1 p.2 v) = withD (itW ps b s) p.1 p.2 v
 | [], _, _, _, _, _ => rfl
 | p0 :: ps, b, s, p, v, h => by
  have h1 : p ≠ p0 := fun e => h (e ▸ List.mem_cons_self);have h2 : p ∉ ps := fun e => h (List.mem_cons_of_mem _ e);simp only [itW];rw [withD_comm s p p0 v _ h1, itW_out ps (b / 2) _ p v h2]
theorem it_erase : ∀ (us : List (Nat × Nat)) (i b : Nat) (s : Dt) (hi : i < us.length), us.Nodup -> b < 2 ^ us.length -> ∃ b', b' < 2 ^ (us.eraseIdx i).length /\ itW us b s = itW (us.eraseIdx i) b' (withD s us[i].1 us[i].2 ((b / 2 ^ i % 2 : Nat) : Int))
 | [], i, _, _, hi, _, _ => by simp at hi
 | p :: ps, 0, b, s, _, _, hb => by
  rw [List.length_cons, Nat.pow_succ] at hb;refine ⟨b / 2, by simp only [List.eraseIdx_cons_zero]; omega, ?_⟩;simp only [itW, List.eraseIdx_cons_zero, List.getElem_cons_zero, Nat.pow_zero, Nat.div_one]
 | p :: ps, i + 1, b, s, hi, hn, hb => by
  have hn := List.nodup_cons.1 hn;have hi2 : i < ps.length := by simpa using hi
  rw [List.length_cons, Nat.pow_succ] at hb;obtain ⟨c, hc, e⟩ := it_erase ps i (b / 2) (withD s p.1 p.2 ((b % 2 : Nat) : Int)) hi2 hn.2 (by omega);refine ⟨2 * c + b % 2, by simp only [List.eraseIdx_cons_succ, List.length_cons, Nat.pow_succ]; omega, ?_⟩;have hne : ps[i] ≠ p := fun x => hn.1 (x ▸ List.getElem_mem hi2);simp only [itW, List.eraseIdx_cons_succ, List.getElem_cons_succ];rw [e, show (2 * c + b % 2) / 2 = c by omega, show (2 * c + b % 2) % 2 = b % 2 by omega, withD_comm s ps[i] p _ _ hne, Nat.pow_succ, Nat.mul_comm (2 ^ i) 2, <- Nat.div_div_eq_div_mul]
theorem it_insert : ∀ (us : List (Nat × Nat)) (i b' v : Nat) (s : Dt) (hi : i < us.length), us.Nodup -> v < 2 -> b' < 2 ^ (us.eraseIdx i).length -> ∃ b, b < 2 ^ us.length /\ b / 2 ^ i % 2 = v /\ itW us b s = itW (us.eraseIdx i) b' (withD s us[i].1 us[i].2 (v : Int))
 | [], i, _, _, _, hi, _, _, _ => by simp at hi
 | p :: ps, 0, b', v, s, _, _, hv, hb => by
  simp only [List.eraseIdx_cons_zero] at hb;refine ⟨2 * b' + v, by rw [List.length_cons, Nat.pow_succ]; omega, by rw [Nat.pow_zero, Nat.div_one]; omega, ?_⟩;simp only [itW, List.eraseIdx_cons_zero, List.getElem_cons_zero];rw [show (2 * b' + v) / 2 = b' by omega, show (2 * b' + v) % 2 = v by omega]
 | p :: ps, i + 1, b', v, s, hi, hn, hv, hb => by
  have hn := List.nodup_cons.1 hn;have hi2 : i < ps.length := by simpa using hi
  simp only [List.eraseIdx_cons_succ, List.length_cons, Nat.pow_succ] at hb;obtain ⟨c, hc, e1, e2⟩ := it_insert ps i (b' / 2) v (withD s p.1 p.2 ((b' % 2 : Nat) : Int)) hi2 hn.2 hv (by omega);have hne : ps[i] ≠ p := fun x => hn.1 (x ▸ List.getElem_mem hi2);refine ⟨2 * c + b' % 2, by rw [List.length_cons, Nat.pow_succ]; omega, ?_, ?_⟩
  ·rw [Nat.pow_succ, Nat.mul_comm (2 ^ i) 2, <- Nat.div_div_eq_div_mul, show (2 * c + b' % 2) / 2 = c by omega];exact e1
  ·simp only [itW, List.eraseIdx_cons_succ, List.getElem_cons_succ];rw [show (2 * c + b' % 2) / 2 = c by omega, show (2 * c + b' % 2) % 2 = b' % 2 by omega, e2, withD_comm s ps[i] p _ _ hne]
theorem flip_succ (b i : Nat) : flip b (i + 1) / 2 = flip (b / 2) i /\ flip b (i + 1) % 2 = b % 2 := by
 unfold flip;rw [Nat.pow_succ, Nat.mul_comm (2 ^ i) 2, <- Nat.div_div_eq_div_mul];have hx : 1 <= 2 ^ i := Nat.one_le_two_pow;have hle : b / 2 / 2 ^ i % 2 ≠ 0 -> 2 ^ i <= b / 2 := fun h => by
  rcases Nat.lt_or_ge (b / 2) (2 ^ i) with c | c
  ·rw [Nat.div_eq_of_lt c] at h; simp at h
  ·exact c
 generalize 2 ^ i = x at *
 split
 ·omega
 ·rename_i h;have := hle h;omega
theorem it_flip : ∀ (us : List (Nat × Nat)) (i b : Nat) (s : Dt) (hi : i < us.length), us.Nodup -> itW us (flip b i) s = withD (itW us b s) us[i].1 us[i].2 ((1 - b / 2 ^ i % 2 : Nat) : Int)
 | [], i, _, _, hi, _ => by simp at hi
 | p :: ps, 0, b, s, _, hn => by
  have hn := List.nodup_cons.1 hn;have e : flip b 0 / 2 = b / 2 /\ flip b 0 % 2 = 1 - b % 2 := by
   unfold flip;rw [Nat.pow_zero, Nat.div_one]
   split <;> omega
  simp only [itW, List.getElem_cons_zero, Nat.pow_zero, Nat.div_one];rw [e.1, e.2, itW_out ps _ s p _ hn.1, itW_out ps _ s p _ hn.1, withD_same]
 | p :: ps, i + 1, b, s, hi, hn => by
  have hn := List.nodup_cons.1 hn;have hi2 : i < ps.length := by simpa using hi
  obtain ⟨e1, e2⟩ := flip_succ b i;simp only [itW, List.getElem_cons_succ];rw [e1, e2, it_flip ps i (b / 2) _ hi2 hn.2, Nat.pow_succ, Nat.mul_comm (2 ^ i) 2, <- Nat.div_div_eq_div_mul]
theorem filter_erase : ∀ (us : List (Nat × Nat)) (i : Nat) (hi : i < us.length), us.Nodup -> us.filter (fun x => decide (x ≠ us[i])) = us.eraseIdx i
 | [], i, hi, _ => by simp at hi
 | p :: ps, 0, _, hn => by
  have hn := List.nodup_cons.1 hn;simp only [List.getElem_cons_zero, List.eraseIdx_cons_zero];rw [List.filter_cons_of_neg (by simp), filter_ne_tl hn.1]
 | p :: ps, i + 1, hi, hn => by
  have hn := List.nodup_cons.1 hn;have hi2 : i < ps.length := by simpa using hi
  have hne : p ≠ ps[i] := fun x => hn.1 (x ▸ List.getElem_mem hi2);simp only [List.getElem_cons_succ, List.eraseIdx_cons_succ];rw [List.filter_cons_of_pos (by simpa using hne), filter_erase ps i hi2 hn.2]
theorem flip_lt7 : ∀ b : Fin 128, ∀ n : Fin 8, ∀ i : Fin 7, b.val < 2 ^ n.val -> i.val < n.val -> flip b.val i.val < 2 ^ n.val := by decide +kernel
theorem flip_lt {b n i : Nat} (hn : n <= 7) (hb : b < 2 ^ n) (hi : i < n) : flip b i < 2 ^ n :=
 flip_lt7 ⟨b, Nat.lt_of_lt_of_le hb (Nat.le_trans (Nat.pow_le_pow_right (by decide) hn) (by decide))⟩ ⟨n, by omega⟩ ⟨i, by omega⟩ hb hi
theorem dc_any {qs ps sh : Dt} {all : Int} {i : Nat} (hk : KeyOk qs ps all) (hs : ShOk qs sh) (hi : i < (pos sh).length) : anyF (dcB qs ps all sh (uns sh) i) 0 (2 ^ (uns sh).length) = dcV qs ps all sh (pos sh)[i].1 (pos sh)[i].2 := by
 have h7 := hs.seven;rw [uns_len] at h7;have hnd := pos_nd sh;have hps := fun b (hb : b < 2 ^ (pos sh).length) => psW_it (ps := ps) (all := all) hk hs.n h7 hb;have he : pos (withD sh (pos sh)[i].1 (pos sh)[i].2 0) = (pos sh).eraseIdx i := by rw [pos_with (by decide), filter_erase _ _ hi hnd]
 have hd : ∀ b, b < 2 ^ (pos sh).length -> (dcB qs ps all sh (uns sh) i b = true ↔ psS qs ps all (itW (pos sh) b sh) ≠ psS qs ps all (itW (pos sh) (flip b i) sh)) := fun b hb => by
  have h128 : b < 128 := Nat.lt_of_lt_of_le hb (Nat.le_trans (Nat.pow_le_pow_right (by decide) h7) (by decide));unfold dcB;rw [xor_of h128 (by omega), hps b hb, hps _ (flip_lt h7 hb hi)];simp
 refine bool_iff ?_;unfold dcV;rw [anyF_0, uns_len];have hR := any_rds (sh := withD sh (pos sh)[i].1 (pos sh)[i].2 0) fun r => !(psS qs ps all r == psS qs ps all (withD r (pos sh)[i].1 (pos sh)[i].2 1));rw [he] at hR;have hR2 : anyF (dcI qs ps all (rdD (withD sh (pos sh)[i].1 (pos sh)[i].2 0)) (pos sh)[i].1 (pos sh)[i].2) 0 (rdD (withD sh (pos sh)[i].1 (pos sh)[i].2 0)).length = true ↔ _ := anyF_0.trans hR;rw [hR2];simp only [Bool.not_eq_true', beq_eq_false_iff_ne, ne_eq];constructor
 ·rintro ⟨b, hb, h⟩;have h := (hd b hb).1 h;rcases Nat.mod_two_eq_zero_or_one (b / 2 ^ i) with c | c
  ·obtain ⟨b', hb', e⟩ := it_erase _ i b sh hi hnd hb;rw [c] at e;refine ⟨b', hb', fun x => h ?_⟩;rw [it_flip _ i b sh hi hnd, c, e];exact x
  ·have hf := it_flip _ i b sh hi hnd;obtain ⟨b', hb', e⟩ := it_erase _ i (flip b i) sh hi hnd (flip_lt h7 hb hi);have c2 : flip b i / 2 ^ i % 2 = 0 := by
    unfold flip;rw [if_neg (by omega)];have hx : 1 <= 2 ^ i := Nat.one_le_two_pow;have : (b - 2 ^ i) / 2 ^ i = b / 2 ^ i - 1 := by
     have := Nat.sub_mul_div b (2 ^ i) 1;rw [Nat.mul_one] at this;exact this
    rw [this]; omega
   have hb0 := it_flip _ i (flip b i) sh hi hnd;have ff : flip (flip b i) i = b := by
    have h1 : flip b i = b - 2 ^ i := by unfold flip; rw [if_neg (by omega)]
    have hge : 2 ^ i <= b := by
     rcases Nat.lt_or_ge b (2 ^ i) with x | x
     ·rw [Nat.div_eq_of_lt x] at c; simp at c
     ·exact x
    rw [show flip (flip b i) i = flip b i + 2 ^ i from if_pos c2, h1];omega
   rw [ff, c2] at hb0;rw [c2] at e;refine ⟨b', hb', fun x => h ?_⟩;rw [hb0, e];exact x.symm
 ·rintro ⟨b', hb', h⟩;obtain ⟨b, hb, c, e⟩ := it_insert _ i b' 0 sh hi hnd (by decide) hb';refine ⟨b, hb, (hd b hb).2 fun x => h ?_⟩;rw [it_flip _ i b sh hi hnd, c, e] at x;exact x
theorem dcW_L {qs ps sh : Dt} {all : Int} (hk : KeyOk qs ps all) (hs : ShOk qs sh) : ∀ n i, i + n = (uns sh).length -> dcW qs ps all sh (uns sh) i n = dcL qs ps all sh (uns sh) i n
 | 0, _, _ => rfl
 | n + 1, i, hi => by
  have hi2 : i < (pos sh).length := by rw [<- uns_len]; omega
  obtain ⟨c1, c2⟩ := prC_cel (pos sh) i hi2;rw [<- uns_pos] at c1 c2;have c3 : (cel (uns sh) i 0).int = (pos sh)[i].1 := c1;have c4 : (cel (uns sh) i 1).int = (pos sh)[i].2 := c2;simp only [dcW, dcL, c1, c2, c3, c4, Int.toNat_natCast];rw [dc_any hk hs hi2, dcW_L hk hs n (i + 1) (by omega)]
end Sp
theorem Xpd : PureOk Try.prog 27 Xcc [(false, [.row 44 Ja]), (false, [.int .i64])] (fun _ => True) Xdd :=
 Xob fun W qs ps all sh hp Q h => by
  unfold Xdr;delta Zb;simp only [Xdd, Sp.dcA] at h;refine vifd (fun e => ?_) fun e => vifn (fun _ => ?_) fun c => absurd c e
  ·obtain ⟨hk, hs⟩ := Sp.askE_ok e;rw [if_pos e, e] at h;simp only [show Int.toNat 0 = 0 from rfl, Nat.sub_zero];rw [Sp.dcW_L hk hs _ _ (by omega)];exact ⟨⟨trivial, by omega, by omega, hk, hs.se hk, hs.seven, by omega⟩, h⟩
  ·rw [if_neg e] at h; exact h
def Xmu : PC Try.prog := ⟨27, Xcc, [(false, [.row 44 Ja]), (false, [.int .i64])], fun _ => True, Xdd, Xpd⟩
namespace Sp
def miB (sh u : Dt) (q right : Int) (k : Nat) : Bool := !decide (ansX (rowW sh u q k) = right)
end Sp
def T66 : Tab Try.prog := ⟨[], [], [ceOf Xq Xiq]⟩
def Xez [InW] (e : List Ed) (K : Nat -> List Ed -> Prop) : Prop := match e with
 | [.i n, .i i, .ro _ qs, .ro _ ps, .i all, .ro _ sh, .l u, .i q, .i part, .i boxes, .i right, .i pts, .i minus, .b so, .b al] => Pre (0 <= i /\ i <= n /\ n <= 128 /\ Sp.SeOk qs.xs sh.xs u /\ 0 <= q /\ q < sh.xs.length) (K 0 [.ro _ qs, .ro _ ps, .i all, .ro _ sh, .l u, .i q, .i part, .i boxes, .i right, .i pts, .i minus, .b (so || Sp.anyF (Sp.miB sh.xs u q right) i.toNat (n - i).toNat), .b (al && Sp.allF (Sp.miB sh.xs u q right) i.toNat (n - i).toNat)])
 | _ => False
def Xgz : LC where
 len := 18
 T := [(0, (.yl 1)), (1, (.ptr 10 0)), (9, .int .i64), (10, .int .i64)]
 H := [(1, .lp LPth [(.opq 1501), (.opq 1504), (.opq 1507), (.opq 1510), (.ptr 13 0), (.ptr 16 0), (.ptr 19 0), (.opq 318), (.opq 321), (.opq 1528), (.opq 327), (.opq 330), (.opq 333), (.opq 336), (.opq 339), (.opq 342), (.opq 345), (.opq 348), (.opq 351), (.opq 354), (.opq 357), (.opq 360), (.opq 1567), (.opq 1570)]), (10, .blk 85 [(.ptr 4 0)]), (4, .blk 89 [.rs Iv5, .rs Jc, .int .i64, .rs Jb, (.row 7)]), (7, .arr 44 Ja), (13, .blk 84 [(.fn (.func 77) [] [(.ptr 25 0), (.ptr 22 0), (.ptr 28 0)])]), (25, .blk 85 [(.ptr 4 0)]), (22, .blk 3 [.int .i64]), (28, .blk 71 [.int .i64, .int .i64, .int .i64, .int .i64, .int .i64]), (16, .blk 4 [.bool]), (19, .blk 4 [.bool])]
 W := ([3] ++ rg 11 7)
 outs := [⟨.exit 0, [], [(1, .lp LPth [(.opq 1501), (.opq 1504), (.opq 1507), (.opq 1510), (.ptr 13 0), (.ptr 16 0), (.ptr 19 0), (.opq 618), (.opq 621), (.opq 1528), (.opq 627), (.opq 630), (.opq 633), (.opq 636), (.opq 639), (.opq 642), (.opq 645), (.opq 648), (.opq 651), (.opq 654), (.opq 657), (.opq 660), (.opq 1567), (.opq 1570)]), (618, .dead), (621, .dead), (627, .dead), (630, .dead), (633, .dead), (636, .dead), (639, .dead), (642, .dead), (645, .dead), (648, .dead), (651, .dead), (654, .dead), (657, .dead), (660, .dead), (10, .blk 85 [(.ptr 4 0)]), (4, .blk 89 [.rs Iv5, .rs Jc, .int .i64, .rs Jb, (.row 7)]), (7, .arr 44 Ja), (13, .blk 84 [(.fn (.func 77) [] [(.ptr 25 0), (.ptr 22 0), (.ptr 28 0)])]), (25, .blk 85 [(.ptr 4 0)]), (22, .blk 3 [.int .i64]), (28, .blk 71 [.int .i64, .int .i64, .int .i64, .int .i64, .int .i64]), (16, .blk 4 [.bool]), (19, .blk 4 [.bool])], ([0, 1, 3] ++ rg 9 9)⟩]
 spec := Xez
def Xdy [W : InW] (n i : Int) (qs : Ro Iv5) (ps : Ro Jc) (all : Int) (sh : Ro Jb) (u : Dt) (q part boxes right pts minus : Int) (so al : Bool) (A : List Ed -> Prop) (K : Nat -> List Ed -> Prop) : Prop :=
 Vif (decide (i < n)) (Pre (0 <= q /\ q < (↑(sh.xs.length) : Int) /\ 0 <= i /\ Sp.UqOk u q (List.length (Sp.row sh.xs q.toNat))) (Vif so (Vif al (Ar .i64 (i + 1) fun z => PreL LPth LPth (A [.i n, .i z, .ro _ qs, .ro _ ps, .i all, .ro Zdz sh, .l u, .i q, .i part, .i boxes, .i right, .i pts, .i minus, .b true, .b !decide (Sp.ansX (Sp.rowW sh.xs u q i) = right)])) (Ar .i64 (i + 1) fun z => PreL LPth LPth (A [.i n, .i z, .ro _ qs, .ro _ ps, .i all, .ro Zdz sh, .l u, .i q, .i part, .i boxes, .i right, .i pts, .i minus, .b true, .b false]))) (Vif al (Ar .i64 (i + 1) fun z => PreL LPth LPth (A [.i n, .i z, .ro _ qs, .ro _ ps, .i all, .ro Zdz sh, .l u, .i q, .i part, .i boxes, .i right, .i pts, .i minus, .b !decide (Sp.ansX (Sp.rowW sh.xs u q i) = right), .b !decide (Sp.ansX (Sp.rowW sh.xs u q i) = right)])) (Ar .i64 (i + 1) fun z => PreL LPth LPth (A [.i n, .i z, .ro _ qs, .ro _ ps, .i all, .ro Zdz sh, .l u, .i q, .i part, .i boxes, .i right, .i pts, .i minus, .b !decide (Sp.ansX (Sp.rowW sh.xs u q i) = right), .b false]))))) (PreL LPth LPth (K 0 [.ro _ qs, .ro _ ps, .i all, .ro Zdz sh, .l u, .i q, .i part, .i boxes, .i right, .i pts, .i minus, .b so, .b al]))
theorem Xlf (W : InW) (n i qs ps all sh u q part boxes right pts minus so al A K) : Yfc { cxT Try.prog TT T66 1000 50 with fn := 83 } 1000 (Yn7 Try.prog 83 2) (Yd6 18 [(0, .yl 1), (1, .ptr 10 0), (9, .si .i64 n), (10, .si .i64 i)] ([3] ++ rg 11 7)) [(1, .lp LPth [.opq 1501, .opq 1504, .opq 1507, .opq 1510, .ptr 13 0, .ptr 16 0, .ptr 19 0, .opq 318, .opq 321, .opq 1528, .opq 327, .opq 330, .opq 333, .opq 336, .opq 339, .opq 342, .opq 345, .opq 348, .opq 351, .opq 354, .opq 357, .opq 360, .opq 1567, .opq 1570]), (10, .blk 85 [.ptr 4 0]), (4, .blk 89 [.rs _ qs, .rs _ ps, .si .i64 all, .rs _ sh, .rw 7]), (7, .arr 44 Ja u), (13, .blk 84 [.fn (.func 77) [] [.ptr 25 0, .ptr 22 0, .ptr 28 0]]), (25, .blk 85 [.ptr 4 0]), (22, .blk 3 [.si .i64 q]), (28, .blk 71 [.si .i64 part, .si .i64 boxes, .si .i64 right, .si .i64 pts, .si .i64 minus]), (16, .blk 4 [.sb so]), (19, .blk 4 [.sb al])] (Yuf Xgz A K) = Xdy n i qs ps all sh u q part boxes right pts minus so al A K := by kernel_rfl
def Xf4 : Prop := ∀ (W : InW) (body a : Code), (Try.prog.funcs[83]?).bind (·.body) = some body -> a ∈ Yy body -> Yfw a = 2 -> @Ymq W Try.prog a (@Ytn W Xgz)
theorem Xm5 (meas : [InW] -> List Ed -> Nat) (hyp_ : ∀ (W : InW) n i qs ps all sh u q part boxes right pts minus so al K, Xez [.i n, .i i, .ro _ qs, .ro _ ps, .i all, .ro _ sh, .l u, .i q, .i part, .i boxes, .i right, .i pts, .i minus, .b so, .b al] K -> ∀ A : List Ed -> Prop, (∀ e, meas e < meas [.i n, .i i, .ro _ qs, .ro _ ps, .i all, .ro _ sh, .l u, .i q, .i part, .i boxes, .i right, .i pts, .i minus, .b so, .b al] -> Xez e K -> A e) -> Xdy n i qs ps all sh u q part boxes right pts minus so al A K) : Xf4 :=
 LE.okOf' (fun W => @TT W) (fun W => @Xe W) Xa T66 1000 50 (by kernel_rfl) Xgz (fun W => @meas W) fun W n i qs ps all sh u q part boxes right pts minus so al K hs =>
  (Xlf W n i qs ps all sh u q part boxes right pts minus so al (fun e => meas e < meas [.i n, .i i, .ro _ qs, .ro _ ps, .i all, .ro _ sh, .l u, .i q, .i part, .i boxes, .i right, .i pts, .i minus, .b so, .b al] /\ Xez e K) K).mpr (hyp_ W n i qs ps all sh u q part boxes right pts minus so al K hs _ fun e h1 h2 => ⟨h1, h2⟩)
theorem Xpt : Xf4 := Xm5 (fun e => match e with | .i n :: .i i :: _ => (n - i).toNat | _ => 0) fun W n i qs ps all sh u q part boxes right pts minus so al K hs A hA => by
 obtain ⟨⟨h0, h1, h2, hse, h3, h4⟩, hk⟩ := hs;unfold Xdy;delta Zdz;have ez : (i + 1).toNat = i.toNat + 1 := by omega
 have ei : ((i.toNat : Nat) : Int) = i := Int.toNat_of_nonneg h0
 by_cases hi : i < n
 ·have huq := hse.uq q.toNat (by omega);rw [Int.toNat_of_nonneg h3] at huq;rw [show (n - i).toNat = (n - (i + 1)).toNat + 1 by omega] at hk;have hA' : ∀ c d, c = (so || !decide (Sp.ansX (Sp.rowW sh.xs u q i) = right)) -> d = (al && !decide (Sp.ansX (Sp.rowW sh.xs u q i) = right)) -> A [.i n, .i (i + 1), .ro _ qs, .ro _ ps, .i all, .ro _ sh, .l u, .i q, .i part, .i boxes, .i right, .i pts, .i minus, .b c, .b d] := fun c d hc hd => hA _ (show (n - (i + 1)).toNat < (n - i).toNat by omega) ⟨⟨by omega, by omega, h2, hse, h3, h4⟩, by
   simp only [Sp.anyF, Sp.allF, Sp.miB, ei] at hk;rw [ez, hc, hd, Bool.or_assoc, Bool.and_assoc];exact hk⟩
  clear hA hk
  repeat' (first | (with_reducible refine Xb ⟨h3, h4, h0, huq⟩ ?_) | omega|intro _|with_reducible first|apply vifd|apply vifn|apply vifq|apply Xd|apply Xc|apply vifb|apply vif|apply nedd|apply ned2|apply ned|apply ar64|apply Xb|exact True.intro|assumption|rfl|apply And.intro)
  all_goals first | contradiction | (refine ⟨rfl, ?_⟩; refine hA' _ _ ?_ ?_ <;> simp [*]; done) | skip
 ·rw [show (n - i).toNat = 0 by omega] at hk;simp only [Sp.allF, Sp.anyF, Bool.and_true, Bool.or_false] at hk;clear hA
  repeat' (first | omega|intro _|with_reducible first|apply vifd|apply vifn|apply vifq|apply Xd|apply Xc|apply vifb|apply vif|apply nedd|apply ned2|apply ned|apply ar64|apply Xb|exact True.intro|assumption|rfl|apply And.intro)
  all_goals exact ⟨rfl, hk⟩
def Xqs : LE Try.prog := ⟨83, 2, fun W => @Ytn W Xgz, Xpt⟩
def T67 : Tab Try.prog := ⟨[], [Xqs], []⟩
def Xhy [InW] (e : List Ed) (K : Nat -> List Ed -> Prop) : Prop := match e with
 | [.ro _ qs, .ro _ ps, .i all, .ro _ sh, .l u, .i q, .i part, .i boxes, .i right, .i pts, .i minus] => Pre (Sp.SeOk qs.xs sh.xs u /\ u.length <= 7 /\ 0 <= q /\ q < sh.xs.length) (K 0 [.b (Sp.anyF (Sp.miB sh.xs u q right) 0 (2 ^ u.length)), .b (Sp.allF (Sp.miB sh.xs u q right) 0 (2 ^ u.length)), .ro _ qs, .ro _ ps, .i all, .ro _ sh, .l u, .i q, .i part, .i boxes, .i right, .i pts, .i minus])
 | _ => False
def Xk : CC where
 g := 60
 args := [(.fn (.func 83) [] [(.ptr 10 0)]), (.fn (.func 77) [] [(.ptr 25 0), (.ptr 22 0), (.ptr 28 0)])]
 H := [(10, .blk 85 [(.ptr 4 0)]), (4, .blk 89 [.rs Iv5, .rs Jc, .int .i64, .rs Jb, (.row 7)]), (7, .arr 44 Ja), (25, .blk 85 [(.ptr 4 0)]), (22, .blk 3 [.int .i64]), (28, .blk 71 [.int .i64, .int .i64, .int .i64, .int .i64, .int .i64])]
 outs := [⟨false, .tup [.bool, .bool], [(10, .blk 85 [(.ptr 4 0)]), (4, .blk 89 [.rs Iv5, .rs Jc, .int .i64, .rs Jb, (.row 7)]), (7, .arr 44 Ja), (25, .blk 85 [(.ptr 4 0)]), (22, .blk 3 [.int .i64]), (28, .blk 71 [.int .i64, .int .i64, .int .i64, .int .i64, .int .i64])], false⟩]
 spec := Xhy
def Xcp [W : InW] (qs : Ro Iv5) (ps : Ro Jc) (all : Int) (sh : Ro Jb) (u : Dt) (q part boxes right pts minus : Int) (K : Nat -> List Ed -> Prop) : Prop :=
 Need (decide ((0 : Int) <= (↑(u.length) : Int))) (Ar .i64 ((1 : Int) * 2 ^ min (↑(u.length) : Int).toNat (64 : Nat)) fun z => PreL LPth LPth (Pre ((0 : Int) <= 0 /\ 0 <= z /\ z <= 128 /\ Sp.SeOk qs.xs sh.xs u /\ 0 <= q /\ q < (↑(sh.xs.length) : Int)) (K 0 [.b (false || Sp.anyF (Sp.miB sh.xs u q right) Za (z - 0).toNat), .b (true && Sp.allF (Sp.miB sh.xs u q right) Za (z - 0).toNat), .ro _ qs, .ro _ ps, .i all, .ro Zdz sh, .l u, .i q, .i part, .i boxes, .i right, .i pts, .i minus])))
theorem Xji (W : InW) (qs ps all sh u q part boxes right pts minus K) : Ywq (cxT Try.prog TT T67 1000 50) 1000 60 [.fn (.func 83) [] [.ptr 10 0], .fn (.func 77) [] [.ptr 25 0, .ptr 22 0, .ptr 28 0]] [(10, .blk 85 [.ptr 4 0]), (4, .blk 89 [.rs _ qs, .rs _ ps, .si .i64 all, .rs _ sh, .rw 7]), (7, .arr 44 Ja u), (25, .blk 85 [.ptr 4 0]), (22, .blk 3 [.si .i64 q]), (28, .blk 71 [.si .i64 part, .si .i64 boxes, .si .i64 right, .si .i64 pts, .si .i64 minus])] (fun v h => outC Xk.H [.ro _ qs, .ro _ ps, .i all, .ro _ sh, .l u, .i q, .i part, .i boxes, .i right, .i pts, .i minus] Xk.outs 0 false v h K) (fun v h => outC Xk.H [.ro _ qs, .ro _ ps, .i all, .ro _ sh, .l u, .i q, .i part, .i boxes, .i right, .i pts, .i minus] Xk.outs 0 true v h K) = Xcp qs ps all sh u q part boxes right pts minus K := by kernel_rfl
theorem Xkc (hyp_ : ∀ (W : InW) qs ps all sh u q part boxes right pts minus K, Xhy [.ro _ qs, .ro _ ps, .i all, .ro _ sh, .l u, .i q, .i part, .i boxes, .i right, .i pts, .i minus] K -> Xcp qs ps all sh u q part boxes right pts minus K) : ∀ W : InW, @CallC W Try.prog Xk :=
 CC.okOf (fun W => @TT W) (fun W => @Xe W) Xa T67 1000 50 Xk fun W qs ps all sh u q part boxes right pts minus K hs => (Xji W qs ps all sh u q part boxes right pts minus K).mpr (hyp_ W qs ps all sh u q part boxes right pts minus K hs)
theorem Xoh : ∀ W : InW, @CallC W Try.prog Xk := Xkc fun W qs ps all sh u q part boxes right pts minus K hs => by
 obtain ⟨⟨hse, h7, h3, h4⟩, hk⟩ := hs;unfold Xcp;delta Za Zdz Zb;obtain ⟨p1, p2, p3⟩ := Xo h7;rw [p1];simp only [show Int.toNat 0 = 0 from rfl, Int.sub_zero, Bool.true_and, Bool.false_or];refine nedd (by omega) (ar64 (by omega) ⟨rfl, ⟨by omega, by omega, by omega, hse, h3, h4⟩, ?_⟩);rw [Int.toNat_natCast];exact hk
def T68 : Tab Try.prog := ⟨[Xic], [], [ceOf Xk Xoh]⟩
namespace Sp
def miAny (sh u : Dt) (q right : Int) : Bool := anyF (miB sh u q right) 0 (2 ^ u.length)
def miAll (sh u : Dt) (q right : Int) : Bool := allF (miB sh u q right) 0 (2 ^ u.length)
def mAddW (qs sh u l : Dt) (j : Nat) : Dt := if miAll sh u j (qRight qs j) = true then l.set j [.i ((cel l j 0).int + 1), .i ((cel l j 1).int + 1)] else if miAny sh u j (qRight qs j) = true then l.set j [.i (cel l j 0).int, .i ((cel l j 1).int + 1)] else l
def addQW (qs sh u : Dt) : Nat -> Nat -> Dt -> Dt
 | _, 0, l => l
 | j, n + 1, l => addQW qs sh u (j + 1) n (mAddW qs sh u l j)
end Sp
def Xfb [InW] (e : List Ed) (K : Nat -> List Ed -> Prop) : Prop := match e with
 | [.i i, .ro _ qz, .i n, .i j, .ro _ qs, .ro _ ps, .i all, .ro _ sh, .l u, .l l] => Pre (n = qz.xs.length /\ 0 <= j /\ j <= n /\ l.length = qz.xs.length /\ sh.xs.length = qz.xs.length /\ Sp.SeOk qs.xs sh.xs u /\ u.length <= 7 /\ l.length <= 12 /\ 0 <= i /\ i <= 20 /\ Sp.CntAt l i j) (K 0 [.i i, .l (Sp.addQW qz.xs sh.xs u j.toNat (qz.xs.length - j.toNat) l)])
 | _ => False
def Xhb : LC where
 len := 89
 T := [(4, (.row 3)), (8, (.ptr 25 0)), (30, .int .i64), (44, .rs Iv5), (45, .int .i64), (46, .int .i64)]
 H := [(25, .blk 85 [(.ptr 4 0)]), (4, .blk 89 [.rs Iv5, .rs Jc, .int .i64, .rs Jb, (.row 7)]), (7, .arr 44 Ja), (3, .arr 80 Ja)]
 W := ([10, 11] ++ rg 47 40)
 outs := [⟨.exit 2, [(4, (.row 6)), (30, .int .i64)], [(6, .arr 80 Ja)], ([8, 10, 11] ++ rg 44 43)⟩]
 spec := Xfb
def Zec [W : InW] (j : Int) (l : Dt) := decide (0 <= j) && decide (j < (↑(l.length) : Int))
def Zed [W : InW] (j : Int) (l : Dt) := List.getD l j.toNat []
def Xea [W : InW] (i : Int) (qz : Ro Iv5) (n j : Int) (qs : Ro Iv5) (ps : Ro Jc) (all : Int) (sh : Ro Jb) (u l : Dt) (A : List Ed -> Prop) (K : Nat -> List Ed -> Prop) : Prop :=
 Vif (decide (j < n)) (Need (decide (0 <= j) && decide (j < (↑(qz.xs.length) : Int))) (Need (decide (j.toNat < qz.xs.length)) (Pre (Sp.SeOk qs.xs sh.xs u /\ u.length <= 7 /\ 0 <= j /\ j < (↑(sh.xs.length) : Int)) (Pre True (Vif (decide (Sp.ocB (Sp.anyF (Sp.miB sh.xs u j (cel qz.xs j.toNat (Zd + 1 + 1)).int) Zd ((2 : Nat) ^ u.length)) (Sp.allF (Sp.miB sh.xs u j (cel qz.xs j.toNat (Zd + 1 + 1)).int) Zd ((2 : Nat) ^ u.length)) = 1)) (Need (Zec j l) (Need (decide (j.toNat < l.length)) (Ar .i64 ((cel l j.toNat Zd).int + 1) fun z => Need (Zec j l) (Need (decide (j.toNat < l.length)) (Need (decide (0 <= j) && decide (j < (↑(List.set l j.toNat (Ynl (Zed j l) Zd [Cl.i z])).length : Int))) (Need (decide (j.toNat < (List.set l j.toNat (Ynl (Zed j l) Zd [Cl.i z])).length)) (Ar .i64 ((cel (List.set l j.toNat (Ynl (Zed j l) Zd [Cl.i z])) j.toNat (0+1)).int + 1) fun z_1 => Need (decide (0 <= j) && decide (j < (↑(List.set l j.toNat (Ynl (Zed j l) Zd [Cl.i z])).length : Int))) (Need (decide (j.toNat < (List.set l j.toNat (Ynl (Zed j l) Zd [Cl.i z])).length)) (Ar .i64 (j + 1) fun z_2 => A [.i i, .ro _ qz, .i n, .i z_2, .ro _ qs, .ro _ ps, .i all, .ro Zdz sh, .l u, .l ((List.set l j.toNat (Ynl (Zed j l) Zd [Cl.i z])).set j.toNat (Ynl ((List.set l j.toNat (Ynl (Zed j l) Zd [Cl.i z])).getD j.toNat []) (0+1) [Cl.i z_1]))]))))))))) (Vif (decide (Sp.ocB (Sp.anyF (Sp.miB sh.xs u j (cel qz.xs j.toNat (Zd + 1 + 1)).int) Zd ((2 : Nat) ^ u.length)) (Sp.allF (Sp.miB sh.xs u j (cel qz.xs j.toNat (Zd + 1 + 1)).int) Zd ((2 : Nat) ^ u.length)) = 2)) (Need (Zec j l) (Need (decide (j.toNat < l.length)) (Ar .i64 ((cel l j.toNat (0+1)).int + 1) fun z => Need (Zec j l) (Need (decide (j.toNat < l.length)) (Ar .i64 (j + 1) fun z_1 => A [.i i, .ro _ qz, .i n, .i z_1, .ro _ qs, .ro _ ps, .i all, .ro Zdz sh, .l u, .l (List.set l j.toNat (Ynl (Zed j l) (0+1) [Cl.i z]))]))))) (Ar .i64 (j + 1) fun z => A [.i i, .ro _ qz, .i n, .i z, .ro _ qs, .ro _ ps, .i all, .ro Zdz sh, .l u, .l l]))))))) (K 0 [.i i, .l l])
theorem Xlr (W : InW) (i qz n j qs ps all sh u l A K) : Yfc { cxT Try.prog TT T68 1000 50 with fn := 35 } 1000 (Yn7 Try.prog 35 15) (Yd6 89 [(4, .rw 3), (8, .ptr 25 0), (30, .si .i64 i), (44, .rs _ qz), (45, .si .i64 n), (46, .si .i64 j)] ([10, 11] ++ rg 47 40)) [(25, .blk 85 [.ptr 4 0]), (4, .blk 89 [.rs _ qs, .rs _ ps, .si .i64 all, .rs _ sh, .rw 7]), (7, .arr 44 Ja u), (3, .arr 80 Ja l)] (Yuf Xhb A K) = Xea i qz n j qs ps all sh u l A K := by kernel_rfl
def Xgg : Prop := ∀ (W : InW) (body a : Code), (Try.prog.funcs[35]?).bind (·.body) = some body -> a ∈ Yy body -> Yfw a = 15 -> @Ymq W Try.prog a (@Ytn W Xhb)
theorem Xnh (meas : [InW] -> List Ed -> Nat) (hyp_ : ∀ (W : InW) i qz n j qs ps all sh u l K, Xfb [.i i, .ro _ qz, .i n, .i j, .ro _ qs, .ro _ ps, .i all, .ro _ sh, .l u, .l l] K -> ∀ A : List Ed -> Prop, (∀ e, meas e < meas [.i i, .ro _ qz, .i n, .i j, .ro _ qs, .ro _ ps, .i all, .ro _ sh, .l u, .l l] -> Xfb e K -> A e) -> Xea i qz n j qs ps all sh u l A K) : Xgg :=
 LE.okOf' (fun W => @TT W) (fun W => @Xe W) Xa T68 1000 50 (by kernel_rfl) Xhb (fun W => @meas W) fun W i qz n j qs ps all sh u l K hs =>
  (Xlr W i qz n j qs ps all sh u l (fun e => meas e < meas [.i i, .ro _ qz, .i n, .i j, .ro _ qs, .ro _ ps, .i all, .ro _ sh, .l u, .l l] /\ Xfb e K) K).mpr (hyp_ W i qz n j qs ps all sh u l K hs _ fun e h1 h2 => ⟨h1, h2⟩)
theorem Xp5 : Xgg := Xnh (fun e => match e with | _ :: _ :: .i n :: .i j :: _ => (n - j).toNat | _ => 0) fun W i qz n j qs ps all sh u l K hs A hA => by
 obtain ⟨⟨rfl, h2, h3, h4, hsl, hse, h7, h12, hi0, hi20, hc⟩, hk⟩ := hs;unfold Xea;delta Zdz Zed Zec Zd;have ez : (j + 1).toNat = j.toNat + 1 := by omega
 have ej : ((j.toNat : Nat) : Int) = j := Int.toNat_of_nonneg h2
 by_cases hj : j < qz.xs.length
 ·have hj2 : j.toNat < l.length := by omega
  obtain ⟨x, y, hg, b1, b2, b3, b4⟩ := hc.ok j.toNat hj2;rw [if_neg (by omega)] at b2 b4;have c0 : cel l j.toNat 0 = .i x := by unfold cel; rw [hg]; rfl
  have c1 : cel l j.toNat 1 = .i y := by unfold cel; rw [hg]; rfl
  rw [show qz.xs.length - j.toNat = (qz.xs.length - (j.toNat + 1)) + 1 by omega] at hk;simp only [Sp.addQW, Sp.mAddW, c0, c1, ej, show ∀ a, (Cl.i a).int = a from fun _ => rfl] at hk;have hnx := fun dx dy => Sp.CntAt.next (m := i) (dx := dx) (dy := dy) (by rw [ej]; exact hc) hj2 hg
  rw [ej] at hnx;have hs2 : l.set j.toNat [.i x, .i y] = l := by
   rw [<- hg, List.getD_eq_getElem?_getD, List.getElem?_eq_getElem hj2];exact List.set_getElem_self hj2
  have hA' : ∀ dx dy l', (dx = 0 \/ dx = 1) -> (dy = 0 \/ dy = 1) -> l' = l.set j.toNat [.i (x + dx), .i (y + dy)] -> K 0 [.i i, .l (Sp.addQW qz.xs sh.xs u (j.toNat + 1) (qz.xs.length - (j.toNat + 1)) l')] -> A [.i i, .ro _ qz, .i qz.xs.length, .i (j + 1), .ro _ qs, .ro _ ps, .i all, .ro _ sh, .l u, .l l'] := fun dx dy l' hx hy e hk => by
   subst e;exact hA _ (show ((qz.xs.length : Int) - (j + 1)).toNat < ((qz.xs.length : Int) - j).toNat by omega) ⟨⟨rfl, by omega, by omega, by rw [List.length_set]; exact h4, hsl, hse, h7, by rw [List.length_set]; exact h12, hi0, hi20, hnx dx dy hx hy⟩, by rw [ez]; exact hk⟩
  clear hA hnx;simp only [Nat.zero_add, Nat.reduceAdd, show (cel qz.xs j.toNat 2).int = Sp.qRight qz.xs j.toNat from rfl, hg, c0, c1, show ∀ a, (Cl.i a).int = a from fun _ => rfl, Sp.cel_set hj2, Sp.set_getD hj2, List.set_set, List.length_set, show ∀ a b c : Cl, Ynl [a, b] 0 [c] = [c, b] from fun _ _ _ => rfl, show ∀ a b c : Cl, Ynl [a, b] 1 [c] = [a, c] from fun _ _ _ => rfl, show ∀ (a b : Cl), List.getD [a, b] 1 Cl.z = b from fun _ _ => rfl, show ∀ r, Sp.anyF (Sp.miB sh.xs u j r) 0 (2 ^ u.length) = Sp.miAny sh.xs u j r from fun _ => rfl, show ∀ r, Sp.allF (Sp.miB sh.xs u j r) 0 (2 ^ u.length) = Sp.miAll sh.xs u j r from fun _ => rfl];cases m1 : Sp.miAll sh.xs u j (Sp.qRight qz.xs j.toNat) <;> cases m2 : Sp.miAny sh.xs u j (Sp.qRight qz.xs j.toNat) <;> simp only [m1, m2, if_true, if_false, Bool.false_eq_true, Sp.ocB] at hk ⊢
  ·have hA1 := hA' 0 0 l (.inl rfl) (.inl rfl) (by rw [Int.add_zero, Int.add_zero, hs2]) hk;clear hA' hk
   repeat' (first | (with_reducible refine Xb ⟨hse, h7, h2, by omega⟩ ?_) | (with_reducible refine Xb trivial ?_) | omega|intro _|with_reducible first|apply vifd|apply vifn|apply vifq|apply Xd|apply Xc|apply vifb|apply vif|apply nedd|apply ned2|apply ned|apply ar64|apply Xb|exact True.intro|assumption|rfl|apply And.intro)
   all_goals first | contradiction | exact hA1 | skip
  ·have hA1 := hA' 0 1 _ (.inl rfl) (.inr rfl) (by rw [Int.add_zero]) hk;clear hA' hk
   repeat' (first | (with_reducible refine Xb ⟨hse, h7, h2, by omega⟩ ?_) | (with_reducible refine Xb trivial ?_) | omega|intro _|with_reducible first|apply vifd|apply vifn|apply vifq|apply Xd|apply Xc|apply vifb|apply vif|apply nedd|apply ned2|apply ned|apply ar64|apply Xb|exact True.intro|assumption|rfl|apply And.intro)
   all_goals first | contradiction | exact hA1 | skip
  ·have hA1 := hA' 1 1 _ (.inr rfl) (.inr rfl) rfl hk;clear hA' hk
   repeat' (first | (with_reducible refine Xb ⟨hse, h7, h2, by omega⟩ ?_) | (with_reducible refine Xb trivial ?_) | omega|intro _|with_reducible first|apply vifd|apply vifn|apply vifq|apply Xd|apply Xc|apply vifb|apply vif|apply nedd|apply ned2|apply ned|apply ar64|apply Xb|exact True.intro|assumption|rfl|apply And.intro)
   all_goals first | contradiction | exact hA1 | skip
  ·have hA1 := hA' 1 1 _ (.inr rfl) (.inr rfl) rfl hk;clear hA' hk
   repeat' (first | (with_reducible refine Xb ⟨hse, h7, h2, by omega⟩ ?_) | (with_reducible refine Xb trivial ?_) | omega|intro _|with_reducible first|apply vifd|apply vifn|apply vifq|apply Xd|apply Xc|apply vifb|apply vif|apply nedd|apply ned2|apply ned|apply ar64|apply Xb|exact True.intro|assumption|rfl|apply And.intro)
   all_goals first | contradiction | exact hA1 | skip
 ·rw [show qz.xs.length - j.toNat = 0 by omega] at hk;simp only [Sp.addQW] at hk;clear hA
  repeat' (first | omega|intro _|with_reducible first|apply vifd|apply vifn|apply vifq|apply Xd|apply Xc|apply vifb|apply vif|apply nedd|apply ned2|apply ned|apply ar64|apply Xb|exact True.intro|assumption|rfl|apply And.intro)
  all_goals exact hk
def Xq3 : LE Try.prog := ⟨35, 15, fun W => @Ytn W Xhb, Xp5⟩
def T69 : Tab Try.prog := ⟨[], [Xq3], [ceOf Xv Xk7]⟩
namespace Sp
def addPW (qs pp : Dt) : Nat -> Nat -> Dt -> Dt
 | _, 0, l => l
 | i, n + 1, l => addPW qs pp (i + 1) n (addQW qs (row pp i) (uns (row pp i)) 0 qs.length l)
end Sp
def Xfc [InW] (e : List Ed) (K : Nat -> List Ed -> Prop) : Prop := match e with
 | [.ro _ pp, .i n, .i i, .ro _ qs, .ro _ ps, .i all, .l l] => Pre (n = pp.xs.length /\ 0 <= i /\ i <= n /\ n <= 20 /\ Sp.KeyOk qs.xs ps.xs all /\ l.length = qs.xs.length /\ Sp.CntAt l i 0) (Vif (Sp.hasE (Sp.shI qs.xs pp.xs) i.toNat (pp.xs.length - i.toNat)) (K 1 [.i (Sp.shI qs.xs pp.xs (Sp.idxE (Sp.shI qs.xs pp.xs) i.toNat (pp.xs.length - i.toNat)))]) (K 0 [.l (Sp.addPW qs.xs pp.xs i.toNat (pp.xs.length - i.toNat) l)]))
 | _ => False
def Xhc : LC where
 len := 89
 T := [(2, (.ptr 1 0)), (4, (.row 3)), (28, .rs [.sl Jb]), (29, .int .i64), (30, .int .i64)]
 H := [(1, .blk 25 [.rs Iv5, .rs Jc, .int .i64]), (3, .arr 80 Ja)]
 W := ([5] ++ rg 7 5 ++ rg 31 57)
 outs := [⟨.exit 0, [(4, (.row 6))], [(6, .arr 80 Ja)], ([2, 5] ++ rg 7 5 ++ rg 28 60)⟩, ⟨.ret, [(4, (.lit (.slice none 0 0))), (5, .int .i64)], [], ([2] ++ rg 7 5 ++ rg 28 60)⟩]
 spec := Xfc
def Xeb [W : InW] (pp : Ro [.sl Jb]) (n i : Int) (qs : Ro Iv5) (ps : Ro Jc) (all : Int) (l : Dt) (A : List Ed -> Prop) (K : Nat -> List Ed -> Prop) : Prop :=
 Vif (decide (i < n)) (Need (decide (0 <= i) && decide (i < (↑(pp.xs.length) : Int))) (Need (decide (i.toNat < pp.xs.length)) (Pre (Sp.KeyOk qs.xs ps.xs all) (Vif (decide (Sp.shE qs.xs (cel pp.xs i.toNat Zd).lst = 0)) (Pre ((↑(qs.xs.length) : Int) = (↑(qs.xs.length) : Int) /\ Zb <= 0 /\ Zb <= (↑(qs.xs.length) : Int) /\ l.length = qs.xs.length /\ List.length (cel pp.xs i.toNat Zd).lst = qs.xs.length /\ Sp.SeOk qs.xs (cel pp.xs i.toNat Zd).lst (Sp.uns (cel pp.xs i.toNat Zd).lst) /\ List.length (Sp.uns (cel pp.xs i.toNat Zd).lst) <= 7 /\ l.length <= 12 /\ 0 <= i /\ i <= 20 /\ Sp.CntAt l i Zb) (Ar .i64 (i + 1) fun z => A [.ro [Ty.sl Zdz] pp, .i n, .i z, .ro _ qs, .ro _ ps, .i all, .l (Sp.addQW qs.xs (cel pp.xs i.toNat Zd).lst (Sp.uns (cel pp.xs i.toNat Zd).lst) (Int.toNat Zb) (qs.xs.length - Int.toNat Zb) l)])) (Vif (!decide (Sp.shE qs.xs (cel pp.xs i.toNat Zd).lst = 0)) (K (0+1) [.i (Sp.shE qs.xs (cel pp.xs i.toNat Zd).lst)]) ((435 : Nat) = 435 + 1)))))) (K 0 [.l l])
theorem Xls (W : InW) (pp n i qs ps all l A K) : Yfc { cxT Try.prog TT T69 1000 50 with fn := 35 } 1000 (Yn7 Try.prog 35 9) (Yd6 89 [(2, .ptr 1 0), (4, .rw 3), (28, .rs _ pp), (29, .si .i64 n), (30, .si .i64 i)] ([5] ++ rg 7 5 ++ rg 31 57)) [(1, .blk 25 [.rs _ qs, .rs _ ps, .si .i64 all]), (3, .arr 80 Ja l)] (Yuf Xhc A K) = Xeb pp n i qs ps all l A K := by kernel_rfl
def Xgh : Prop := ∀ (W : InW) (body a : Code), (Try.prog.funcs[35]?).bind (·.body) = some body -> a ∈ Yy body -> Yfw a = 9 -> @Ymq W Try.prog a (@Ytn W Xhc)
theorem Xni (meas : [InW] -> List Ed -> Nat) (hyp_ : ∀ (W : InW) pp n i qs ps all l K, Xfc [.ro _ pp, .i n, .i i, .ro _ qs, .ro _ ps, .i all, .l l] K -> ∀ A : List Ed -> Prop, (∀ e, meas e < meas [.ro _ pp, .i n, .i i, .ro _ qs, .ro _ ps, .i all, .l l] -> Xfc e K -> A e) -> Xeb pp n i qs ps all l A K) : Xgh :=
 LE.okOf' (fun W => @TT W) (fun W => @Xe W) Xa T69 1000 50 (by kernel_rfl) Xhc (fun W => @meas W) fun W pp n i qs ps all l K hs =>
  (Xls W pp n i qs ps all l (fun e => meas e < meas [.ro _ pp, .i n, .i i, .ro _ qs, .ro _ ps, .i all, .l l] /\ Xfc e K) K).mpr (hyp_ W pp n i qs ps all l K hs _ fun e h1 h2 => ⟨h1, h2⟩)
theorem Xbq (qs sh u : Dt) : ∀ n j l, (Sp.addQW qs sh u j n l).length = l.length
 | 0, _, _ => rfl
 | n + 1, j, l => by
  simp only [Sp.addQW, Xbq qs sh u n];unfold Sp.mAddW
  split
  ·simp
  ·split <;> simp
theorem Xiu {qs sh u : Dt} {m : Int} : ∀ n j l, Sp.CntAt l m (j : Nat) -> j + n = l.length -> Sp.CntAt (Sp.addQW qs sh u j n l) m (l.length : Nat)
 | 0, j, l, h, e => by rw [<- e]; exact h
 | n + 1, j, l, h, e => by
  have hj : j < l.length := by omega
  obtain ⟨x, y, hg, _⟩ := h.ok j hj;have c0 : cel l j 0 = .i x := by unfold cel; rw [hg]; rfl
  have c1 : cel l j 1 = .i y := by unfold cel; rw [hg]; rfl
  have hs2 : l.set j [.i x, .i y] = l := by
   rw [<- hg, List.getD_eq_getElem?_getD, List.getElem?_eq_getElem hj];exact List.set_getElem_self hj
  have hl : (Sp.mAddW qs sh u l j).length = l.length := by unfold Sp.mAddW; (repeat' split) <;> simp
  have := Xiu (qs := qs) (sh := sh) (u := u) n (j + 1) (Sp.mAddW qs sh u l j) (by
   unfold Sp.mAddW;rw [c0, c1]
   split
   ·exact h.next hj hg (.inr rfl) (.inr rfl)
   ·split
    ·have := h.next (dx := 0) (dy := 1) hj hg (.inl rfl) (.inr rfl)
     rw [Int.add_zero] at this;exact this
    ·have := h.next (dx := 0) (dy := 0) hj hg (.inl rfl) (.inl rfl)
     rw [Int.add_zero, Int.add_zero, hs2] at this;exact this) (by omega)
  rw [hl] at this;exact this
theorem Xp6 : Xgh := Xni (fun e => match e with | _ :: .i n :: .i i :: _ => (n - i).toNat | _ => 0) fun W pp n i qs ps all l K hs A hA => by
 obtain ⟨⟨rfl, h0, h1, h20, hkey, hl, hc⟩, hk⟩ := hs;unfold Xeb;delta Zd Zb Zdz;have n2 := hkey.n2;have ez : (i + 1).toNat = i.toNat + 1 := by omega
 simp only [show Int.toNat 0 = 0 from rfl, Nat.sub_zero, show (cel pp.xs i.toNat 0).lst = Sp.row pp.xs i.toNat from rfl]
 by_cases hi : i < pp.xs.length
 ·rw [show pp.xs.length - i.toNat = (pp.xs.length - (i.toNat + 1)) + 1 by omega] at hk;obtain ⟨g1, g2⟩ := Xc2 (K1 := fun _ e => K 1 [.i e]) hk;simp only [Sp.addPW] at g2;have g1 : Sp.shE qs.xs (Sp.row pp.xs i.toNat) ≠ 0 -> K 1 [.i (Sp.shE qs.xs (Sp.row pp.xs i.toNat))] := g1;have g2 : Sp.shE qs.xs (Sp.row pp.xs i.toNat) = 0 -> _ := g2;clear hk;refine vifd (fun _ => ned (by simp; omega) (nedd (by omega) ⟨hkey, vifd (fun e => ?_) fun e => vifn (fun _ => g1 e) fun c => absurd c e⟩)) fun c => absurd hi c;have hs := Sp.shE_iff.1 e;have hgo := Xiu (qs := qs.xs) (sh := Sp.row pp.xs i.toNat) (u := Sp.uns (Sp.row pp.xs i.toNat)) l.length 0 l hc (by omega);have hll := Xbq qs.xs (Sp.row pp.xs i.toNat) (Sp.uns (Sp.row pp.xs i.toNat)) l.length 0 l;rw [show ((l.length : Nat) : Int) = ((Sp.addQW qs.xs (Sp.row pp.xs i.toNat) (Sp.uns (Sp.row pp.xs i.toNat)) 0 l.length l).length : Nat) by rw [hll]] at hgo;refine ⟨⟨trivial, by omega, by omega, hl, hs.n, hs.se hkey, hs.seven, by omega, h0, by omega, hc⟩, ar64 (by omega) (hA _ (show ((pp.xs.length : Int) - (i + 1)).toNat < ((pp.xs.length : Int) - i).toNat by omega) ⟨⟨rfl, by omega, by omega, h20, hkey, by rw [Xbq]; exact hl, ?_⟩, ?_⟩)⟩
  ·rw [<- hl]; exact hgo.up
  ·rw [ez]; exact g2 e
 ·rw [show pp.xs.length - i.toNat = 0 by omega] at hk;clear hA;exact vifd (fun c => absurd c hi) fun _ => hk.2 rfl
def Xq4 : LE Try.prog := ⟨35, 9, fun W => @Ytn W Xhc, Xp6⟩
def T70 : Tab Try.prog := ⟨[Xbe], [Xq4], []⟩
def Zee [W : InW] (kQ : Ro Iv5) := List.replicate (↑(kQ.xs.length) : Int).toNat (Ybr [.int .i64, .int .i64])
def Xdq [W : InW] (kQ : Ro Iv5) (kP : Ro Jc) (kA : Int) (pp : Ro [.sl Jb]) (Q : DS -> Prop) : Prop :=
 Pre True (Vif (!decide (Sp.chkE kQ.xs kP.xs kA = 0)) (Q [[Cl.l []], [Cl.i (Sp.chkE kQ.xs kP.xs kA)]]) (Vif (decide ((20 : Int) < (↑(pp.xs.length) : Int))) (Q [[Cl.l []], [Cl.i 3]]) (Need (decide ((↑(kQ.xs.length) : Int) = (↑(kQ.xs.length) : Int)) && decide (Zb <= (↑(kQ.xs.length) : Int)) && decide ((16 : Nat) * (↑(kQ.xs.length) : Int).toNat <= 281474976710656)) (Pre ((↑(pp.xs.length) : Int) = (↑(pp.xs.length) : Int) /\ Zb <= 0 /\ Zb <= (↑(pp.xs.length) : Int) /\ (↑(pp.xs.length) : Int) <= 20 /\ Sp.KeyOk kQ.xs kP.xs kA /\ (Zee kQ).length = kQ.xs.length /\ Sp.CntAt (Zee kQ) Zb Zb) (Vif (Sp.hasE (Sp.shI kQ.xs pp.xs) (Int.toNat Zb) (pp.xs.length - Int.toNat Zb)) (Q [[Cl.l []], [Cl.i (Sp.shI kQ.xs pp.xs (Sp.idxE (Sp.shI kQ.xs pp.xs) (Int.toNat Zb) (pp.xs.length - Int.toNat Zb)))]]) (Q [[Cl.l (Sp.addPW kQ.xs pp.xs (Int.toNat Zb) (pp.xs.length - Int.toNat Zb) (Zee kQ))], [Cl.i 0]]))))))
theorem Xmj (W : InW) (kQ kP kA pp Q) : Ywt (cxT Try.prog TT T70 1000 50) 1000 35 [.agg [.rs _ kQ, .rs _ kP, .si .i64 kA], .rs _ pp] [] 0 (Y02 [(false, [.row 80 Ja]), (false, [.int .i64])] Q) (fun _ _ _ _ => Stuck 421) = Xdq kQ kP kA pp Q := by kernel_rfl
abbrev Xcb : List AT := [.agg [.sl Iv5, .sl Jc, .int .i64], .one (.sl [.sl Jb])]
theorem Xoa {pre : DS -> Prop} {res : DS -> DS} (hyp_ : ∀ (W : InW) (kQ : Ro Iv5) (kP : Ro Jc) (kA : Int) (pp : Ro [.sl Jb]), pre [[.l kQ.xs, .l kP.xs, .i kA], [.l pp.xs]] -> ∀ Q : DS -> Prop, Q (res [[.l kQ.xs, .l kP.xs, .i kA], [.l pp.xs]]) -> Xdq kQ kP kA pp Q) : PureOk Try.prog 35 Xcb [(false, [.row 80 Ja]), (false, [.int .i64])] pre res :=
 PureOk.of' (fun W => @TT W) (fun W => @Xe W) Xa T70 1000 50 fun W kQ kP kA pp hp =>
  (Xmj W kQ kP kA pp (fun o => o = res [[.l kQ.xs, .l kP.xs, .i kA], [.l pp.xs]])).mpr (hyp_ W kQ kP kA pp hp _ rfl)
namespace Sp
def flq (us : List (Nat × Nat)) (q : Nat) : List (Nat × Nat) := (us.filter fun p => decide (p.1 = q)).map fun p => (0, p.2)
theorem one_with (d : Dt) (j : Nat) (v : Int) : withD (one d) 0 j v = one (d.set j [.i v]) := rfl
theorem row_it1 : ∀ (us : List (Nat × Nat)) (b : Nat) (s : Dt) (q : Nat), q < s.length -> ∃ b', b' < 2 ^ (flq us q).length /\ row (itW us b s) q = row (itW (flq us q) b' (one (row s q))) 0
 | [], b, s, q, _ => ⟨0, by simp [flq], rfl⟩
 | p :: ps, b, s, q, h => by
  obtain ⟨c, hc, e⟩ := row_it1 ps (b / 2) (withD s p.1 p.2 ((b % 2 : Nat) : Int)) q (by rw [withD_len]; exact h);have hr := withD_row s p.1 p.2 ((b % 2 : Nat) : Int) q h
  by_cases x : p.1 = q
  ·have hf : flq (p :: ps) q = (0, p.2) :: flq ps q := by unfold flq; rw [List.filter_cons_of_pos (by simpa using x)]; rfl
   refine ⟨2 * c + b % 2, by rw [hf, List.length_cons, Nat.pow_succ]; omega, ?_⟩;rw [hf];simp only [itW];rw [e, hr, if_pos x.symm, show (2 * c + b % 2) / 2 = c by omega, show (2 * c + b % 2) % 2 = b % 2 by omega, one_with]
  ·have hf : flq (p :: ps) q = flq ps q := by unfold flq; rw [List.filter_cons_of_neg (by simpa using x)]
   refine ⟨c, by rw [hf]; exact hc, ?_⟩;rw [hf];simp only [itW];rw [e, hr, if_neg (fun y => x y.symm)]
theorem row_it2 : ∀ (us : List (Nat × Nat)) (b' : Nat) (s : Dt) (q : Nat), q < s.length -> b' < 2 ^ (flq us q).length -> ∃ b, b < 2 ^ us.length /\ row (itW us b s) q = row (itW (flq us q) b' (one (row s q))) 0
 | [], b', s, q, _, _ => ⟨0, by simp, rfl⟩
 | p :: ps, b', s, q, h, hb => by
  by_cases x : p.1 = q
  ·have hf : flq (p :: ps) q = (0, p.2) :: flq ps q := by unfold flq; rw [List.filter_cons_of_pos (by simpa using x)]; rfl
   rw [hf, List.length_cons, Nat.pow_succ] at hb;obtain ⟨c, hc, e⟩ := row_it2 ps (b' / 2) (withD s p.1 p.2 ((b' % 2 : Nat) : Int)) q (by rw [withD_len]; exact h) (by omega);have hr := withD_row s p.1 p.2 ((b' % 2 : Nat) : Int) q h;refine ⟨2 * c + b' % 2, by rw [List.length_cons, Nat.pow_succ]; omega, ?_⟩;rw [hf];simp only [itW];rw [show (2 * c + b' % 2) / 2 = c by omega, show (2 * c + b' % 2) % 2 = b' % 2 by omega, e, hr, if_pos x.symm, one_with]
  ·have hf : flq (p :: ps) q = flq ps q := by unfold flq; rw [List.filter_cons_of_neg (by simpa using x)]
   rw [hf] at hb;obtain ⟨c, hc, e⟩ := row_it2 ps b' (withD s p.1 p.2 ((0 : Nat) : Int)) q (by rw [withD_len]; exact h) hb;have hr := withD_row s p.1 p.2 ((0 : Nat) : Int) q h;refine ⟨2 * c, by rw [List.length_cons, Nat.pow_succ]; omega, ?_⟩;rw [hf];simp only [itW];rw [show 2 * c / 2 = c by omega, show 2 * c % 2 = 0 by omega, e, hr, if_neg (fun y => x y.symm)]
theorem flq_app (a b : List (Nat × Nat)) (q : Nat) : flq (a ++ b) q = flq a q ++ flq b q := by unfold flq; rw [List.filter_append, List.map_append]
theorem prow_fl (d : Dt) (i q : Nat) : ∀ n j, flq (prow d i j n) q = if i = q then prow d 0 j n else []
 | 0, j => by simp [prow, flq]
 | n + 1, j => by
  simp only [prow, flq_app, prow_fl d i q n (j + 1)]
  by_cases e : i = q <;> by_cases c : bx d j = 2 <;> simp [flq, e, c]
theorem pall_fl (sh : Dt) (q : Nat) : ∀ n i, flq (pall sh i n) q = if i <= q /\ q < i + n then prow (row sh q) 0 0 (row sh q).length else []
 | 0, i => by rw [if_neg (by omega)]; rfl
 | n + 1, i => by
  simp only [pall, flq_app, prow_fl, pall_fl sh q n (i + 1)]
  by_cases e : i = q
  ·subst e;rw [if_pos rfl, if_neg (by omega), if_pos (by omega), List.append_nil]
  ·rw [if_neg e, List.nil_append]
   by_cases c : i + 1 <= q /\ q < i + 1 + n
   ·rw [if_pos c, if_pos (by omega)]
   ·rw [if_neg c, if_neg (by omega)]
theorem fl_pos {sh : Dt} {q : Nat} (h : q < sh.length) : flq (pos sh) q = pos (one (row sh q)) := by
 unfold pos;rw [pall_fl, if_pos ⟨Nat.zero_le _, by omega⟩]
 show _ = prow (row sh q) 0 0 (row sh q).length ++ []
 rw [List.append_nil]
theorem any_row {sh : Dt} {q : Nat} (h : q < sh.length) (f : Dt -> Bool) : (∃ b, b < 2 ^ (pos sh).length /\ f (row (itW (pos sh) b sh) q) = true) ↔ ∃ k, k < (rdD (one (row sh q))).length /\ f (row (row (rdD (one (row sh q))) k) 0) = true := by
 have := any_rds (sh := one (row sh q)) fun r => f (row r 0);rw [this, <- fl_pos h];constructor
 ·rintro ⟨b, hb, e⟩;obtain ⟨c, hc, e2⟩ := row_it1 (pos sh) b sh q h;exact ⟨c, hc, by rw [<- e2]; exact e⟩
 ·rintro ⟨c, hc, e⟩;obtain ⟨b, hb, e2⟩ := row_it2 (pos sh) c sh q h hc;exact ⟨b, hb, by rw [e2]; exact e⟩
theorem miB_it {sh : Dt} {q b : Nat} {right : Int} (h7 : (pos sh).length <= 7) (hq : q < sh.length) (hb : b < 2 ^ (pos sh).length) : miB sh (uns sh) q right b = !decide (ansOf (row (itW (pos sh) b sh) q) = right) := by
 unfold miB;rw [rowW_it (Nat.lt_of_lt_of_le hb (Nat.le_trans (Nat.pow_le_pow_right (by decide) h7) (by decide))) h7 hq, ansX_of]
theorem mi_any {sh : Dt} {q : Nat} {right : Int} (h7 : (pos sh).length <= 7) (hq : q < sh.length) : miAny sh (uns sh) q right = mAny right (row sh q) := by
 refine bool_iff ?_;unfold miAny mAny;rw [anyF_0, anyF_0, uns_len];have := any_row hq fun d => !decide (ansOf d = right);exact ⟨fun ⟨b, hb, e⟩ => this.1 ⟨b, hb, by rw [miB_it h7 hq hb] at e; exact e⟩, fun h => by
  obtain ⟨b, hb, e⟩ := this.2 h;exact ⟨b, hb, by rw [miB_it h7 hq hb]; exact e⟩⟩
theorem mi_all {sh : Dt} {q : Nat} {right : Int} (h7 : (pos sh).length <= 7) (hq : q < sh.length) : miAll sh (uns sh) q right = mAll right (row sh q) := by
 refine bool_iff ?_;unfold miAll mAll;rw [allF_0, allF_0, uns_len];have := any_row hq fun d => decide (ansOf d = right);constructor
 ·intro h k hk
  show (!decide (ansOf (row (row (rdD (one (row sh q))) k) 0) = right)) = true
  rw [Bool.not_eq_true', decide_eq_false_iff_not];intro c;obtain ⟨b, hb, e⟩ := this.2 ⟨k, hk, decide_eq_true c⟩;have := h b hb;rw [miB_it h7 hq hb, e] at this;cases this
 ·intro h b hb;rw [miB_it h7 hq hb, Bool.not_eq_true', decide_eq_false_iff_not];intro c;obtain ⟨k, hk, e⟩ := this.1 ⟨b, hb, decide_eq_true c⟩;have h1 : (!decide (ansOf (row (row (rdD (one (row sh q))) k) 0) = right)) = true := h k hk;rw [e] at h1;cases h1
theorem mAll_any {right : Int} {d : Dt} (h : mAll right d = true) : mAny right d = true := by
 unfold mAll at h;unfold mAny;rw [allF_0] at h;rw [anyF_0];have : 0 < (rdD (one d)).length := by rw [rdD_len]; exact Nat.two_pow_pos _
 exact ⟨0, this, h 0 this⟩
theorem mAddW_eq {qs sh l : Dt} {m : Int} {j : Nat} (h7 : (pos sh).length <= 7) (hq : j < sh.length) (hc : CntAt l m (j : Nat)) (hj : j < l.length) : mAddW qs sh (uns sh) l j = mAdd qs sh l j := by
 obtain ⟨x, y, hg, _⟩ := hc.ok j hj;have c0 : cel l j 0 = .i x := by unfold cel; rw [hg]; rfl
 have c1 : cel l j 1 = .i y := by unfold cel; rw [hg]; rfl
 have hs2 : l.set j [.i x, .i y] = l := by
  rw [<- hg, List.getD_eq_getElem?_getD, List.getElem?_eq_getElem hj];exact List.set_getElem_self hj
 unfold mAddW mAdd;rw [mi_any h7 hq, mi_all h7 hq, c0, c1];have hh : ∀ a, (Cl.i a).int = a := fun _ => rfl;simp only [hh];cases m1 : mAll (qRight qs j) (row sh j) with
 | true => rw [mAll_any m1]; simp
 | false =>
  cases m2 : mAny (qRight qs j) (row sh j) with
  | true => simp
  | false => simp [hs2]
theorem addQW_eq {qs sh : Dt} {m : Int} (h7 : (pos sh).length <= 7) : ∀ n j l, CntAt l m (j : Nat) -> j + n = l.length -> l.length = sh.length -> addQW qs sh (uns sh) j n l = addQ qs sh j n l
 | 0, _, _, _, _, _ => rfl
 | n + 1, j, l, hc, hn, hl => by
  have hj : j < l.length := by omega
  simp only [addQW, addQ];rw [mAddW_eq h7 (by omega) hc hj];obtain ⟨x, y, hg, _⟩ := hc.ok j hj;have c0 : cel l j 0 = .i x := by unfold cel; rw [hg]; rfl
  have c1 : cel l j 1 = .i y := by unfold cel; rw [hg]; rfl
  have hlen : (mAdd qs sh l j).length = l.length := by unfold mAdd; rw [List.length_set]
  exact addQW_eq h7 n (j + 1) _ (by
   unfold mAdd;rw [c0, c1];exact hc.next hj hg (by split <;> simp) (by split <;> simp)) (by omega) (by omega)
theorem addPW_eq {qs pp : Dt} (hok : ∀ i, i < pp.length -> ShOk qs (row pp i)) : ∀ n i l, i + n = pp.length -> l.length = qs.length -> CntAt l (i : Nat) 0 -> addPW qs pp i n l = addP qs pp i n l
 | 0, _, _, _, _, _ => rfl
 | n + 1, i, l, hn, hl, hc => by
  have hs := hok i (by omega);have h7 := hs.seven;rw [uns_len] at h7;have hn2 := hs.n;simp only [addPW, addP];rw [<- hl, addQW_eq h7 l.length 0 l hc (by omega) (by omega)];have hl2 := addQ_len qs (row pp i) l.length 0 l;have hgo := CntAt.go (qs := qs) (sh := row pp i) l.length 0 l hc (by omega);rw [show ((l.length : Nat) : Int) = ((addQ qs (row pp i) 0 l.length l).length : Nat) by rw [hl2]] at hgo;exact addPW_eq hok n (i + 1) _ (by omega) (by omega) hgo.up
theorem errL_has {f : Nat -> Int} : ∀ n i, errL f i n 0 = if hasE f i n = true then f (idxE f i n) else 0
 | 0, i => by simp [errL, hasE]
 | n + 1, i => by
  unfold errL;rw [if_pos rfl]
  by_cases c : f i = 0
  ·rw [c, errL_has n (i + 1)];simp [hasE, idxE, c]
  ·rw [errL_ne c];simp [hasE, idxE, c]
end Sp
theorem Xpc : PureOk Try.prog 35 Xcb [(false, [.row 80 Ja]), (false, [.int .i64])] (fun _ => True) Xdc :=
 Xoa fun W qs ps all pp hp Q h => by
  unfold Xdq;delta Zee Zb;simp only [Xdc, Sp.misV] at h;simp only [show Int.toNat 0 = 0 from rfl, Nat.sub_zero, Int.toNat_natCast, show Ybr [.int .i64, .int .i64] = [Cl.i 0, Cl.i 0] from rfl];refine ⟨trivial, vifn (fun e => ?_) fun e => vifd (fun e2 => ?_) fun e2 => ?_⟩
  ·have e3 : Sp.misE qs.xs ps.xs all pp.xs = Sp.chkE qs.xs ps.xs all := by
    unfold Sp.misE;rw [if_neg e, Sp.errL_ne e]
   rw [if_neg (by omega), e3] at h;exact h
  ·have e3 : Sp.misE qs.xs ps.xs all pp.xs = 3 := by
    unfold Sp.misE;rw [if_pos e, if_pos (by omega), Sp.errL_ne (by omega)]
   rw [if_neg (by omega), e3] at h;exact h
  ·have e3 : Sp.misE qs.xs ps.xs all pp.xs = if Sp.hasE (Sp.shI qs.xs pp.xs) 0 pp.xs.length = true then Sp.shI qs.xs pp.xs (Sp.idxE (Sp.shI qs.xs pp.xs) 0 pp.xs.length) else 0 := by
    unfold Sp.misE;rw [if_pos e, if_neg (by omega), Sp.errL_has]
   have hk := Sp.chkE_iff.1 e;have n2 := hk.n2;have hc0 : Sp.CntAt (List.replicate qs.xs.length [Cl.i 0, Cl.i 0]) 0 0 := ⟨fun j hj => ⟨0, 0, by
    rw [List.length_replicate] at hj;rw [List.getD_eq_getElem?_getD, List.getElem?_replicate, if_pos hj]; rfl, by omega, by split <;> omega, by omega, by split <;> omega⟩⟩
   refine ned (by simp; omega) ⟨⟨trivial, by omega, by omega, by omega, hk, by rw [List.length_replicate], hc0⟩, vif (fun e4 => ?_) fun e4 => ?_⟩
   ·rw [if_pos e4] at e3;rw [if_neg (by rw [e3]; exact (Sp.hasE_ix e4).2.2), e3] at h;exact h
   ·rw [if_neg (by simp [e4])] at e3;rw [if_pos e3, e3] at h;have ho := Sp.misE_ok e3;rw [Sp.addPW_eq ho.2.2 pp.xs.length 0 _ (Nat.zero_add _) (by rw [List.length_replicate]) hc0];exact h
def Xib : PC Try.prog := ⟨35, Xcb, [(false, [.row 80 Ja]), (false, [.int .i64])], fun _ => True, Xdc, Xpc⟩
def Xk2 [InW] (e : List Ed) (K : Nat -> List Ed -> Prop) : Prop := match e with
 | [.i a, .i b, .l xs] => Pre (0 <= a /\ b = a + 1 /\ b <= xs.length) (K 0 [.i ((0 : Nat) : Int), .i ((xs.length - 1 : Nat) : Int), .l (xs.take a.toNat ++ xs.drop b.toNat ++ [[.i 0, .i 0, .i 0, .i 0, .i 0]])])
 | _ => False
def X4 : CC where
 g := 73
 args := [(.row 3), .int .i64, .int .i64]
 H := [(3, .arr 71 Iv5)]
 outs := [⟨false, (.rwp 6 5), [(6, .arr 71 Iv5)], false⟩]
 spec := Xk2
def Zeh [W : InW] (xs : Dt) := (↑(xs.length) : Int)
def Zeg [W : InW] (a b : Int) (xs : Dt) := (↑(a.toNat - 0 + (xs.length - b.toNat)) : Int)
def Zef [W : InW] (a b : Int) (xs : Dt) := List.take (a.toNat - 0) xs ++ List.take (xs.length - b.toNat) (List.drop b.toNat xs) ++ List.drop (a.toNat - 0 + (xs.length - b.toNat)) xs
def Xet [W : InW] (a b : Int) (xs : Dt) (K : Nat -> List Ed -> Prop) : Prop :=
 Need (decide (0 <= a)) (Need (decide (0 <= b)) (Need (decide (Zb <= (Zeh xs))) (Need (decide (a.toNat <= b.toNat) && decide (b.toNat <= (Zeh xs).toNat) && decide ((Zeh xs).toNat <= xs.length)) (Vif (decide (a = b)) ((484 : Nat) = 484 + 1) (Need (decide (0 <= a)) (Need (decide ((0 : Nat) <= a.toNat) && decide (a.toNat <= xs.length)) (Need (decide (0 <= b)) (Need (decide (b.toNat <= xs.length) && decide (xs.length <= xs.length)) (Need (decide (a.toNat - 0 + (xs.length - b.toNat) <= xs.length) && decide (b.toNat + (xs.length - b.toNat) <= xs.length)) (Need (decide (Zb <= (Zeg a b xs))) (Need (decide (Zb <= (Zeh xs))) (Need (decide ((Zeg a b xs).toNat <= (Zeh xs).toNat) && decide ((Zeh xs).toNat <= (Zef a b xs).length)) (Need (decide ((Zeg a b xs).toNat + ((Zeh xs).toNat - (Zeg a b xs).toNat) <= (Zef a b xs).length)) (K 0 [.i (↑(0 : Nat) : Int), .i (Zeg a b xs), .l (List.take (Zeg a b xs).toNat (Zef a b xs) ++ List.replicate ((Zeh xs).toNat - (Zeg a b xs).toNat) (Ybr [.int .i64, .int .i64, .int .i64, .int .i64, .int .i64]) ++ List.drop ((Zeg a b xs).toNat + ((Zeh xs).toNat - (Zeg a b xs).toNat)) (Zef a b xs))]))))))))))))))
theorem Xma (W : InW) (a b xs K) : Ywq (cxT Try.prog TT T0 1000 50) 1000 73 [.rw 3, .si .i64 a, .si .i64 b] [(3, .arr 71 Iv5 xs)] (fun v h => outC X4.H [.l xs] X4.outs 0 false v h K) (fun v h => outC X4.H [.l xs] X4.outs 0 true v h K) = Xet a b xs K := by kernel_rfl
theorem Xn0 (hyp_ : ∀ (W : InW) a b xs K, Xk2 [.i a, .i b, .l xs] K -> Xet a b xs K) : ∀ W : InW, @CallC W Try.prog X4 :=
 CC.okOf (fun W => @TT W) (fun W => @Xe W) Xa T0 1000 50 X4 fun W a b xs K hs => (Xma W a b xs K).mpr (hyp_ W a b xs K hs)
theorem Xkv (xs : Dt) (a : Nat) (z : List Cl) (h : a + 1 <= xs.length) : List.take (xs.length - 1) (List.take a xs ++ List.take (xs.length - (a + 1)) (List.drop (a + 1) xs) ++ List.drop (xs.length - 1) xs) ++ List.replicate 1 z ++ List.drop xs.length (List.take a xs ++ List.take (xs.length - (a + 1)) (List.drop (a + 1) xs) ++ List.drop (xs.length - 1) xs) = xs.take a ++ xs.drop (a + 1) ++ [z] := by
 have e1 : List.take (xs.length - (a + 1)) (List.drop (a + 1) xs) = List.drop (a + 1) xs := List.take_of_length_le (by simp);rw [e1];have hl : (List.take a xs ++ List.drop (a + 1) xs).length = xs.length - 1 := by simp; omega
 have hd : List.drop xs.length (List.take a xs ++ List.drop (a + 1) xs ++ List.drop (xs.length - 1) xs) = [] := List.drop_eq_nil_of_le (by rw [List.length_append, hl, List.length_drop]; omega);rw [hd, List.take_left' hl, List.append_nil];rfl
theorem Xql : ∀ W : InW, @CallC W Try.prog X4 := Xn0 fun W a b xs K hs => by
 obtain ⟨⟨h0, rfl, h2⟩, hk⟩ := hs;have e1 : (a + 1).toNat = a.toNat + 1 := by omega
 have e2 : a.toNat + (xs.length - (a.toNat + 1)) = xs.length - 1 := by omega
 have e3 : xs.length - (xs.length - 1) = 1 := by omega
 have e4 : xs.length - 1 + 1 = xs.length := by omega
 have hd := Xkv xs a.toNat [.i 0, .i 0, .i 0, .i 0, .i 0] (by omega);unfold Xet;delta Zef Zeg Zeh Zb;rw [e1] at hk;simp only [Nat.sub_zero, e1, Int.toNat_natCast, e2, e3, e4, show Ybr [.int .i64, .int .i64, .int .i64, .int .i64, .int .i64] = [Cl.i 0, Cl.i 0, Cl.i 0, Cl.i 0, Cl.i 0] from rfl, hd];have hlen : (List.take a.toNat xs ++ List.take (xs.length - (a.toNat + 1)) (List.drop (a.toNat + 1) xs) ++ List.drop (xs.length - 1) xs).length = xs.length := by simp; omega
 simp only [hlen];clear hd
 repeat' (first | omega|intro _|with_reducible first|apply vifd|apply vifn|apply vifq|apply Xd|apply Xc|apply vifb|apply vif|apply nedd|apply ned2|apply ned|apply ar64|apply Xb|exact True.intro|assumption|rfl|apply And.intro)
 all_goals first | contradiction | exact hk | (simp only [Bool.and_eq_true, decide_eq_true_eq]; omega)
def T71 : Tab Try.prog := ⟨[Xbe, Xcu], [], [ceOf X4 Xql]⟩
def Zel := [Cl.l [], Cl.l [], Cl.i 0]
def Zei [W : InW] (kQ : Ro Iv5) (i : Int) := cel kQ.xs i.toNat Zd
def Zej [W : InW] (kQ : Ro Iv5) (kP : Ro Jc) (i : Int) := decide (Zb <= (Zei kQ i).int) && decide ((Zei kQ i).int < (↑(kP.xs.length) : Int))
def Zek := [[Cl.i 0, Cl.i 0, Cl.i 0, Cl.i 0, Cl.i 0]]
def Xdm [W : InW] (kQ : Ro Iv5) (kP : Ro Jc) (kA i : Int) (Q : DS -> Prop) : Prop :=
 Pre True (Vif (!decide (Sp.chkE kQ.xs kP.xs kA = 0)) (Q [Zel, [Cl.i (Sp.chkE kQ.xs kP.xs kA)]]) (Ar .i64 ((↑(kQ.xs.length) : Int) - 1) fun z => Pre True (Vif (Sp.out Zb z [[Cl.i i]]) (Q [Zel, [Cl.i 4]]) (Vif (decide ((↑(kQ.xs.length) : Int) = 1)) (Q [Zel, [Cl.i 3]]) (Need (decide (0 <= i) && decide (i < (↑(kQ.xs.length) : Int))) (Need (decide (i.toNat < kQ.xs.length)) (Vif (match kQ.v with | Value.slice none len cap => true | x => false) (Ar .i64 (i + 1) fun z => Pre (0 <= i /\ z = i + 1 /\ z <= (↑Zd : Int)) (Vif (match kP.v with | Value.slice none len cap => true | x => false) (false = false /\ False) (Need (decide ((Zd + kP.xs.length) * 8 <= 140737488355328)) (Need (Zej kQ kP i) (Need (decide ((Zei kQ i).int.toNat < kP.xs.length)) (Ar .i64 ((cel kP.xs (Zei kQ i).int.toNat Zd).int - (cel kQ.xs i.toNat (Zd + 1 + 1 + 1)).int) fun z_1 => Need (Zej kQ kP i) (Need (decide ((Zei kQ i).int.toNat < kP.xs.length)) (Ar .i64 (kA - (cel kQ.xs i.toNat (Zd + 1 + 1 + 1)).int) fun z_2 => Need (decide (Zb <= (Zei kQ i).int) && decide ((Zei kQ i).int < (↑(List.set kP.xs (Zei kQ i).int.toNat [Cl.i z_1]).length : Int))) (Need (decide ((Zei kQ i).int.toNat < (List.set kP.xs (Zei kQ i).int.toNat [Cl.i z_1]).length)) (Vif (decide (min (cel (List.set kP.xs (Zei kQ i).int.toNat [Cl.i z_1]) (Zei kQ i).int.toNat Zd).int z_2 < (-240 : Int))) (Q [Zel, [Cl.i 7]]) (Need (decide ((↑(Zd - 1) : Int).toNat <= List.length (List.take i.toNat [] ++ List.drop z.toNat [] ++ Zek))) (Q [[Cl.l (List.take (↑(Zd - 1) : Int).toNat (List.take i.toNat [] ++ List.drop z.toNat [] ++ Zek)), Cl.l (List.set kP.xs (Zei kQ i).int.toNat [Cl.i z_1]), Cl.i z_2], [Cl.i 0]])))))))))))) (Need (decide ((Zd + kQ.xs.length) * 40 <= 140737488355328)) (Ar .i64 (i + 1) fun z => Pre (0 <= i /\ z = i + 1 /\ z <= (↑(kQ.xs.length) : Int)) (Vif (match kP.v with | Value.slice none len cap => true | x => false) (false = false /\ False) (Need (decide ((Zd + kP.xs.length) * 8 <= 140737488355328)) (Need (Zej kQ kP i) (Need (decide ((Zei kQ i).int.toNat < kP.xs.length)) (Ar .i64 ((cel kP.xs (Zei kQ i).int.toNat Zd).int - (cel kQ.xs i.toNat (Zd + 1 + 1 + 1)).int) fun z_1 => Need (Zej kQ kP i) (Need (decide ((Zei kQ i).int.toNat < kP.xs.length)) (Ar .i64 (kA - (cel kQ.xs i.toNat (Zd + 1 + 1 + 1)).int) fun z_2 => Need (decide (Zb <= (Zei kQ i).int) && decide ((Zei kQ i).int < (↑(List.set kP.xs (Zei kQ i).int.toNat [Cl.i z_1]).length : Int))) (Need (decide ((Zei kQ i).int.toNat < (List.set kP.xs (Zei kQ i).int.toNat [Cl.i z_1]).length)) (Vif (decide (min (cel (List.set kP.xs (Zei kQ i).int.toNat [Cl.i z_1]) (Zei kQ i).int.toNat Zd).int z_2 < (-240 : Int))) (Q [Zel, [Cl.i 7]]) (Need (decide ((↑(kQ.xs.length - 1) : Int).toNat <= List.length (List.take i.toNat kQ.xs ++ List.drop z.toNat kQ.xs ++ Zek))) (Q [[Cl.l (List.take (↑(kQ.xs.length - 1) : Int).toNat (List.take i.toNat kQ.xs ++ List.drop z.toNat kQ.xs ++ Zek)), Cl.l (List.set kP.xs (Zei kQ i).int.toNat [Cl.i z_1]), Cl.i z_2], [Cl.i 0]]))))))))))))))))))))
theorem Xmf (W : InW) (kQ kP kA i Q) : Ywt (cxT Try.prog TT T71 1000 50) 1000 32 [.agg [.rs _ kQ, .rs _ kP, .si .i64 kA], .si .i64 i] [] 0 (Y02 Xfr Q) (fun _ _ _ _ => Stuck 421) = Xdm kQ kP kA i Q := by kernel_rfl
abbrev Xb7 : List AT := [.agg [.sl Iv5, .sl Jc, .int .i64], .one (.int .i64)]
theorem Xn6 {pre : DS -> Prop} {res : DS -> DS} (hyp_ : ∀ (W : InW) (kQ : Ro Iv5) (kP : Ro Jc) (kA i : Int), pre [[.l kQ.xs, .l kP.xs, .i kA], [.i i]] -> ∀ Q : DS -> Prop, Q (res [[.l kQ.xs, .l kP.xs, .i kA], [.i i]]) -> Xdm kQ kP kA i Q) : PureOk Try.prog 32 Xb7 Xfr pre res :=
 PureOk.of' (fun W => @TT W) (fun W => @Xe W) Xa T71 1000 50 fun W kQ kP kA i hp =>
  (Xmf W kQ kP kA i (fun o => o = res [[.l kQ.xs, .l kP.xs, .i kA], [.i i]])).mpr (hyp_ W kQ kP kA i hp _ rfl)
theorem Xft {W : InW} {ts : List Ty} (r : Ro ts) (h : 0 < r.xs.length) (n c : Nat) : r.v ≠ .slice none n c := fun e => by
 obtain ⟨A, c2, h1, h2, h3, u, h4, _⟩ := r.inv;obtain ⟨b, off, h5, _⟩ := h4 (fun x => by rw [x] at h; simp at h);rw [e, h5] at h1;cases h1
theorem Xo8 : PureOk Try.prog 32 Xb7 Xfr (fun _ => True) Xc5 :=
 Xn6 fun W qs ps all i hp Q h => by
  have hm := qs.len;simp only [maxLen] at hm;unfold Xdm;delta Zej Zei Zd Zek Zel Zb;simp only [Xc5, Sp.strK] at h
  by_cases e : Sp.chkE qs.xs ps.xs all = 0
  rotate_left
  ·have e1 : Sp.strE qs.xs ps.xs all i = Sp.chkE qs.xs ps.xs all := by unfold Sp.strE; rw [if_neg e]
   rw [if_neg (by omega), e1] at h;exact ⟨trivial, vifn (fun _ => h) fun c => absurd c e⟩
  have hk := Sp.chkE_iff.1 e;have n1 := hk.n1;have n2 := hk.n2;have p1 := hk.p1;have p2 := hk.p2;have ho : Sp.out 0 (qs.xs.length - 1) [[.i i]] = !Sp.inr i 0 (qs.xs.length - 1) := by unfold Sp.out; simp [Sp.outs, cel, Cl.int]
  refine ⟨trivial, vifn (fun c => absurd e c) fun _ => ar64 (by omega) ⟨trivial, ?_⟩⟩;rw [ho]
  by_cases e1 : Sp.inr i 0 (qs.xs.length - 1) = true
  rotate_left
  ·have e2 : Sp.strE qs.xs ps.xs all i = 4 := by unfold Sp.strE; rw [if_pos e, if_neg e1]
   rw [if_neg (by omega), e2] at h;exact vifb (fun _ => h) fun c => absurd c e1
  refine vifb (fun c => absurd (e1.symm.trans c) (by decide)) fun _ => ?_
  by_cases e2 : qs.xs.length = 1
  ·have e3 : Sp.strE qs.xs ps.xs all i = 3 := by unfold Sp.strE; rw [if_pos e, if_pos e1, if_pos e2]
   rw [if_neg (by omega), e3] at h;exact vifd (fun _ => h) fun c => by omega
  refine vifd (fun c => absurd c (by omega)) fun _ => ?_;have hi := Sp.inr_iff.1 e1;have hpart := hk.part i.toNat (by omega);have hpts := hk.pts i.toNat (by omega);have hall := hk.all_;have hneed := hk.need (Sp.qPart qs.xs i.toNat).toNat (by omega);have h7 : Sp.strE qs.xs ps.xs all i = 7 -> Q [[.l [], .l [], .i 0], [.i 7]] := fun c => by
   rw [if_neg (by omega), c] at h; exact h
  have h0 : Sp.strE qs.xs ps.xs all i = 0 -> Q [[.l (Sp.strQ qs.xs i.toNat), .l (Sp.strP qs.xs ps.xs i.toNat), .i (Sp.strA qs.xs all i.toNat)], [.i 0]] := fun c => by
   rw [if_pos c, c] at h; exact h
  clear h;have hneed : -240 <= Sp.num ps.xs (Sp.qPart qs.xs i.toNat).toNat /\ Sp.num ps.xs (Sp.qPart qs.xs i.toNat).toNat <= 240 := hneed;have hnum : Sp.num (Sp.strP qs.xs ps.xs i.toNat) (Sp.qPart qs.xs i.toNat).toNat = Sp.num ps.xs (Sp.qPart qs.xs i.toNat).toNat - Sp.qPts qs.xs i.toNat := by unfold Sp.strP; rw [Sp.num_set (by omega), if_pos rfl]
  have hE : Sp.strE qs.xs ps.xs all i = if -240 <= Sp.strA qs.xs all i.toNat /\ -240 <= Sp.num (Sp.strP qs.xs ps.xs i.toNat) (Sp.qPart qs.xs i.toNat).toNat then 0 else 7 := by
   unfold Sp.strE;rw [if_pos e, if_pos e1, if_neg e2];have a1 : Sp.strA qs.xs all i.toNat <= 240 := by unfold Sp.strA; omega
   by_cases c1 : -240 <= Sp.strA qs.xs all i.toNat
   ·rw [if_pos (Sp.inr_iff.2 ⟨c1, a1⟩)]
    by_cases c2 : -240 <= Sp.num (Sp.strP qs.xs ps.xs i.toNat) (Sp.qPart qs.xs i.toNat).toNat
    ·rw [if_pos (Sp.inr_iff.2 ⟨c2, by omega⟩), if_pos ⟨c1, c2⟩]
    ·rw [if_neg (fun x => c2 (Sp.inr_iff.1 x).1), if_neg (fun x => c2 x.2)]
   ·rw [if_neg (fun x => c1 (Sp.inr_iff.1 x).1), if_neg (fun x => c1 x.1)]
  rw [hE] at h7 h0;rw [hnum] at h7 h0;have ez : (i + 1).toNat = i.toNat + 1 := by omega
  have htk : List.take (qs.xs.length - 1) (List.take i.toNat qs.xs ++ List.drop (i.toNat + 1) qs.xs ++ [[Cl.i 0, Cl.i 0, Cl.i 0, Cl.i 0, Cl.i 0]]) = Sp.strQ qs.xs i.toNat := by
   unfold Sp.strQ;exact List.take_left' (by simp; omega)
  have hrow : List.set ps.xs (Sp.qPart qs.xs i.toNat).toNat [Cl.i (Sp.num ps.xs (Sp.qPart qs.xs i.toNat).toNat - Sp.qPts qs.xs i.toNat)] = Sp.strP qs.xs ps.xs i.toNat := rfl;have hA : Sp.strA qs.xs all i.toNat = all - Sp.qPts qs.xs i.toNat := rfl;refine ned (by simp only [Bool.and_eq_true, decide_eq_true_eq]; omega) (nedd (by omega) (vif (fun c => ?_) fun _ => nedd (by omega) (ar64 (by omega) ⟨⟨by omega, rfl, by omega⟩, vif (fun c => ?_) fun _ => nedd (by omega) ?_⟩)))
  ·exfalso
   split at c
   ·exact Xft qs (by omega) _ _ (by assumption)
   ·cases c
  ·exfalso
   split at c
   ·exact Xft ps (by omega) _ _ (by assumption)
   ·cases c
  simp only [ez, Nat.zero_add, Nat.reduceAdd, Int.toNat_natCast, List.length_set, htk, show (cel qs.xs i.toNat 0).int = Sp.qPart qs.xs i.toNat from rfl, show (cel qs.xs i.toNat 3).int = Sp.qPts qs.xs i.toNat from rfl, show ∀ l k, (cel l k 0).int = Sp.num l k from fun _ _ => rfl];refine ned (by simp only [Bool.and_eq_true, decide_eq_true_eq]; omega) (nedd (by omega) (ar64 (by omega) (ned (by simp only [Bool.and_eq_true, decide_eq_true_eq]; omega) (nedd (by omega) (ar64 (by omega) (ned (by simp only [Bool.and_eq_true, decide_eq_true_eq]; omega) (nedd (by omega) ?_)))))));rw [hrow, hnum];refine vifd (fun c => h7 ?_) fun c => nedd (by simp; omega) ?_
  ·rw [if_neg (by rw [hA]; omega)]
  ·exact h0 (by rw [if_pos (by rw [hA]; omega)])
def Xmq : PC Try.prog := ⟨32, Xb7, Xfr, fun _ => True, Xc5, Xo8⟩
open Go.RowKit Go.Shelf
set_option maxRecDepth 1000000
set_option maxHeartbeats 4000000
def Xmp : Ren := ⟨fun i => match i with
  | 125 => 85
  | 128 => 98
  | 129 => 99
  | 189 => 64
  | 215 => 105
  | 216 => 95
  | 257 => 84
  | 294 => 89
  | 295 => 90
  | 296 => 91
  | 297 => 92
  | 298 => 93
  | 299 => 94
  | 300 => 96
  | 301 => 97
  | 328 => 100
  | 329 => 101
  | 330 => 102
  | 331 => 103
  | 332 => 104
  | 343 => 106
  | _ => 0, fun i => match i with
  | 0 => 0
  | 3 => 3
  | 4 => 4
  | 5 => 5
  | 9 => 9
  | 28 => 23
  | 46 => 120
  | 51 => 134
  | 53 => 136
  | 131 => 131
  | 182 => 125
  | 183 => 126
  | 218 => 137
  | 222 => 141
  | 228 => 143
  | 229 => 144
  | _ => 0, fun i => i⟩
theorem Xcz : Lays.n189 Try.prog Xmp := {
  mixed := Xa
  f125 := by kernel_rfl
  f128 := by kernel_rfl
  f129 := by kernel_rfl
  f189 := by kernel_rfl
  f215 := by kernel_rfl
  f216 := by kernel_rfl
  f257 := by kernel_rfl
  f294 := by kernel_rfl
  f295 := by kernel_rfl
  f296 := by kernel_rfl
  f297 := by kernel_rfl
  f298 := by kernel_rfl
  f299 := by kernel_rfl
  f300 := by kernel_rfl
  f301 := by kernel_rfl
  f328 := by kernel_rfl
  f329 := by kernel_rfl
  f330 := by kernel_rfl
  f331 := by kernel_rfl
  f332 := by kernel_rfl
  f343 := by kernel_rfl
  t0 := by kernel_rfl
  a0 := fun w => by kernel_rfl
  z0 := fun w => by kernel_rfl
  v0 := fun w => by kernel_rfl
  t3 := by kernel_rfl
  a3 := fun w => by kernel_rfl
  z3 := fun w => by kernel_rfl
  v3 := fun w => by kernel_rfl
  t4 := by kernel_rfl
  a4 := fun w => by kernel_rfl
  z4 := fun w => by kernel_rfl
  v4 := fun w => by kernel_rfl
  t5 := by kernel_rfl
  a5 := fun w => by kernel_rfl
  z5 := fun w => by kernel_rfl
  v5 := fun w => by kernel_rfl
  t9 := by kernel_rfl
  a9 := fun w => by kernel_rfl
  z9 := fun w => by kernel_rfl
  v9 := fun w => by kernel_rfl
  t28 := by kernel_rfl
  a28 := fun w => by kernel_rfl
  z28 := fun w => by kernel_rfl
  v28 := fun w => by kernel_rfl
  t46 := by kernel_rfl
  a46 := fun w => by kernel_rfl
  z46 := fun w => by kernel_rfl
  v46 := fun w => by kernel_rfl
  t51 := by kernel_rfl
  a51 := fun w => by kernel_rfl
  z51 := fun w => by kernel_rfl
  v51 := fun w => by kernel_rfl
  t53 := by kernel_rfl
  a53 := fun w => by kernel_rfl
  z53 := fun w => by kernel_rfl
  v53 := fun w => by kernel_rfl
  t131 := by kernel_rfl
  a131 := fun w => by kernel_rfl
  z131 := fun w => by kernel_rfl
  v131 := fun w => by kernel_rfl
  t182 := by kernel_rfl
  a182 := fun w => by kernel_rfl
  z182 := fun w => by kernel_rfl
  v182 := fun w => by kernel_rfl
  t183 := by kernel_rfl
  a183 := fun w => by kernel_rfl
  z183 := fun w => by kernel_rfl
  v183 := fun w => by kernel_rfl
  t218 := by kernel_rfl
  a218 := fun w => by kernel_rfl
  z218 := fun w => by kernel_rfl
  v218 := fun w => by kernel_rfl
  t222 := by kernel_rfl
  a222 := fun w => by kernel_rfl
  z222 := fun w => by kernel_rfl
  v222 := fun w => by kernel_rfl
  t228 := by kernel_rfl
  a228 := fun w => by kernel_rfl
  z228 := fun w => by kernel_rfl
  v228 := fun w => by kernel_rfl
  t229 := by kernel_rfl
  a229 := fun w => by kernel_rfl
  z229 := fun w => by kernel_rfl
  v229 := fun w => by kernel_rfl }
def Sp.numsOf (l : Dt) : List Int := l.map fun r => (r.getD 0 .z).int
def Sp.sortD (l : Dt) : Dt := ((Sp.numsOf l).mergeSort fun x y => decide (x <= y)).map fun n => [.i n]
theorem Xc0 (l : Dt) : Yk [.int .i64] l = (Sp.numsOf l).map (Value.int .i64) := by
 induction l with
 | nil => rfl
 | cons r l ih =>
  unfold Sp.numsOf at ih ⊢;simp only [Yk, List.map_cons, ih];cases r <;> rfl
theorem Xy (l : Dt) : Sp.numsOf (Sp.sortD l) = (Sp.numsOf l).mergeSort fun x y => decide (x <= y) := by
 unfold Sp.sortD Sp.numsOf;rw [List.map_map];exact List.map_id'' (fun _ => rfl) _
theorem Xg (l : Dt) : (Sp.numsOf l).length = l.length := by unfold Sp.numsOf; rw [List.length_map]
theorem X2 (l : Dt) : (Sp.sortD l).length = l.length := by unfold Sp.sortD; rw [List.length_map, List.length_mergeSort, Xg]
def Xmo [InW] (e : List Ed) (K : Nat -> List Ed -> Prop) : Prop := match e with
 | [.l l] => Pre (0 < l.length /\ l.length <= 1000) (K 0 [.l (Sp.sortD l)])
 | _ => False
def Xiw : CC where
 g := 64
 args := [.row 4]
 H := [(4, .arr 3 Jc)]
 outs := [⟨false, .tup [], [(4, .arr 3 Jc)], false⟩]
 spec := Xmo
theorem Xok : ∀ W : InW, @CallC W Try.prog Xiw := fun W xs ys e1 e2 h1 h2 K hs => by
 obtain ⟨x1, xs', a1, a2, rfl, rfl, ⟨rfl, rfl⟩, rfl, rfl⟩ := h1;obtain ⟨it, h', b1, b2, rfl, rfl, ⟨l, rfl, rfl⟩, rfl, rfl⟩ := h2;obtain ⟨⟨hl0, hl1⟩, hk⟩ : Pre (0 < l.length /\ l.length <= 1000) (K 0 [.l (Sp.sortD l)]) := hs;refine ⟨0, _, _, .tup [], _, [(4, .arr 3 Jc (Sp.sortD l))], hk, rfl, rfl, rfl, ?_⟩;intro φ w0 M R w hnd hS;have hS' : St w0 M ((It.arr 3 Jc l).conc φ 4 :: R) w := hS;have hfn := Y2g (by decide) hS';have hnil := Yc4 (by decide) hl0 hS';have hrow : w.ownsRow 0 3 1 (.slice (some ⟨(φ 4).b, 0, none⟩) (φ 4).fn (φ 4).c) (φ 4).fn (Yk [.int .i64] l) := by
  have := hS'.row (v := .slice (if (φ 4).nil then none else some ⟨(φ 4).b, 0, none⟩) (φ 4).fn (φ 4).c) Look.head;rw [hnil] at this;exact this
 rcases hrow.2 with ⟨h0, _⟩ | ⟨g, cap, cur, hv, hb, hg, hnc, hcm, hcs, ht⟩
 ·cases h0
 injection hv with v1 v2 v3
 injection v1 with v1
 injection v1 with v1
 have hzl := Xg l;have ht' : cur.toList.take (Sp.numsOf l).length = (Sp.numsOf l).map (Value.int .i64) := by
  rw [hzl, <- hfn, <- Xc0, <- ht, Nat.mul_one]
 have hH := holds_of_blockI hg ht';have hsz : g < w.heap.size := (Array.getElem?_eq_some_iff.1 hg).1;have hc := calls_of_every_depth fun D => AnyS.slices_Sort_int_in Xcz D g 0 cap (Sp.numsOf l) w hH hsz (by rw [hzl]; omega);have hx : (AV.concL φ [.rw 4]).toArray = #[Value.slice (some ⟨g, 0, none⟩) (Sp.numsOf l).length cap] := by
  simp [AV.concL, AV.conc, hnil, <- v1, v3, hfn, hzl]
 rw [hx];refine hc.mono ?_;rintro e w' ⟨rfl, n, os, rfl⟩;have hml : ((Sp.numsOf l).mergeSort fun x y => decide (x <= y)).length = (Sp.numsOf l).length := List.length_mergeSort _;have hown := ownsRow_sortedI (n := n) (os := os) (base := 0) hml (Nat.zero_le _) hg (by rw [hzl, <- hfn]; exact hnc) hcm hcs;have hgr := grownBy_sortedI (w := w) (g := g) (n := n) (os := os) ((Sp.numsOf l).mergeSort fun x y => decide (x <= y)).toArray;refine ⟨φ, fun _ => rfl, rfl, by simp [keys], ?_⟩;have hsl := X2 l;have hfl : Yk [.int .i64] (Sp.sortD l) = ((Sp.numsOf l).mergeSort fun x y => decide (x <= y)).map (Value.int .i64) := by rw [Xc0, Xy]
 have e1 : (It.arr 3 Jc l).conc φ 4 = .row (.slice (some ⟨g, 0, none⟩) (φ 4).fn cap) 3 1 (φ 4).fn (Yk [.int .i64] l) := by
  simp only [It.conc, hnil, <- v1, v3];rfl
 have e2 : (It.arr 3 Jc (Sp.sortD l)).conc φ 4 = .row (.slice (some ⟨g, 0, none⟩) (φ 4).fn cap) 3 1 (φ 4).fn (Yk [.int .i64] (Sp.sortD l)) := by
  simp only [It.conc, hnil, <- v1, v3];rfl
 rw [e1] at hS'
 change St w0 M ((It.arr 3 Jc (Sp.sortD l)).conc φ 4 :: R) _
 rw [e2];refine hS'.upd .head ⟨hgr.os, hgr.tape, hgr.output, hgr.size, fun k hk hm => hgr.block k hk (fun x => hm ?_)⟩ ?_ fun b hb => .inl hb
 ·injection x with x
  subst x;simp [Res.foot, Value.ownBlock]
 ·show World.ownsRow _ 0 3 1 _ _ _
  rw [hfl, hfn, <- hzl];exact hown
end Go.Proofs.Ytifhdbgciehicaa
namespace Go.Proofs.Ytifhdbgciehicaa
open Go.RowKit
set_option maxRecDepth 100000
set_option maxHeartbeats 1600000
structure CmR where
 i : Nat
 l : Dt
namespace Sp
def cmF (a : Nat) : Nat -> Nat -> CmR -> CmR
 | _, 0, r => r
 | k, n + 1, r => cmF a (k + 1) n (if num r.l (a + k) = num r.l (a + (k - 1)) then r else ⟨r.i + 1, r.l.set r.i [.i (num r.l (a + k))]⟩)
end Sp
def Xfp [InW] (e : List Ed) (K : Nat -> List Ed -> Prop) : Prop := match e with
 | [.i i, .i a, .i b, .i k, .l l] => Pre (1 <= k /\ k <= b /\ 1 <= a /\ a + b = l.length /\ a <= i /\ i < a + k /\ l.length <= 1000) (K 0 [.i ((Sp.cmF a.toNat k.toNat (b - k).toNat ⟨i.toNat, l⟩).i : Nat), .l (Sp.cmF a.toNat k.toNat (b - k).toNat ⟨i.toNat, l⟩).l])
 | _ => False
def Xhn : LC where
 len := 61
 T := [(0, (.row 3)), (3, .int .i64), (4, (.rwp 3 1)), (5, .int .i64)]
 H := [(3, .arr 3 Jc)]
 W := (rg 29 25)
 outs := [⟨.exit 2, [(0, (.row 6)), (3, .int .i64)], [(6, .arr 3 Jc)], ([4, 5] ++ rg 29 25)⟩]
 spec := Xfp
def Xen [W : InW] (i : Int) (a b : Nat) (k : Int) (l : Dt) (A : List Ed -> Prop) (K : Nat -> List Ed -> Prop) : Prop :=
 Vif (decide (k < (↑b : Int))) (Need (decide (0 <= k) && decide (k < (↑b : Int)) && decide (a + b <= l.length)) (Need (decide (a + k.toNat < l.length)) (Ar .i64 (k - 1) fun z => Need (decide (0 <= z) && decide (z < (↑b : Int)) && decide (a + b <= l.length)) (Need (decide (a + z.toNat < l.length)) (Vif (!decide ((cel l (a + k.toNat) Zd).int = (cel l (a + z.toNat) Zd).int)) (Need (decide (0 <= k) && decide (k < (↑b : Int)) && decide (a + b <= l.length)) (Need (decide (a + k.toNat < l.length)) (Need (decide (0 <= i) && decide (i < (↑(l.length) : Int))) (Need (decide (i.toNat < l.length)) (Ar .i64 (i + 1) fun z => Ar .i64 (k + 1) fun z_1 => A [.i z, .i (↑a : Int), .i (↑b : Int), .i z_1, .l (List.set l i.toNat [Cl.i (cel l (a + k.toNat) Zd).int])]))))) (Ar .i64 (k + 1) fun z => A [.i i, .i (↑a : Int), .i (↑b : Int), .i z, .l l])))))) (K 0 [.i i, .l l])
theorem Xl4 (W : InW) (i a b k l A K) : Yfc { cxT Try.prog TT T0 1000 50 with fn := 65 } 1000 (Yn7 Try.prog 65 10) (Yd6 61 [(0, .rw 3), (3, .si .i64 i), (4, .rwp 3 1 a b), (5, .si .i64 k)] (rg 29 25)) [(3, .arr 3 Jc l)] (Yuf Xhn A K) = Xen i a b k l A K := by kernel_rfl
def Xgs : Prop := ∀ (W : InW) (body a : Code), (Try.prog.funcs[65]?).bind (·.body) = some body -> a ∈ Yy body -> Yfw a = 10 -> @Ymq W Try.prog a (@Ytn W Xhn)
theorem Xnu (meas : [InW] -> List Ed -> Nat) (hyp_ : ∀ (W : InW) i (a b : Nat) k l K, Xfp [.i i, .i a, .i b, .i k, .l l] K -> ∀ A : List Ed -> Prop, (∀ e, meas e < meas [.i i, .i a, .i b, .i k, .l l] -> Xfp e K -> A e) -> Xen i a b k l A K) : Xgs :=
 LE.okOf' (fun W => @TT W) (fun W => @Xe W) Xa T0 1000 50 (by kernel_rfl) Xhn (fun W => @meas W) fun W i a b k l K hs =>
  (Xl4 W i a b k l (fun e => meas e < meas [.i i, .i a, .i b, .i k, .l l] /\ Xfp e K) K).mpr (hyp_ W i a b k l K hs _ fun e h1 h2 => ⟨h1, h2⟩)
theorem Xqi : Xgs := Xnu (fun e => match e with | [_, _, .i b, .i k, _] => (b - k).toNat | _ => 0) fun W i a b k l K hs A hA => by
 obtain ⟨⟨h1, h2, h3, h4, h5, h6, h7⟩, hk⟩ := hs;unfold Xen;delta Zd;simp only [show ∀ j, (cel l j 0).int = Sp.num l j from fun _ => rfl];have ez : (k + 1).toNat = k.toNat + 1 := by omega
 have em : (k - 1).toNat = k.toNat - 1 := by omega
 have ei : ((i.toNat : Nat) : Int) = i := Int.toNat_of_nonneg (by omega);simp only [Int.toNat_natCast] at hk
 by_cases hkb : k < b
 ·rw [show ((b : Int) - k).toNat = ((b : Int) - (k + 1)).toNat + 1 by omega] at hk;simp only [Sp.cmF] at hk
  by_cases c : Sp.num l (a + k.toNat) = Sp.num l (a + (k.toNat - 1))
  ·rw [if_pos c] at hk;have hA' := hA [.i i, .i a, .i b, .i (k + 1), .l l] (show ((b : Int) - (k + 1)).toNat < ((b : Int) - k).toNat by omega) ⟨⟨by omega, by omega, h3, h4, h5, by omega, h7⟩, by rw [ez]; simp only [Int.toNat_natCast]; exact hk⟩;clear hA hk;rw [<- em] at c
   repeat' (first | omega | with_reducible refine vifd (fun _ => ?_) fun _ => ?_ | with_reducible refine vifn (fun _ => ?_) fun _ => ?_ | with_reducible refine vifq (fun _ => ?_) fun _ => ?_ | with_reducible refine Xd (fun _ => ?_) fun _ => ?_ | with_reducible refine Xc (fun _ => ?_) fun _ => ?_ | with_reducible refine vifb (fun _ => ?_) fun _ => ?_ | with_reducible refine vif (fun _ => ?_) fun _ => ?_ | (with_reducible refine nedd ?_ ?_; omega) | (with_reducible refine ned ?_ ?_; simp only [Bool.and_eq_true, decide_eq_true_eq]; omega) | (with_reducible refine ar64 ?_ ?_; omega) | (with_reducible refine Xb ?_ ?_; (first | trivial | omega | assumption | (refine ⟨?_, ?_⟩ <;> first | trivial | omega | assumption) | (refine ⟨?_, ?_, ?_⟩ <;> first | trivial | omega | assumption) | (refine ⟨?_, ?_, ?_, ?_⟩ <;> first | trivial | omega | assumption))))
   all_goals first | contradiction | exact hA' | skip
  ·rw [if_neg c] at hk;have hA' := hA [.i (i + 1), .i a, .i b, .i (k + 1), .l (l.set i.toNat [.i (Sp.num l (a + k.toNat))])] (show ((b : Int) - (k + 1)).toNat < ((b : Int) - k).toNat by omega) ⟨⟨by omega, by omega, h3, by rw [List.length_set]; exact h4, by omega, by omega, by rw [List.length_set]; exact h7⟩, by
    rw [ez, show (i + 1).toNat = i.toNat + 1 by omega];simp only [Int.toNat_natCast];exact hk⟩
   clear hA hk;rw [<- em] at c
   repeat' (first | omega | with_reducible refine vifd (fun _ => ?_) fun _ => ?_ | with_reducible refine vifn (fun _ => ?_) fun _ => ?_ | with_reducible refine vifq (fun _ => ?_) fun _ => ?_ | with_reducible refine Xd (fun _ => ?_) fun _ => ?_ | with_reducible refine Xc (fun _ => ?_) fun _ => ?_ | with_reducible refine vifb (fun _ => ?_) fun _ => ?_ | with_reducible refine vif (fun _ => ?_) fun _ => ?_ | (with_reducible refine nedd ?_ ?_; omega) | (with_reducible refine ned ?_ ?_; simp only [Bool.and_eq_true, decide_eq_true_eq]; omega) | (with_reducible refine ar64 ?_ ?_; omega) | (with_reducible refine Xb ?_ ?_; (first | trivial | omega | assumption | (refine ⟨?_, ?_⟩ <;> first | trivial | omega | assumption) | (refine ⟨?_, ?_, ?_⟩ <;> first | trivial | omega | assumption) | (refine ⟨?_, ?_, ?_, ?_⟩ <;> first | trivial | omega | assumption))))
   all_goals first | contradiction | exact hA' | skip
 ·rw [show ((b : Int) - k).toNat = 0 by omega] at hk;simp only [Sp.cmF, ei] at hk;clear hA
  repeat' (first | omega | with_reducible refine vifd (fun _ => ?_) fun _ => ?_ | with_reducible refine vifn (fun _ => ?_) fun _ => ?_ | with_reducible refine vifq (fun _ => ?_) fun _ => ?_ | with_reducible refine Xd (fun _ => ?_) fun _ => ?_ | with_reducible refine Xc (fun _ => ?_) fun _ => ?_ | with_reducible refine vifb (fun _ => ?_) fun _ => ?_ | with_reducible refine vif (fun _ => ?_) fun _ => ?_ | (with_reducible refine nedd ?_ ?_; omega) | (with_reducible refine ned ?_ ?_; simp only [Bool.and_eq_true, decide_eq_true_eq]; omega) | (with_reducible refine ar64 ?_ ?_; omega) | (with_reducible refine Xb ?_ ?_; (first | trivial | omega | assumption | (refine ⟨?_, ?_⟩ <;> first | trivial | omega | assumption) | (refine ⟨?_, ?_, ?_⟩ <;> first | trivial | omega | assumption) | (refine ⟨?_, ?_, ?_, ?_⟩ <;> first | trivial | omega | assumption))))
  all_goals exact hk
def Xrf : LE Try.prog := ⟨65, 10, fun W => @Ytn W Xhn, Xqi⟩
def T72 : Tab Try.prog := ⟨[], [Xrf], []⟩
namespace Sp
def dupI (l : Dt) (k : Nat) : Bool := decide (num l k = num l (k - 1))
def cmR (l : Dt) (j : Nat) : CmR := cmF j 1 (l.length - j - 1) ⟨j, l⟩
theorem cmF_facts (a : Nat) : ∀ n k r, 1 <= k -> a <= r.i -> r.i < a + k -> a + k + n <= r.l.length -> (cmF a k n r).l.length = r.l.length /\ a <= (cmF a k n r).i /\ (cmF a k n r).i < a + k + n
 | 0, k, r, _, h1, h2, _ => ⟨rfl, h1, h2⟩
 | n + 1, k, r, h0, h1, h2, h3 => by
  simp only [cmF]
  split
  ·have := cmF_facts a n (k + 1) r (by omega) h1 (by omega) (by omega);omega
  ·have := cmF_facts a n (k + 1) ⟨r.i + 1, r.l.set r.i [.i (num r.l (a + k))]⟩ (by omega) (by simp only []; omega) (by simp only []; omega) (by simp only [List.length_set]; omega);simp only [List.length_set] at this;omega
end Sp
def Xfo [InW] (e : List Ed) (K : Nat -> List Ed -> Prop) : Prop := match e with
 | [.i i, .l l] => Pre (1 <= i /\ i <= l.length /\ l.length <= 1000) (Vif (Sp.anyF (Sp.dupI l) i.toNat (l.length - i.toNat)) (K 1 [.i ((0 : Nat) : Int), .i ((Sp.cmR l (Sp.fstF (Sp.dupI l) i.toNat (l.length - i.toNat))).i : Nat), .l (clD (Sp.cmR l (Sp.fstF (Sp.dupI l) i.toNat (l.length - i.toNat))).l (Sp.cmR l (Sp.fstF (Sp.dupI l) i.toNat (l.length - i.toNat))).i (l.length - (Sp.cmR l (Sp.fstF (Sp.dupI l) i.toNat (l.length - i.toNat))).i) [.i 0])]) (K 0 [.l l]))
 | _ => False
def Xhm : LC where
 len := 61
 T := [(0, (.row 3)), (3, .int .i64)]
 H := [(3, .arr 3 Jc)]
 W := ([2, 4, 5] ++ rg 10 50)
 outs := [⟨.exit 0, [(0, (.row 6))], [(6, .arr 3 Jc)], (rg 2 4 ++ rg 10 50)⟩, ⟨.ret, [(2, (.rwp 6 1))], [(6, .arr 3 Jc)], ([0, 3, 4, 5] ++ rg 10 50)⟩]
 spec := Xfo
def Zem [W : InW] (i : Int) (l : Dt) := Sp.cmF (↑i.toNat : Int).toNat (Int.toNat (1 : Int)) ((↑(l.length - i.toNat) : Int) - 1).toNat { i := i.toNat, l := l }
def Zeo [W : InW] (i : Int) (l : Dt) := (↑(Zem i l).1 : Int)
def Zen [W : InW] (i : Int) (l : Dt) := List.take (Zeo i l).toNat (Zem i l).2 ++ List.replicate (List.length (Zem i l).2 - (Zeo i l).toNat) (Ybr [Ty.int IntKind.i64]) ++ List.drop ((Zeo i l).toNat + (List.length (Zem i l).2 - (Zeo i l).toNat)) (Zem i l).2
def Xem [W : InW] (i : Int) (l : Dt) (A : List Ed -> Prop) (K : Nat -> List Ed -> Prop) : Prop :=
 Vif (decide (i < (↑(l.length) : Int))) (Need (decide (0 <= i) && decide (i < (↑(l.length) : Int))) (Need (decide (i.toNat < l.length)) (Ar .i64 (i - 1) fun z => Need (decide (0 <= z) && decide (z < (↑(l.length) : Int))) (Need (decide (z.toNat < l.length)) (Vif (decide ((cel l i.toNat Zd).int = (cel l z.toNat Zd).int)) (Need (decide (0 <= i)) (Need (decide (i.toNat <= l.length) && decide (l.length <= l.length)) (Pre ((1 : Int) <= 1 /\ (1 : Int) <= (↑(l.length - i.toNat) : Int) /\ (1 : Int) <= (↑i.toNat : Int) /\ (↑i.toNat : Int) + (↑(l.length - i.toNat) : Int) = (↑(l.length) : Int) /\ (↑i.toNat : Int) <= i /\ i < (↑i.toNat : Int) + 1 /\ l.length <= 1000) (Need (decide ((0 : Int) <= (Zeo i l))) (Need (decide ((Zeo i l).toNat <= List.length (Zem i l).2) && decide (List.length (Zem i l).2 <= List.length (Zem i l).2)) (Need (decide ((Zeo i l).toNat + (List.length (Zem i l).2 - (Zeo i l).toNat) <= List.length (Zem i l).2)) (Need (decide ((0 : Int) <= (Zeo i l))) (Need (decide (Zd <= (Zeo i l).toNat) && decide ((Zeo i l).toNat <= (Zen i l).length)) (K (0+1) [.i (↑Zd : Int), .i (↑((Zeo i l).toNat - 0) : Int), .l (Zen i l)]))))))))) (Ar .i64 (i + 1) fun z => A [.i z, .l l])))))) (K 0 [.l l])
theorem Xl3 (W : InW) (i l A K) : Yfc { cxT Try.prog TT T72 1000 50 with fn := 65 } 1000 (Yn7 Try.prog 65 5) (Yd6 61 [(0, .rw 3), (3, .si .i64 i)] ([2, 4, 5] ++ rg 10 50)) [(3, .arr 3 Jc l)] (Yuf Xhm A K) = Xem i l A K := by kernel_rfl
def Xgr : Prop := ∀ (W : InW) (body a : Code), (Try.prog.funcs[65]?).bind (·.body) = some body -> a ∈ Yy body -> Yfw a = 5 -> @Ymq W Try.prog a (@Ytn W Xhm)
theorem Xnt (meas : [InW] -> List Ed -> Nat) (hyp_ : ∀ (W : InW) i l K, Xfo [.i i, .l l] K -> ∀ A : List Ed -> Prop, (∀ e, meas e < meas [.i i, .l l] -> Xfo e K -> A e) -> Xem i l A K) : Xgr :=
 LE.okOf' (fun W => @TT W) (fun W => @Xe W) Xa T72 1000 50 (by kernel_rfl) Xhm (fun W => @meas W) fun W i l K hs =>
  (Xl3 W i l (fun e => meas e < meas [.i i, .l l] /\ Xfo e K) K).mpr (hyp_ W i l K hs _ fun e h1 h2 => ⟨h1, h2⟩)
theorem Xqh : Xgr := Xnt (fun e => match e with | [.i i, .l l] => ((l.length : Int) - i).toNat | _ => 0) fun W i l K hs A hA => by
 obtain ⟨⟨h1, h2, h3⟩, hk⟩ := hs;unfold Xem;delta Zen Zeo Zem Zd;have ez : (i + 1).toNat = i.toNat + 1 := by omega
 have em : (i - 1).toNat = i.toNat - 1 := by omega
 simp only [show ∀ j, (cel l j 0).int = Sp.num l j from fun _ => rfl]
 by_cases hi : i < l.length
 ·rw [show l.length - i.toNat = (l.length - (i.toNat + 1)) + 1 by omega] at hk;simp only [Sp.anyF, Sp.fstF] at hk
  by_cases c : Sp.num l i.toNat = Sp.num l (i.toNat - 1)
  ·have c2 : Sp.dupI l i.toNat = true := decide_eq_true c;rw [c2, Bool.true_or, if_pos rfl] at hk;have hk := hk.1 rfl;have hf := Sp.cmF_facts i.toNat (l.length - i.toNat - 1) 1 ⟨i.toNat, l⟩ (by omega) (Nat.le_refl _) (by simp only []; omega) (by simp only []; omega);have e0 : ((l.length - i.toNat : Nat) : Int) - 1 = ((l.length - i.toNat - 1 : Nat) : Int) := by omega
   simp only [Int.toNat_natCast, show Int.toNat 1 = 1 from rfl, e0, show Sp.cmF i.toNat 1 (l.length - i.toNat - 1) ⟨i.toNat, l⟩ = Sp.cmR l i.toNat from rfl, show Ybr [.int .i64] = [Cl.i 0] from rfl];rw [show Sp.cmF i.toNat 1 (l.length - i.toNat - 1) ⟨i.toNat, l⟩ = Sp.cmR l i.toNat from rfl] at hf;rw [<- em] at c;clear hA;generalize Sp.cmR l i.toNat = r at *;obtain ⟨ri, rl⟩ := r;simp only at hf hk ⊢;rw [hf.1];simp only [clD] at hk
   repeat' (first | (with_reducible refine Xb ⟨by omega, by omega, by omega, by omega, by omega, by omega, h3⟩ ?_) | omega | with_reducible refine vifd (fun _ => ?_) fun _ => ?_ | with_reducible refine vifn (fun _ => ?_) fun _ => ?_ | with_reducible refine vifq (fun _ => ?_) fun _ => ?_ | with_reducible refine Xd (fun _ => ?_) fun _ => ?_ | with_reducible refine Xc (fun _ => ?_) fun _ => ?_ | with_reducible refine vifb (fun _ => ?_) fun _ => ?_ | with_reducible refine vif (fun _ => ?_) fun _ => ?_ | (with_reducible refine nedd ?_ ?_; omega) | (with_reducible refine ned ?_ ?_; simp only [Bool.and_eq_true, decide_eq_true_eq]; omega) | (with_reducible refine ar64 ?_ ?_; omega) | (with_reducible refine Xb ?_ ?_; (first | trivial | omega | assumption | (refine ⟨?_, ?_⟩ <;> first | trivial | omega | assumption) | (refine ⟨?_, ?_, ?_⟩ <;> first | trivial | omega | assumption) | (refine ⟨?_, ?_, ?_, ?_⟩ <;> first | trivial | omega | assumption))))
   all_goals first | contradiction | exact hk | (refine ned (by simp; omega) ?_; exact hk) | skip
  ·have c2 : Sp.dupI l i.toNat = false := decide_eq_false c;rw [c2, Bool.false_or, if_neg (by decide)] at hk;have hA' := hA [.i (i + 1), .l l] (show ((l.length : Int) - (i + 1)).toNat < ((l.length : Int) - i).toNat by omega) ⟨⟨by omega, by omega, h3⟩, by rw [ez]; exact hk⟩;rw [<- em] at c;refine vifd (fun _ => ned (by simp; omega) (nedd (by omega) (ar64 (by omega) (ned (by simp; omega) (nedd (by omega) (vifd (fun x => absurd x c) fun _ => ar64 (by omega) hA')))))) fun x => absurd hi x
 ·rw [show l.length - i.toNat = 0 by omega] at hk;clear hA;refine vifd (fun x => absurd x hi) fun _ => hk.2 rfl
def Xre : LE Try.prog := ⟨65, 5, fun W => @Ytn W Xhm, Xqh⟩
def T73 : Tab Try.prog := ⟨[], [Xre], []⟩
namespace Sp
def cpN (l : Dt) : Nat := (cmR l (fstF (dupI l) 1 (l.length - 1))).i
def cpL (l : Dt) : Dt := clD (cmR l (fstF (dupI l) 1 (l.length - 1))).l (cpN l) (l.length - cpN l) [.i 0]
end Sp
def Xk3 [InW] (e : List Ed) (K : Nat -> List Ed -> Prop) : Prop := match e with
 | [.l l] => Pre (l.length <= 1000) (Vif (decide (2 <= l.length) && Sp.anyF (Sp.dupI l) 1 (l.length - 1)) (K 1 [.i ((0 : Nat) : Int), .i (Sp.cpN l : Nat), .l (Sp.cpL l)]) (K 0 [.l l]))
 | _ => False
def X5 : CC where
 g := 65
 args := [(.row 3)]
 H := [(3, .arr 3 Jc)]
 outs := [⟨false, (.row 6), [(6, .arr 3 Jc)], false⟩, ⟨false, (.rwp 6 1), [(6, .arr 3 Jc)], false⟩]
 spec := Xk3
def Zep [W : InW] (l : Dt) := Sp.cmR l (Sp.fstF (Sp.dupI l) (Int.toNat (1 : Int)) (l.length - Int.toNat (1 : Int)))
def Xeu [W : InW] (l : Dt) (K : Nat -> List Ed -> Prop) : Prop :=
 Vif (decide ((↑(l.length) : Int) < 2)) (K 0 [Ed.l l]) (Pre ((1 : Int) <= 1 /\ (1 : Int) <= (↑(l.length) : Int) /\ l.length <= 1000) (Vif (Sp.anyF (Sp.dupI l) (Int.toNat (1 : Int)) (l.length - Int.toNat (1 : Int))) (K (0+1) [Ed.i (↑(↑(0 : Nat) : Int).toNat : Int), Ed.i (↑(↑(Zep l).1 : Int).toNat : Int), Ed.l (List.take (Zep l).1 (Zep l).2 ++ List.replicate (l.length - (Zep l).1) [Cl.i 0] ++ List.drop ((Zep l).1 + (l.length - (Zep l).1)) (Zep l).2)]) (K 0 [Ed.l l])))
theorem Xmb (W : InW) (l K) : Ywq (cxT Try.prog TT T73 1000 50) 1000 65 [.rw 3] [(3, .arr 3 Jc l)] (fun v h => outC X5.H [.l l] X5.outs 0 false v h K) (fun v h => outC X5.H [.l l] X5.outs 0 true v h K) = Xeu l K := by kernel_rfl
theorem Xn1 (hyp_ : ∀ (W : InW) l K, Xk3 [.l l] K -> Xeu l K) : ∀ W : InW, @CallC W Try.prog X5 :=
 CC.okOf (fun W => @TT W) (fun W => @Xe W) Xa T73 1000 50 X5 fun W l K hs => (Xmb W l K).mpr (hyp_ W l K hs)
theorem Xqm : ∀ W : InW, @CallC W Try.prog X5 := Xn1 fun W l K hs => by
 obtain ⟨h1, hk⟩ := hs;unfold Xeu;delta Zep;refine vifd (fun e => ?_) fun e => ⟨⟨by omega, by omega, h1⟩, ?_⟩
 ·rw [decide_eq_false (by omega), Bool.false_and] at hk;exact hk.2 rfl
 ·rw [decide_eq_true (by omega), Bool.true_and] at hk;exact hk
def T74 : Tab Try.prog := ⟨[Xo3], [], [ceOf Xp Xip]⟩
abbrev LPsc : LI := lpAt Try.prog 25 0
namespace Sp
def ttW (qs ps sh u : Dt) (k : Nat) : Int := total (mkW qs ps sh u k)
def ttL (qs ps sh u : Dt) : Nat -> Nat -> Dt
 | _, 0 => []
 | i, n + 1 => [.i (ttW qs ps sh u i)] :: ttL qs ps sh u (i + 1) n
end Sp
def Xe6 [InW] (e : List Ed) (K : Nat -> List Ed -> Prop) : Prop := match e with
 | [.i n, .i i, .ro _ qs, .ro _ ps, .i all, .ro _ sh, .l u, .l l] => Pre (0 <= i /\ i <= n /\ n <= 128 /\ Sp.KeyOk qs.xs ps.xs all /\ Sp.SeOk qs.xs sh.xs u /\ l.length <= i) (K 0 [.ro _ qs, .ro _ ps, .i all, .ro _ sh, .l u, .l (l ++ Sp.ttL qs.xs ps.xs sh.xs u i.toNat (n - i).toNat)])
 | _ => False
def Xg6 : LC where
 len := 18
 T := [(0, (.yl 1)), (1, (.ptr 10 0)), (9, .int .i64), (10, .int .i64)]
 H := [(1, .lp LPsc [(.opq 1501), (.opq 1504), (.opq 1507), (.opq 1510), (.opq 1513), (.ptr 22 0), (.opq 1519), (.ptr 25 0), (.opq 321), (.opq 1528), (.opq 1531), (.opq 1534), (.opq 1537), (.opq 1540), (.opq 1543), (.opq 1546), (.opq 1549), (.opq 1552), (.opq 1555), (.opq 1558), (.opq 357), (.opq 360), (.opq 363), (.opq 366), (.opq 369), (.opq 372), (.opq 375), (.opq 378), (.opq 1585), (.opq 1588), (.opq 1591), (.opq 1594)]), (10, .blk 85 [(.ptr 4 0)]), (4, .blk 89 [.rs Iv5, .rs Jc, .int .i64, .rs Jb, (.row 7)]), (7, .arr 44 Ja), (25, .blk 85 [(.ptr 4 0)]), (22, .blk 23 [(.row 3)]), (3, .arr 3 Jc)]
 W := ([3] ++ rg 11 7)
 outs := [⟨.exit 0, [], [(1, .lp LPsc [(.opq 1501), (.opq 1504), (.opq 1507), (.opq 1510), (.opq 1513), (.ptr 22 0), (.opq 1519), (.ptr 25 0), (.opq 621), (.opq 1528), (.opq 1531), (.opq 1534), (.opq 1537), (.opq 1540), (.opq 1543), (.opq 1546), (.opq 1549), (.opq 1552), (.opq 1555), (.opq 1558), (.opq 657), (.opq 660), (.opq 663), (.opq 666), (.opq 669), (.opq 672), (.opq 675), (.opq 678), (.opq 1585), (.opq 1588), (.opq 1591), (.opq 1594)]), (621, .dead), (657, .dead), (660, .dead), (663, .dead), (666, .dead), (669, .dead), (672, .dead), (675, .dead), (678, .dead), (10, .blk 85 [(.ptr 4 0)]), (4, .blk 89 [.rs Iv5, .rs Jc, .int .i64, .rs Jb, (.row 7)]), (7, .arr 44 Ja), (25, .blk 85 [(.ptr 4 0)]), (22, .blk 23 [(.row 6)]), (6, .arr 3 Jc)], ([0, 1, 3] ++ rg 9 9)⟩]
 spec := Xe6
def Xd5 [W : InW] (n i : Int) (qs : Ro Iv5) (ps : Ro Jc) (all : Int) (sh : Ro Jb) (u l : Dt) (A : List Ed -> Prop) (K : Nat -> List Ed -> Prop) : Prop :=
 Vif (decide (i < n)) (Pre (0 <= i /\ Sp.KeyOk qs.xs ps.xs all /\ Sp.SeOk qs.xs sh.xs u) (Pre (Sp.Low (Sp.mkW qs.xs ps.xs sh.xs u i)) (Need (decide ((l.length + [[Cl.i (Sp.total (Sp.mkW qs.xs ps.xs sh.xs u i))]].length) * 8 <= 140737488355328)) (Ar .i64 (i + 1) fun z => PreL LPsc LPsc (A [.i n, .i z, .ro _ qs, .ro _ ps, .i all, .ro Zdz sh, .l u, .l (l ++ [[Cl.i (Sp.total (Sp.mkW qs.xs ps.xs sh.xs u i))]])]))))) (PreL LPsc LPsc (K 0 [.ro _ qs, .ro _ ps, .i all, .ro Zdz sh, .l u, .l l]))
theorem Xlm (W : InW) (n i qs ps all sh u l A K) : Yfc { cxT Try.prog TT T74 1000 50 with fn := 83 } 1000 (Yn7 Try.prog 83 2) (Yd6 18 [(0, .yl 1), (1, .ptr 10 0), (9, .si .i64 n), (10, .si .i64 i)] ([3] ++ rg 11 7)) [(1, .lp LPsc [.opq 1501, .opq 1504, .opq 1507, .opq 1510, .opq 1513, .ptr 22 0, .opq 1519, .ptr 25 0, .opq 321, .opq 1528, .opq 1531, .opq 1534, .opq 1537, .opq 1540, .opq 1543, .opq 1546, .opq 1549, .opq 1552, .opq 1555, .opq 1558, .opq 357, .opq 360, .opq 363, .opq 366, .opq 369, .opq 372, .opq 375, .opq 378, .opq 1585, .opq 1588, .opq 1591, .opq 1594]), (10, .blk 85 [.ptr 4 0]), (4, .blk 89 [.rs _ qs, .rs _ ps, .si .i64 all, .rs _ sh, .rw 7]), (7, .arr 44 Ja u), (25, .blk 85 [.ptr 4 0]), (22, .blk 23 [.rw 3]), (3, .arr 3 Jc l)] (Yuf Xg6 A K) = Xd5 n i qs ps all sh u l A K := by kernel_rfl
def Xgb : Prop := ∀ (W : InW) (body a : Code), (Try.prog.funcs[83]?).bind (·.body) = some body -> a ∈ Yy body -> Yfw a = 2 -> @Ymq W Try.prog a (@Ytn W Xg6)
theorem Xnc (meas : [InW] -> List Ed -> Nat) (hyp_ : ∀ (W : InW) n i qs ps all sh u l K, Xe6 [.i n, .i i, .ro _ qs, .ro _ ps, .i all, .ro _ sh, .l u, .l l] K -> ∀ A : List Ed -> Prop, (∀ e, meas e < meas [.i n, .i i, .ro _ qs, .ro _ ps, .i all, .ro _ sh, .l u, .l l] -> Xe6 e K -> A e) -> Xd5 n i qs ps all sh u l A K) : Xgb :=
 LE.okOf' (fun W => @TT W) (fun W => @Xe W) Xa T74 1000 50 (by kernel_rfl) Xg6 (fun W => @meas W) fun W n i qs ps all sh u l K hs =>
  (Xlm W n i qs ps all sh u l (fun e => meas e < meas [.i n, .i i, .ro _ qs, .ro _ ps, .i all, .ro _ sh, .l u, .l l] /\ Xe6 e K) K).mpr (hyp_ W n i qs ps all sh u l K hs _ fun e h1 h2 => ⟨h1, h2⟩)
theorem Xp0 : Xgb := Xnc (fun e => match e with | .i n :: .i i :: _ => (n - i).toNat | _ => 0) fun W n i qs ps all sh u l K hs A hA => by
 obtain ⟨⟨h0, h1, h2, hkey, hse, hl⟩, hk⟩ := hs;unfold Xd5;delta Zdz;have ez : (i + 1).toNat = i.toNat + 1 := by omega
 have ei : ((i.toNat : Nat) : Int) = i := Int.toNat_of_nonneg h0
 by_cases hi : i < n
 ·rw [show (n - i).toNat = (n - (i + 1)).toNat + 1 by omega] at hk;simp only [Sp.ttL, Sp.ttW, ei] at hk;rw [show ∀ (a : List Cl) b, l ++ a :: b = (l ++ [a]) ++ b from fun a b => by simp] at hk;have hA' := hA [.i n, .i (i + 1), .ro _ qs, .ro _ ps, .i all, .ro _ sh, .l u, .l (l ++ [[.i (Sp.total (Sp.mkW qs.xs ps.xs sh.xs u i))]])] (show (n - (i + 1)).toNat < (n - i).toNat by omega) ⟨⟨by omega, by omega, h2, hkey, hse, by simp; omega⟩, by rw [ez]; exact hk⟩;clear hA hk;exact vifd (fun _ => ⟨⟨h0, hkey, hse⟩, ⟨Sp.mkW_low hkey, nedd (by simp; omega) (ar64 (by omega) ⟨rfl, hA'⟩)⟩⟩) fun x => absurd hi x
 ·rw [show (n - i).toNat = 0 by omega] at hk;simp only [Sp.ttL, List.append_nil] at hk;clear hA;exact vifd (fun x => absurd x hi) fun _ => ⟨rfl, hk⟩
def Xqz : LE Try.prog := ⟨83, 2, fun W => @Ytn W Xg6, Xp0⟩
def T76 : Tab Try.prog := ⟨[], [Xqz], [ceOf Xh Xbf, ceOf Xiw Xok, ceOf X5 Xqm]⟩
def Xdn [W : InW] (kQ : Ro Iv5) (kP : Ro Jc) (kA : Int) (sh : Ro Jb) (Q : DS -> Prop) : Prop :=
 Vif (decide (Sp.askE kQ.xs kP.xs kA sh.xs = 0)) (Need (decide ((0 : Int) <= (↑(List.length (Sp.uns sh.xs)) : Int))) (Ar .i64 ((1 : Int) * 2 ^ min (↑(List.length (Sp.uns sh.xs)) : Int).toNat (64 : Nat)) fun z => PreL LPsc LPsc (Pre ((0 : Int) <= 0 /\ 0 <= z /\ z <= 128 /\ Sp.KeyOk kQ.xs kP.xs kA /\ Sp.SeOk kQ.xs sh.xs (Sp.uns sh.xs) /\ (↑(0 : Nat) : Int) <= 0) (Pre ((0 : Nat) < List.length (Sp.ttL kQ.xs kP.xs sh.xs (Sp.uns sh.xs) Za (z - 0).toNat) /\ List.length (Sp.ttL kQ.xs kP.xs sh.xs (Sp.uns sh.xs) Za (z - 0).toNat) <= 1000) (Pre (List.length (Sp.sortD (Sp.ttL kQ.xs kP.xs sh.xs (Sp.uns sh.xs) Za (z - 0).toNat)) <= 1000) (Vif (decide ((2 : Nat) <= List.length (Sp.sortD (Sp.ttL kQ.xs kP.xs sh.xs (Sp.uns sh.xs) Za (z - 0).toNat))) && Sp.anyF (Sp.dupI (Sp.sortD (Sp.ttL kQ.xs kP.xs sh.xs (Sp.uns sh.xs) Za (z - 0).toNat))) (1 : Nat) (List.length (Sp.sortD (Sp.ttL kQ.xs kP.xs sh.xs (Sp.uns sh.xs) Za (z - 0).toNat)) - 1)) (Need (decide ((↑(Sp.cpN (Sp.sortD (Sp.ttL kQ.xs kP.xs sh.xs (Sp.uns sh.xs) Za (z - 0).toNat))) : Int).toNat <= List.length (Sp.cpL (Sp.sortD (Sp.ttL kQ.xs kP.xs sh.xs (Sp.uns sh.xs) Za (z - 0).toNat))))) (Q [[Cl.l (List.take (↑(Sp.cpN (Sp.sortD (Sp.ttL kQ.xs kP.xs sh.xs (Sp.uns sh.xs) Za (z - 0).toNat))) : Int).toNat (Sp.cpL (Sp.sortD (Sp.ttL kQ.xs kP.xs sh.xs (Sp.uns sh.xs) Za (z - 0).toNat))))], [Cl.i 0]])) (Q [[Cl.l (Sp.sortD (Sp.ttL kQ.xs kP.xs sh.xs (Sp.uns sh.xs) Za (z - 0).toNat))], [Cl.i 0]]))))))) (Vif (!decide (Sp.askE kQ.xs kP.xs kA sh.xs = 0)) (Q [[Cl.l []], [Cl.i (Sp.askE kQ.xs kP.xs kA sh.xs)]]) ((16 : Nat) = 16 + 1))
theorem Xmg (W : InW) (kQ kP kA sh Q) : Ywt (cxT Try.prog TT T76 1000 50) 1000 25 [.agg [.rs _ kQ, .rs _ kP, .si .i64 kA], .rs _ sh] [] 0 (Y02 [(false, [.row 3 Jc]), (false, [.int .i64])] Q) (fun _ _ _ _ => Stuck 421) = Xdn kQ kP kA sh Q := by kernel_rfl
abbrev Xb8 : List AT := [.agg [.sl Iv5, .sl Jc, .int .i64], .one (.sl Jb)]
theorem Xn7 {pre : DS -> Prop} {res : DS -> DS} (hyp_ : ∀ (W : InW) (kQ : Ro Iv5) (kP : Ro Jc) (kA : Int) (sh : Ro Jb), pre [[.l kQ.xs, .l kP.xs, .i kA], [.l sh.xs]] -> ∀ Q : DS -> Prop, Q (res [[.l kQ.xs, .l kP.xs, .i kA], [.l sh.xs]]) -> Xdn kQ kP kA sh Q) : PureOk Try.prog 25 Xb8 [(false, [.row 3 Jc]), (false, [.int .i64])] pre res :=
 PureOk.of' (fun W => @TT W) (fun W => @Xe W) Xa T76 1000 50 fun W kQ kP kA sh hp =>
  (Xmg W kQ kP kA sh (fun o => o = res [[.l kQ.xs, .l kP.xs, .i kA], [.l sh.xs]])).mpr (hyp_ W kQ kP kA sh hp _ rfl)
end Go.Proofs.Ytifhdbgciehicaa
