/-
  'AnswerStruck': for every input the law returns true, and what is handed in reads as before. No condition.
-/
import Derived.Test.YtifhdbgciehicaaQskb
set_option linter.unusedVariables false
set_option linter.unusedSectionVars false
set_option linter.unusedSimpArgs false
noncomputable section
namespace Go.Proofs.Ytifhdbgciehicaa
open Go.RowKit
abbrev Jd : List Ty := [.bool]
set_option maxRecDepth 100000
set_option maxHeartbeats 1600000
abbrev LPtb : LI := lpAt Try.prog 70 0
namespace Sp
def psb (ps : Dt) (k : Nat) : Bool := (cel ps k 0).bool
def fit (a b : Int) (k : Nat) : Bool := decide (andI .i64 k a = b)
def fitA (ps : Dt) (a b : Int) (k : Nat) : Bool := fit a b k && psb ps k
def fitE (ps : Dt) (a b : Int) (k : Nat) : Bool := !fit a b k || psb ps k
end Sp
def Xex [InW] (e : List Ed) (K : Nat -> List Ed -> Prop) : Prop := match e with
 | [.i n, .i i, .l ps, .i a, .i b, .b so, .b al] => Pre (n = ps.length /\ 0 <= i /\ i <= n /\ n <= 1000) (K 0 [.l ps, .i a, .i b, .b (so || Sp.anyF (Sp.fitA ps a b) i.toNat (n - i).toNat), .b (al && Sp.allF (Sp.fitE ps a b) i.toNat (n - i).toNat)])
 | _ => False
def Xgn : LC where
 len := 26
 T := [(0, (.yl 1)), (1, (.ptr 25 0)), (2, (.ptr 31 0)), (3, (.ptr 34 0)), (7, (.row 28)), (8, .int .i64), (9, .int .i64)]
 H := [(1, .lp LPtb [(.opq 1501), (.opq 1504), (.opq 1507), (.opq 1510), (.ptr 13 0), (.ptr 16 0), (.ptr 19 0), (.opq 318), (.opq 321), (.opq 1528), (.opq 327), (.opq 330), (.opq 333), (.opq 336), (.opq 339), (.opq 342), (.opq 345), (.opq 348), (.opq 351), (.opq 354), (.opq 357), (.opq 360), (.opq 1567), (.opq 1570)]), (25, .blk 102 [(.row 28)]), (28, .arr 4 Jd), (31, .blk 3 [.int .i64]), (34, .blk 3 [.int .i64]), (13, .blk 107 [(.fn (.func 71) [] [])]), (16, .blk 4 [.bool]), (19, .blk 4 [.bool])]
 W := ([5, 6] ++ rg 10 16)
 outs := [⟨.exit 0, [], [(1, .lp LPtb [(.opq 1501), (.opq 1504), (.opq 1507), (.opq 1510), (.ptr 13 0), (.ptr 16 0), (.ptr 19 0), (.opq 618), (.opq 621), (.opq 1528), (.opq 627), (.opq 630), (.opq 633), (.opq 636), (.opq 639), (.opq 642), (.opq 645), (.opq 648), (.opq 651), (.opq 654), (.opq 657), (.opq 660), (.opq 1567), (.opq 1570)]), (618, .dead), (621, .dead), (627, .dead), (630, .dead), (633, .dead), (636, .dead), (639, .dead), (642, .dead), (645, .dead), (648, .dead), (651, .dead), (654, .dead), (657, .dead), (660, .dead), (25, .blk 102 [(.row 28)]), (28, .arr 4 Jd), (31, .blk 3 [.int .i64]), (34, .blk 3 [.int .i64]), (13, .blk 107 [(.fn (.func 71) [] [])]), (16, .blk 4 [.bool]), (19, .blk 4 [.bool])], (rg 0 4 ++ rg 5 21)⟩]
 spec := Xex
def Xd0 [W : InW] (n i : Int) (ps : Dt) (a b : Int) (so al : Bool) (A : List Ed -> Prop) (K : Nat -> List Ed -> Prop) : Prop :=
 Vif (decide (i < n)) (Need (decide (0 <= i) && decide (i < (↑(ps.length) : Int))) (Need (decide (i.toNat < ps.length)) (Vif (decide (andI IntKind.i64 i a = b)) (Vif so (Vif al (Ar .i64 (i + 1) fun z => PreL LPtb LPtb (A [.i n, .i z, .l ps, .i a, .i b, .b true, .b (cel ps i.toNat Zd).bool])) (Ar .i64 (i + 1) fun z => PreL LPtb LPtb (A [.i n, .i z, .l ps, .i a, .i b, .b true, .b false]))) (Vif al (Ar .i64 (i + 1) fun z => PreL LPtb LPtb (A [.i n, .i z, .l ps, .i a, .i b, .b (cel ps i.toNat Zd).bool, .b (cel ps i.toNat Zd).bool])) (Ar .i64 (i + 1) fun z => PreL LPtb LPtb (A [.i n, .i z, .l ps, .i a, .i b, .b (cel ps i.toNat Zd).bool, .b false])))) (Ar .i64 (i + 1) fun z => PreL LPtb LPtb (A [.i n, .i z, .l ps, .i a, .i b, .b so, .b al]))))) (PreL LPtb LPtb (K 0 [.l ps, .i a, .i b, .b so, .b al]))
theorem Xky (W : InW) (n i ps a b so al A K) : Yfc { cxT Try.prog TT T0 1000 50 with fn := 69 } 1000 (Yn8 Try.prog 69 2) (Yd8 26 [(0, .yl 1), (1, .ptr 25 0), (2, .ptr 31 0), (3, .ptr 34 0), (7, .rw 28), (8, .si .i64 n), (9, .si .i64 i)] ([5, 6] ++ rg 10 16)) [(1, .lp LPtb [.opq 1501, .opq 1504, .opq 1507, .opq 1510, .ptr 13 0, .ptr 16 0, .ptr 19 0, .opq 318, .opq 321, .opq 1528, .opq 327, .opq 330, .opq 333, .opq 336, .opq 339, .opq 342, .opq 345, .opq 348, .opq 351, .opq 354, .opq 357, .opq 360, .opq 1567, .opq 1570]), (25, .blk 102 [.rw 28]), (28, .arr 4 Jd ps), (31, .blk 3 [.si .i64 a]), (34, .blk 3 [.si .i64 b]), (13, .blk 107 [.fn (.func 71) [] []]), (16, .blk 4 [.sb so]), (19, .blk 4 [.sb al])] (Yug Xgn A K) = Xd0 n i ps a b so al A K := by kernel_rfl
def Xfw : Prop := ∀ (W : InW) (body a : Code), (Try.prog.funcs[69]?).bind (·.body) = some body -> a ∈ Y0 body -> Yfw a = 2 -> @Ymr W Try.prog a (@Yto W Xgn)
theorem Xmj (meas : [InW] -> List Ed -> Nat) (hyp_ : ∀ (W : InW) n i ps a b so al K, Xex [.i n, .i i, .l ps, .i a, .i b, .b so, .b al] K -> ∀ A : List Ed -> Prop, (∀ e, meas e < meas [.i n, .i i, .l ps, .i a, .i b, .b so, .b al] -> Xex e K -> A e) -> Xd0 n i ps a b so al A K) : Xfw :=
 LE.okOf' (fun W => @TT W) (fun W => @Xe W) Xa T0 1000 50 (by kernel_rfl) Xgn (fun W => @meas W) fun W n i ps a b so al K hs =>
  (Xky W n i ps a b so al (fun e => meas e < meas [.i n, .i i, .l ps, .i a, .i b, .b so, .b al] /\ Xex e K) K).mpr (hyp_ W n i ps a b so al K hs _ fun e h1 h2 => ⟨h1, h2⟩)
theorem Xoz : Xfw := Xmj (fun e => match e with | .i n :: .i i :: _ => (n - i).toNat | _ => 0) fun W n i ps a b so al K hs A hA => by
 obtain ⟨⟨rfl, h0, h1, h2⟩, hk⟩ := hs;unfold Xd0;delta Zd;have ez : (i + 1).toNat = i.toNat + 1 := by omega
 have ei : ((i.toNat : Nat) : Int) = i := Int.toNat_of_nonneg h0;simp only [show (cel ps i.toNat 0).bool = Sp.psb ps i.toNat from rfl]
 by_cases hi : i < ps.length
 ·rw [show ((ps.length : Int) - i).toNat = ((ps.length : Int) - (i + 1)).toNat + 1 by omega] at hk;have hA' : ∀ c d, c = (so || (decide (andI .i64 i a = b) && Sp.psb ps i.toNat)) -> d = (al && (!decide (andI .i64 i a = b) || Sp.psb ps i.toNat)) -> A [.i ps.length, .i (i + 1), .l ps, .i a, .i b, .b c, .b d] := fun c d hc hd => hA _ (show ((ps.length : Int) - (i + 1)).toNat < ((ps.length : Int) - i).toNat by omega) ⟨⟨rfl, by omega, by omega, h2⟩, by
   simp only [Sp.anyF, Sp.allF, Sp.fitA, Sp.fitE, Sp.fit, ei] at hk;rw [ez, hc, hd, Bool.or_assoc, Bool.and_assoc];exact hk⟩
  clear hA hk
  repeat' (first | omega|intro _|with_reducible first|apply vifd|apply vifn|apply vifq|apply Xd|apply Xc|apply vifb|apply vif|apply nedd|apply ned2|apply ned|apply ar64|apply Xb|exact True.intro|assumption|rfl|apply And.intro)
  all_goals first | contradiction | (refine ⟨rfl, ?_⟩; refine hA' _ _ ?_ ?_ <;> simp [*]; done) | skip
 ·rw [show ((ps.length : Int) - i).toNat = 0 by omega] at hk;simp only [Sp.allF, Sp.anyF, Bool.and_true, Bool.or_false] at hk;clear hA
  repeat' (first | omega|intro _|with_reducible first|apply vifd|apply vifn|apply vifq|apply Xd|apply Xc|apply vifb|apply vif|apply nedd|apply ned2|apply ned|apply ar64|apply Xb|exact True.intro|assumption|rfl|apply And.intro)
  all_goals exact ⟨rfl, hk⟩
def Xpu : LE Try.prog := ⟨69, 2, fun W => @Yto W Xgn, Xoz⟩
def T80 : Tab Try.prog := ⟨[], [Xpu], []⟩
def Xhi [InW] (e : List Ed) (K : Nat -> List Ed -> Prop) : Prop := match e with
 | [.l ps, .i a, .i b] => Pre (ps.length <= 1000) (K 0 [.b (Sp.anyF (Sp.fitA ps a b) 0 ps.length), .b (Sp.allF (Sp.fitE ps a b) 0 ps.length), .l ps, .i a, .i b])
 | _ => False
def Xj : CC where
 g := 70
 args := [(.fn (.func 69) [] [(.ptr 25 0), (.ptr 31 0), (.ptr 34 0)]), (.fn (.func 71) [] [])]
 H := [(25, .blk 102 [(.row 28)]), (28, .arr 4 Jd), (31, .blk 3 [.int .i64]), (34, .blk 3 [.int .i64])]
 outs := [⟨false, .tup [.bool, .bool], [(25, .blk 102 [(.row 28)]), (28, .arr 4 Jd), (31, .blk 3 [.int .i64]), (34, .blk 3 [.int .i64])], false⟩]
 spec := Xhi
def Zen [W : InW] (ps : Dt) := (↑(ps.length) : Int)
def Xcs [W : InW] (ps : Dt) (a b : Int) (K : Nat -> List Ed -> Prop) : Prop :=
 PreL LPtb LPtb (Pre ((Zen ps) = (Zen ps) /\ (0 : Int) <= 0 /\ (0 : Int) <= (Zen ps) /\ (Zen ps) <= 1000) (K 0 [.b (false || Sp.anyF (Sp.fitA ps a b) Za ((Zen ps) - 0).toNat), .b (true && Sp.allF (Sp.fitE ps a b) Za ((Zen ps) - 0).toNat), .l ps, .i a, .i b]))
theorem Xiy (W : InW) (ps a b K) : Ywu (cxT Try.prog TT T80 1000 50) 1000 70 [.fn (.func 69) [] [.ptr 25 0, .ptr 31 0, .ptr 34 0], .fn (.func 71) [] []] [(25, .blk 102 [.rw 28]), (28, .arr 4 Jd ps), (31, .blk 3 [.si .i64 a]), (34, .blk 3 [.si .i64 b])] (fun v h => outC Xj.H [.l ps, .i a, .i b] Xj.outs 0 false v h K) (fun v h => outC Xj.H [.l ps, .i a, .i b] Xj.outs 0 true v h K) = Xcs ps a b K := by kernel_rfl
theorem Xju (hyp_ : ∀ (W : InW) ps a b K, Xhi [.l ps, .i a, .i b] K -> Xcs ps a b K) : ∀ W : InW, @CallC W Try.prog Xj :=
 CC.okOf (fun W => @TT W) (fun W => @Xe W) Xa T80 1000 50 Xj fun W ps a b K hs => (Xiy W ps a b K).mpr (hyp_ W ps a b K hs)
theorem Xh7 : ∀ W : InW, @CallC W Try.prog Xj := Xju fun W ps a b K hs => by
 obtain ⟨h1, hk⟩ := hs;unfold Xcs;delta Za Zen Zb;simp only [show Int.toNat 0 = 0 from rfl, Int.sub_zero, Bool.true_and, Bool.false_or, Int.toNat_natCast];exact ⟨rfl, ⟨trivial, by omega, by omega, by omega⟩, hk⟩
structure LpR where
 n : Int
 i : Int
namespace Sp
def mixB (ps : Dt) (a b : Int) : Bool := anyF (fitA ps a b) 0 ps.length && !allF (fitE ps a b) 0 ps.length
def bitA (a i : Int) : Int := andI .i64 (a.fdiv (2 ^ min i.toNat 64)) 1
def orB (a i : Int) : Int := orI .i64 a ((1 : Int) * 2 ^ min i.toNat 64)
def lpF (c : Nat -> Int) (skip : Nat -> Bool) : Nat -> Nat -> LpR -> LpR
 | _, 0, r => r
 | i, n + 1, r => lpF c skip (i + 1) n (if skip i = true then r else if r.i < 0 \/ c i < r.n then ⟨c i, i⟩ else r)
def lpN (ps : Dt) (w : Nat) : Nat -> Int -> Int -> LpR
 | 0, _, _ => ⟨0, -1⟩
 | m + 1, a, b => if mixB ps a b = true then lpF (fun i => 1 + max (lpN ps w m (orB a i) b).n (lpN ps w m (orB a i) (orB b i)).n) (fun i => decide (bitA a i = 1)) 0 w ⟨0, -1⟩ else ⟨0, -1⟩
def free (w : Nat) (a : Nat) : Nat := ((List.range w).filter fun i => decide (a / 2 ^ i % 2 = 0)).length
def lpC (ps : Dt) (w : Nat) (a b : Int) : LpR := lpN ps w (free w a.toNat + 1) a b
def lpc (ps : Dt) (w : Nat) (a b : Int) (i : Nat) : Int := 1 + max (lpC ps w (orB a i) b).n (lpC ps w (orB a i) (orB b i)).n
def lps (a : Int) (i : Nat) : Bool := decide (bitA a i = 1)
structure MemoOk (ps : Dt) (w : Nat) (xs : Dt) : Prop where
 ok : ∀ a b, hasP xs a b = true -> getP xs a b 0 = (lpC ps w a b).n /\ getP xs a b 1 = (lpC ps w a b).i
structure StOk (ps u : Dt) (a b : Int) : Prop where
 few : u.length <= 7
 len : ps.length = 2 ^ u.length
 a0 : 0 <= a
 a1 : a < (2 ^ u.length : Nat)
 b0 : 0 <= b
 b1 : b < (2 ^ u.length : Nat)
inductive FaM (P : Dt -> Prop) (K : Dt -> Prop) : Prop where
 | mk (h : ∀ xs, P xs -> K xs)
end Sp
theorem Xnv : ∀ (w : Fin 8) (i : Fin 7) (a : Fin 128), i.1 < w.1 -> a.1 < 2 ^ w.1 -> 0 <= Sp.orB a.1 i.1 /\ Sp.orB a.1 i.1 < (2 ^ w.1 : Nat) /\ (Sp.bitA a.1 i.1 = 1 \/ Sp.free w.1 (Sp.orB a.1 i.1).toNat + 1 = Sp.free w.1 a.1) := by decide +kernel
theorem Xic : ∀ (w : Fin 8) (a : Fin 128), Sp.free w.1 a.1 <= 7 := by decide +kernel
theorem Xjf {i : Int} (h0 : 0 <= i) (h1 : i < 7) : 1 <= (1 : Int) * 2 ^ min i.toNat 64 /\ (1 : Int) * 2 ^ min i.toNat 64 <= 64 := by
 obtain ⟨k, rfl⟩ := Int.eq_ofNat_of_zero_le h0;have : ∀ k : Fin 7, 1 <= (1 : Int) * 2 ^ min ((k.1 : Int)).toNat 64 /\ (1 : Int) * 2 ^ min ((k.1 : Int)).toNat 64 <= 64 := by decide
 exact this ⟨k, by omega⟩
theorem Xbc {w : Nat} {a i : Int} (hw : w <= 7) (a0 : 0 <= a) (a1 : a < (2 ^ w : Nat)) (i0 : 0 <= i) (i1 : i < w) : 0 <= Sp.orB a i /\ Sp.orB a i < (2 ^ w : Nat) /\ (Sp.bitA a i = 1 \/ Sp.free w (Sp.orB a i).toNat + 1 = Sp.free w a.toNat) := by
 obtain ⟨a, rfl⟩ := Int.eq_ofNat_of_zero_le a0;obtain ⟨i, rfl⟩ := Int.eq_ofNat_of_zero_le i0;have a2 : a < 2 ^ w := by omega
 have : 2 ^ w <= 2 ^ 7 := Nat.pow_le_pow_right (by decide) hw;have h7 : (2 : Nat) ^ 7 = 128 := rfl;exact Xnv ⟨w, by omega⟩ ⟨i, by omega⟩ ⟨a, by omega⟩ (by show i < w; omega) a2
theorem Xib {w : Nat} {a : Int} (hw : w <= 7) (a0 : 0 <= a) (a1 : a < (2 ^ w : Nat)) : Sp.free w a.toNat <= 7 := by
 obtain ⟨a, rfl⟩ := Int.eq_ofNat_of_zero_le a0;have a2 : a < 2 ^ w := by omega
 have : 2 ^ w <= 2 ^ 7 := Nat.pow_le_pow_right (by decide) hw;have h7 : (2 : Nat) ^ 7 = 128 := rfl;exact Xic ⟨w, by omega⟩ ⟨a, by omega⟩
theorem Xv {c : Nat -> Int} {skip : Nat -> Bool} {B : Int} (hc : ∀ i, 0 <= c i /\ c i <= B) : ∀ (n i : Nat) (r : LpR), 0 <= r.n -> r.n <= B -> 0 <= (Sp.lpF c skip i n r).n /\ (Sp.lpF c skip i n r).n <= B
 | 0, _, r, h0, h1 => ⟨h0, h1⟩
 | n + 1, i, r, h0, h1 => by
  unfold Sp.lpF
  split
  ·exact Xv hc n _ _ h0 h1
  ·split
   ·exact Xv hc n _ _ (hc i).1 (hc i).2
   ·exact Xv hc n _ _ h0 h1
theorem Xbk {ps : Dt} {w : Nat} : ∀ (m : Nat) (a b : Int), 0 <= (Sp.lpN ps w m a b).n /\ (Sp.lpN ps w m a b).n <= m
 | 0, _, _ => ⟨Int.le_refl _, Int.le_refl _⟩
 | m + 1, a, b => by
  unfold Sp.lpN
  split
  ·refine Xv (fun i => ?_) _ _ _ (Int.le_refl _) (by show (0 : Int) <= _; omega);have h1 := Xbk (ps := ps) (w := w) m (Sp.orB a i) b;have h2 := Xbk (ps := ps) (w := w) m (Sp.orB a i) (Sp.orB b i);constructor <;> omega
  ·exact ⟨Int.le_refl _, by show (0 : Int) <= _; omega⟩
theorem Xbl {c c' : Nat -> Int} {skip : Nat -> Bool} : ∀ (n i : Nat) (r : LpR), (∀ k, i <= k -> k < i + n -> skip k = false -> c k = c' k) -> Sp.lpF c skip i n r = Sp.lpF c' skip i n r
 | 0, _, _, _ => rfl
 | n + 1, i, r, h => by
  unfold Sp.lpF
  by_cases hs : skip i = true
  ·rw [if_pos hs, if_pos hs];exact Xbl n _ _ fun k h1 h2 h3 => h k (by omega) (by omega) h3
  ·rw [if_neg hs, if_neg hs, h i (Nat.le_refl _) (by omega) (by simpa using hs)];exact Xbl n _ _ fun k h1 h2 h3 => h k (by omega) (by omega) h3
theorem Xku {ps : Dt} {w : Nat} {a b : Int} (hw : w <= 7) (a0 : 0 <= a) (a1 : a < (2 ^ w : Nat)) : Sp.lpC ps w a b = if Sp.mixB ps a b = true then Sp.lpF (Sp.lpc ps w a b) (Sp.lps a) 0 w ⟨0, -1⟩ else ⟨0, -1⟩ := by
 show Sp.lpN ps w (Sp.free w a.toNat + 1) a b = _
 rw [Sp.lpN]
 split
 ·refine Xbl _ _ _ fun k _ hk hs => ?_;have hb : ¬ Sp.bitA a k = 1 := by simpa using hs
  have := (Xbc hw a0 a1 (i := (k : Int)) (by omega) (by omega)).2.2.resolve_left hb
  show _ = 1 + max (Sp.lpN ps w (Sp.free w (Sp.orB a k).toNat + 1) _ _).n (Sp.lpN ps w (Sp.free w (Sp.orB a k).toNat + 1) _ _).n
  rw [this]
 ·rfl
theorem Xbm {ps : Dt} {w : Nat} {a b : Int} (hw : w <= 7) (a0 : 0 <= a) (a1 : a < (2 ^ w : Nat)) : 0 <= (Sp.lpC ps w a b).n /\ (Sp.lpC ps w a b).n <= 8 := by
 have h := Xbk (ps := ps) (w := w) (Sp.free w a.toNat + 1) a b;have := Xib hw a0 a1;exact ⟨h.1, by have := h.2; show (Sp.lpN _ _ _ _ _).n <= 8; omega⟩
theorem Xhb : ∀ (xs : Dt) (a b u v c d : Int), hasP (setP xs a b u v) c d = true -> (c = a /\ d = b) \/ hasP xs c d = true
 | [], a, b, u, v, c, d, h => by
  by_cases e : a = c /\ b = d
  ·exact .inl ⟨e.1.symm, e.2.symm⟩
  ·rw [setP, hasP, if_neg (by simpa [rI] using e)] at h; cases h
 | r :: es, a, b, u, v, c, d, h => by
  rw [setP] at h
  split at h
  ·by_cases e : a = c /\ b = d
   ·exact .inl ⟨e.1.symm, e.2.symm⟩
   ·rw [hasP, if_neg (by simpa [rI] using e)] at h;refine .inr ?_;rw [hasP]
    split
    ·rfl
    ·exact h
  ·rw [hasP] at h;rw [hasP]
   split at h
   ·rename_i hx; rw [if_pos hx]; exact .inr rfl
   ·rename_i hx;rw [if_neg hx];exact Xhb es a b u v c d h
theorem Xca : ∀ (xs : Dt) (a b u v : Int) (k : Nat), getP (setP xs a b u v) a b k = rI [.i a, .i b, .i u, .i v] (2 + k)
 | [], a, b, u, v, k => by rw [setP, getP, if_pos ⟨rfl, rfl⟩]
 | r :: es, a, b, u, v, k => by
  rw [setP]
  split
  ·rw [getP, if_pos ⟨rfl, rfl⟩]
  ·rename_i hx;rw [getP, if_neg hx];exact Xca es a b u v k
theorem Xbn : ∀ (xs : Dt) (a b u v c d : Int) (k : Nat), ¬ (c = a /\ d = b) -> getP (setP xs a b u v) c d k = getP xs c d k
 | [], a, b, u, v, c, d, k, hn => if_neg (show ¬ (rI [.i a, .i b, .i u, .i v] 0 = c /\ rI [.i a, .i b, .i u, .i v] 1 = d) from fun e => hn ⟨e.1.symm, e.2.symm⟩)
 | r :: es, a, b, u, v, c, d, k, hn => by
  rw [setP]
  split
  ·rename_i hx;rw [getP, getP, if_neg (show ¬ (rI [.i a, .i b, .i u, .i v] 0 = c /\ rI [.i a, .i b, .i u, .i v] 1 = d) from fun e => hn ⟨e.1.symm, e.2.symm⟩), if_neg (fun e => hn ⟨e.1.symm.trans hx.1, e.2.symm.trans hx.2⟩)]
  ·rw [getP, getP, Xbn es a b u v c d k hn]
theorem Xgj {ps : Dt} {w : Nat} {xs : Dt} {a b u v : Int} (h : Sp.MemoOk ps w xs) (h0 : u = (Sp.lpC ps w a b).n) (h1 : v = (Sp.lpC ps w a b).i) : Sp.MemoOk ps w (setP xs a b u v) where
 ok c d hd := by
  by_cases e : c = a /\ d = b
  ·obtain ⟨rfl, rfl⟩ := e;rw [Xca, Xca];exact ⟨h0, h1⟩
  ·rw [Xbn _ _ _ _ _ _ _ _ e, Xbn _ _ _ _ _ _ _ _ e];exact h.ok c d ((Xhb _ _ _ _ _ _ _ hd).resolve_left e)
def Xfh (m : Nat) [InW] (e : List Ed) (K : Nat -> List Ed -> Prop) : Prop := match e with
 | [.i a, .i b, .l xs, .l ps, .ro _ qs, .ro _ pz, .i all, .ro _ sh, .l u] => Pre (Sp.StOk ps u a b /\ Sp.MemoOk ps u.length xs /\ Sp.free u.length a.toNat < m) (Sp.FaM (Sp.MemoOk ps u.length) fun ys => K 0 [.i (Sp.lpC ps u.length a b).n, .i (Sp.lpC ps u.length a b).i, .l ys, .l ps, .ro _ qs, .ro _ pz, .i all, .ro _ sh, .l u])
 | _ => False
def Xb4 (m : Nat) : CC where
 g := 68
 args := [.int .i64, .int .i64, (.ptr 37 0), (.ptr 25 0), (.ptr 43 0), (.ptr 46 0)]
 H := [(37, .blk 103 [(.mp 40)]), (40, .mpP), (25, .blk 102 [(.row 28)]), (28, .arr 4 Jd), (43, .blk 85 [(.ptr 4 0)]), (4, .blk 89 [.rs Iv5, .rs Jc, .int .i64, .rs Jb, (.row 7)]), (7, .arr 44 Ja), (46, .blk 104 [(.fn (.func 68) [] [(.ptr 37 0), (.ptr 25 0), (.ptr 43 0), (.ptr 46 0)])])]
 outs := [⟨false, .agg [.int .i64, .int .i64], [(37, .blk 103 [(.mp 40)]), (40, .mpP), (25, .blk 102 [(.row 28)]), (28, .arr 4 Jd), (43, .blk 85 [(.ptr 4 0)]), (4, .blk 89 [.rs Iv5, .rs Jc, .int .i64, .rs Jb, (.row 7)]), (7, .arr 44 Ja), (46, .blk 104 [(.fn (.func 68) [] [(.ptr 37 0), (.ptr 25 0), (.ptr 43 0), (.ptr 46 0)])])], false⟩]
 spec := Xfh m
def Xfg (m : Nat) [InW] (e : List Ed) (K : Nat -> List Ed -> Prop) : Prop := match e with
 | [.i n, .i i, .l xs, .l ps, .ro _ qs, .ro _ pz, .i all, .ro _ sh, .l u, .i a, .i b, .i bn, .i bi, .i za, .i zb] => Pre (n = u.length /\ 0 <= i /\ i <= n /\ Sp.StOk ps u a b /\ Sp.MemoOk ps u.length xs /\ Sp.free u.length a.toNat < m + 1 /\ 0 <= bn /\ bn <= 1000)
  (Sp.FaM (Sp.MemoOk ps u.length) fun ys => K 0 [.l ys, .l ps, .ro _ qs, .ro _ pz, .i all, .ro _ sh, .l u, .i a, .i b, .i (Sp.lpF (Sp.lpc ps u.length a b) (Sp.lps a) i.toNat (n - i).toNat ⟨bn, bi⟩).n, .i (Sp.lpF (Sp.lpc ps u.length a b) (Sp.lps a) i.toNat (n - i).toNat ⟨bn, bi⟩).i, .i za, .i zb])
 | _ => False
def Xc3 (m : Nat) : LC where
 len := 92
 T := [(2, (.ptr 37 0)), (3, (.ptr 25 0)), (4, (.ptr 43 0)), (5, (.ptr 46 0)), (6, (.ptr 31 0)), (7, (.ptr 34 0)), (8, (.ptr 52 0)), (12, (.ptr 49 0)), (42, (.row 7)), (43, .int .i64), (44, .int .i64)]
 H := [(37, .blk 103 [(.mp 40)]), (40, .mpP), (25, .blk 102 [(.row 28)]), (28, .arr 4 Jd), (43, .blk 85 [(.ptr 4 0)]), (4, .blk 89 [.rs Iv5, .rs Jc, .int .i64, .rs Jb, (.row 7)]), (7, .arr 44 Ja), (46, .blk 104 [(.fn (.func 68) [] [(.ptr 37 0), (.ptr 25 0), (.ptr 43 0), (.ptr 46 0)])]), (31, .blk 3 [.int .i64]), (34, .blk 3 [.int .i64]), (49, .blk 105 [.int .i64, .int .i64]), (52, .blk 105 [.int .i64, .int .i64])]
 W := ([15, 16] ++ rg 45 41)
 outs := [⟨.exit 0, [(2, (.ptr 37 0)), (3, (.ptr 25 0)), (4, (.ptr 43 0)), (5, (.ptr 46 0)), (6, (.ptr 31 0)), (7, (.ptr 34 0)), (8, (.ptr 52 0)), (12, (.ptr 49 0))], [(37, .blk 103 [(.mp 40)]), (40, .mpP), (25, .blk 102 [(.row 28)]), (28, .arr 4 Jd), (43, .blk 85 [(.ptr 4 0)]), (4, .blk 89 [.rs Iv5, .rs Jc, .int .i64, .rs Jb, (.row 7)]), (7, .arr 44 Ja), (46, .blk 104 [(.fn (.func 68) [] [(.ptr 37 0), (.ptr 25 0), (.ptr 43 0), (.ptr 46 0)])]), (31, .blk 3 [.int .i64]), (34, .blk 3 [.int .i64]), (49, .blk 105 [.int .i64, .int .i64]), (52, .blk 105 [.int .i64, .int .i64])], ([15, 16] ++ rg 42 44)⟩]
 spec := Xfg m
def Zeo [W : InW] (i : Int) := (1 : Int) * 2 ^ min i.toNat (64 : Nat)
def Xej [W : InW] (m : Nat) (n i : Int) (xs ps : Dt) (qs : Ro Iv5) (pz : Ro Jc) (all : Int) (sh : Ro Jb) (u : Dt) (a b bn bi za zb : Int) (A : List Ed -> Prop) (K : Nat -> List Ed -> Prop) : Prop :=
 Vif (decide (i < n)) (Need (decide (0 <= i)) (Vif (decide (andI IntKind.i64 (a.fdiv ((2 : Int) ^ min i.toNat (64 : Nat))) (1 : Int) = 1)) (Ar .i64 (i + 1) fun z => A [.i n, .i z, .l xs, .l ps, .ro _ qs, .ro _ pz, .i all, .ro Zdw sh, .l u, .i a, .i b, .i bn, .i bi, .i za, .i zb]) (Need (decide (0 <= i)) (Ar .i64 (Zeo i) fun z => Pre (Sp.StOk ps u (orI IntKind.i64 a z) b /\ Sp.MemoOk ps (u.length) xs /\ Sp.free (u.length) (orI IntKind.i64 a z).toNat < m) (Sp.FaM (Sp.MemoOk ps (u.length)) fun ys => Need (decide (0 <= i)) (Ar .i64 (Zeo i) fun z_1 => Need (decide (0 <= i)) (Ar .i64 (Zeo i) fun z_2 => Pre (Sp.StOk ps u (orI IntKind.i64 a z_1) (orI IntKind.i64 b z_2) /\ Sp.MemoOk ps (u.length) ys /\ Sp.free (u.length) (orI IntKind.i64 a z_1).toNat < m) (Sp.FaM (Sp.MemoOk ps (u.length)) fun ys => Ar .i64 ((1 : Int) + max (Sp.lpC ps (u.length) (orI IntKind.i64 a z) b).1 (Sp.lpC ps (u.length) (orI IntKind.i64 a z_1) (orI IntKind.i64 b z_2)).1) fun z => Vif (decide (bi < 0)) (Ar .i64 (i + 1) fun z_3 => A [.i n, .i z_3, .l ys, .l ps, .ro _ qs, .ro _ pz, .i all, .ro Zdw sh, .l u, .i a, .i b, .i z, .i i, .i za, .i zb]) (Vif (decide (z < bn)) (Ar .i64 (i + 1) fun z_3 => A [.i n, .i z_3, .l ys, .l ps, .ro _ qs, .ro _ pz, .i all, .ro Zdw sh, .l u, .i a, .i b, .i z, .i i, .i za, .i zb]) (Ar .i64 (i + 1) fun z => A [.i n, .i z, .l ys, .l ps, .ro _ qs, .ro _ pz, .i all, .ro Zdw sh, .l u, .i a, .i b, .i bn, .i bi, .i za, .i zb])))))))))) (K 0 [.l xs, .l ps, .ro _ qs, .ro _ pz, .i all, .ro Zdw sh, .l u, .i a, .i b, .i bn, .i bi, .i za, .i zb])
theorem Xlh (W : InW) (m h n i xs ps qs pz all sh u a b bn bi za zb A K) : Yfc { cxT Try.prog TT (⟨[], [], [ceOf (Xb4 m) h]⟩) 1000 50 with fn := 68 } 1000 (Yn8 Try.prog 68 10) (Yd8 92 [(2, .ptr 37 0), (3, .ptr 25 0), (4, .ptr 43 0), (5, .ptr 46 0), (6, .ptr 31 0), (7, .ptr 34 0), (8, .ptr 52 0), (12, .ptr 49 0), (42, .rw 7), (43, .si .i64 n), (44, .si .i64 i)] ([15, 16] ++ rg 45 41)) [(37, .blk 103 [.mp 40]), (40, .obj (.mpP xs)), (25, .blk 102 [.rw 28]), (28, .arr 4 Jd ps), (43, .blk 85 [.ptr 4 0]), (4, .blk 89 [.rs _ qs, .rs _ pz, .si .i64 all, .rs _ sh, .rw 7]), (7, .arr 44 Ja u), (46, .blk 104 [.fn (.func 68) [] [.ptr 37 0, .ptr 25 0, .ptr 43 0, .ptr 46 0]]), (31, .blk 3 [.si .i64 a]), (34, .blk 3 [.si .i64 b]), (49, .blk 105 [.si .i64 bn, .si .i64 bi]), (52, .blk 105 [.si .i64 za, .si .i64 zb])] (Yug (Xc3 m) A K) = Xej m n i xs ps qs pz all sh u a b bn bi za zb A K := by kernel_rfl
def Xbb (m : Nat) : Prop := ∀ (W : InW) (body a : Code), (Try.prog.funcs[68]?).bind (·.body) = some body -> a ∈ Y0 body -> Yfw a = 10 -> @Ymr W Try.prog a (@Yto W (Xc3 m))
theorem Xm2 (m : Nat) (h : ∀ W : InW, @CallC W Try.prog (Xb4 m)) (meas : [InW] -> List Ed -> Nat) (hyp_ : ∀ (W : InW) n i xs ps qs pz all sh u a b bn bi za zb K, Xfg m [.i n, .i i, .l xs, .l ps, .ro _ qs, .ro _ pz, .i all, .ro _ sh, .l u, .i a, .i b, .i bn, .i bi, .i za, .i zb] K -> ∀ A : List Ed -> Prop, (∀ e, meas e < meas [.i n, .i i, .l xs, .l ps, .ro _ qs, .ro _ pz, .i all, .ro _ sh, .l u, .i a, .i b, .i bn, .i bi, .i za, .i zb] -> Xfg m e K -> A e) -> Xej m n i xs ps qs pz all sh u a b bn bi za zb A K) : Xbb m :=
 LE.okOf' (fun W => @TT W) (fun W => @Xe W) Xa (⟨[], [], [ceOf (Xb4 m) h]⟩) 1000 50 (by kernel_rfl) (Xc3 m) (fun W => @meas W) fun W n i xs ps qs pz all sh u a b bn bi za zb K hs =>
  (Xlh W m h n i xs ps qs pz all sh u a b bn bi za zb (fun e => meas e < meas [.i n, .i i, .l xs, .l ps, .ro _ qs, .ro _ pz, .i all, .ro _ sh, .l u, .i a, .i b, .i bn, .i bi, .i za, .i zb] /\ Xfg m e K) K).mpr (hyp_ W n i xs ps qs pz all sh u a b bn bi za zb K hs _ fun e h1 h2 => ⟨h1, h2⟩)
def Xkl (m : Nat) [InW] (e : List Ed) (K : Nat -> List Ed -> Prop) : Prop := Xfh (m + 1) e K
def Xbp (m : Nat) : CC where
 g := 68
 args := [.int .i64, .int .i64, (.ptr 37 0), (.ptr 25 0), (.ptr 43 0), (.ptr 46 0)]
 H := [(37, .blk 103 [(.mp 40)]), (40, .mpP), (25, .blk 102 [(.row 28)]), (28, .arr 4 Jd), (43, .blk 85 [(.ptr 4 0)]), (4, .blk 89 [.rs Iv5, .rs Jc, .int .i64, .rs Jb, (.row 7)]), (7, .arr 44 Ja), (46, .blk 104 [(.fn (.func 68) [] [(.ptr 37 0), (.ptr 25 0), (.ptr 43 0), (.ptr 46 0)])])]
 outs := [⟨false, .agg [.int .i64, .int .i64], [(37, .blk 103 [(.mp 40)]), (40, .mpP), (25, .blk 102 [(.row 28)]), (28, .arr 4 Jd), (43, .blk 85 [(.ptr 4 0)]), (4, .blk 89 [.rs Iv5, .rs Jc, .int .i64, .rs Jb, (.row 7)]), (7, .arr 44 Ja), (46, .blk 104 [(.fn (.func 68) [] [(.ptr 37 0), (.ptr 25 0), (.ptr 43 0), (.ptr 46 0)])])], false⟩]
 spec := Xkl m
def Zep [W : InW] (a b : Int) (ps u : Dt) := Sp.lpF (Sp.lpc ps (u.length) a b) (Sp.lps a) (Int.toNat Zb) ((↑(u.length) : Int) - 0).toNat { n := Zb, i := (-1 : Int) }
def Xer [W : InW] (m : Nat) (a b : Int) (xs ps : Dt) (qs : Ro Iv5) (pz : Ro Jc) (all : Int) (sh : Ro Jb) (u : Dt) (K : Nat -> List Ed -> Prop) : Prop :=
 Vif (hasP xs a b) (K 0 [.i (getP xs a b Zd), .i (getP xs a b (1 : Nat)), .l xs, .l ps, .ro _ qs, .ro _ pz, .i all, .ro Zdw sh, .l u]) (Pre (ps.length <= 1000) (Vif (Sp.anyF (Sp.fitA ps a b) Zd (ps.length)) (Vif (!Sp.allF (Sp.fitE ps a b) Zd (ps.length)) (Pre ((↑(u.length) : Int) = (↑(u.length) : Int) /\ Zb <= 0 /\ Zb <= (↑(u.length) : Int) /\ Sp.StOk ps u a b /\ Sp.MemoOk ps (u.length) xs /\ Sp.free (u.length) a.toNat < m + 1 /\ Zb <= 0 /\ Zb <= 1000) (Sp.FaM (Sp.MemoOk ps (u.length)) fun ys => K 0 [.i (Zep a b ps u).1, .i (Zep a b ps u).2, .l (setP ys a b (Zep a b ps u).n (Zep a b ps u).i), .l ps, .ro _ qs, .ro _ pz, .i all, .ro Zdw sh, .l u])) (K 0 [.i Zb, .i (-1 : Int), .l (setP xs a b Zb (-1 : Int)), .l ps, .ro _ qs, .ro _ pz, .i all, .ro Zdw sh, .l u])) (K 0 [.i Zb, .i (-1 : Int), .l (setP xs a b Zb (-1 : Int)), .l ps, .ro _ qs, .ro _ pz, .i all, .ro Zdw sh, .l u])))
theorem Xlp (W : InW) (m h a b xs ps qs pz all sh u K) : Ywu (cxT Try.prog TT (⟨[], [⟨68, 10, fun W => @Yto W (Xc3 m), h⟩], [ceOf Xj Xh7]⟩) 1000 50) 1000 68 [.si .i64 a, .si .i64 b, .ptr 37 0, .ptr 25 0, .ptr 43 0, .ptr 46 0] [(37, .blk 103 [.mp 40]), (40, .obj (.mpP xs)), (25, .blk 102 [.rw 28]), (28, .arr 4 Jd ps), (43, .blk 85 [.ptr 4 0]), (4, .blk 89 [.rs _ qs, .rs _ pz, .si .i64 all, .rs _ sh, .rw 7]), (7, .arr 44 Ja u), (46, .blk 104 [.fn (.func 68) [] [.ptr 37 0, .ptr 25 0, .ptr 43 0, .ptr 46 0]])] (fun v h => outC (Xbp m).H [.l xs, .l ps, .ro _ qs, .ro _ pz, .i all, .ro _ sh, .l u] (Xbp m).outs 0 false v h K) (fun v h => outC (Xbp m).H [.l xs, .l ps, .ro _ qs, .ro _ pz, .i all, .ro _ sh, .l u] (Xbp m).outs 0 true v h K) = Xer m a b xs ps qs pz all sh u K := by kernel_rfl
theorem Xna (m : Nat) (h : Xbb m) (hyp_ : ∀ (W : InW) a b xs ps qs pz all sh u K, Xkl m [.i a, .i b, .l xs, .l ps, .ro _ qs, .ro _ pz, .i all, .ro _ sh, .l u] K -> Xer m a b xs ps qs pz all sh u K) : ∀ W : InW, @CallC W Try.prog (Xbp m) :=
 CC.okOf (fun W => @TT W) (fun W => @Xe W) Xa (⟨[], [⟨68, 10, fun W => @Yto W (Xc3 m), h⟩], [ceOf Xj Xh7]⟩) 1000 50 (Xbp m) fun W a b xs ps qs pz all sh u K hs => (Xlp W m h a b xs ps qs pz all sh u K).mpr (hyp_ W a b xs ps qs pz all sh u K hs)
theorem Xpi (m : Nat) (hc : ∀ W : InW, @CallC W Try.prog (Xb4 m)) : Xbb m := Xm2 m hc (fun e => match e with | .i n :: .i i :: _ => (n - i).toNat | _ => 0) fun W n i xs ps qs pz all sh u a b bn bi za zb K hs A hA => by
 obtain ⟨⟨rfl, h0, h1, st, mo, fr, b0, b1⟩, ⟨hk⟩⟩ := hs;unfold Xej;delta Zdw Zeo;have ez : (i + 1).toNat = i.toNat + 1 := by omega
 have ei : ((i.toNat : Nat) : Int) = i := Int.toNat_of_nonneg h0;have hw := st.few
 by_cases hi : i < u.length
 ·have hn : ((u.length : Int) - i).toNat = ((u.length : Int) - (i + 1)).toNat + 1 := by omega
  have go : ∀ (ys : Dt) (r : LpR), Sp.MemoOk ps u.length ys -> 0 <= r.n -> r.n <= 1000 -> (if Sp.lps a i.toNat = true then (⟨bn, bi⟩ : LpR) else if bi < 0 \/ Sp.lpc ps u.length a b i.toNat < bn then ⟨Sp.lpc ps u.length a b i.toNat, (i.toNat : Nat)⟩ else ⟨bn, bi⟩) = r -> A [.i u.length, .i (i + 1), .l ys, .l ps, .ro _ qs, .ro _ pz, .i all, .ro _ sh, .l u, .i a, .i b, .i r.n, .i r.i, .i za, .i zb] := fun ys r hy r0 r1 hr => hA _ (show ((u.length : Int) - (i + 1)).toNat < ((u.length : Int) - i).toNat by omega) ⟨⟨rfl, by omega, by omega, st, hy, fr, r0, r1⟩, ⟨fun zs hz => by
   have := hk zs hz;rw [hn] at this;rw [ez, <- hr];exact this⟩⟩
  clear hA hk;refine vifd (fun _ => ?_) (fun h => absurd hi h);refine nedd h0 (vifd (fun hb => ?_) (fun hb => ?_))
  ·refine ar64 (by omega) (go xs ⟨bn, bi⟩ mo b0 b1 ?_);exact if_pos (show decide (Sp.bitA a (i.toNat : Nat) = 1) = true by rw [ei]; exact decide_eq_true hb)
  ·have hs : ¬ Sp.lps a i.toNat = true := by
    show ¬ decide (Sp.bitA a (i.toNat : Nat) = 1) = true
    rw [ei];exact fun e => hb (of_decide_eq_true e)
   obtain ⟨p0, p1, p2⟩ := Xbc st.few st.a0 st.a1 h0 hi;obtain ⟨q0, q1, _⟩ := Xbc st.few st.b0 st.b1 h0 hi;have p2 := p2.resolve_left hb;have sm := Xjf h0 (by omega);have st1 : Sp.StOk ps u (Sp.orB a i) b := ⟨st.few, st.len, p0, p1, st.b0, st.b1⟩;have st2 : Sp.StOk ps u (Sp.orB a i) (Sp.orB b i) := ⟨st.few, st.len, p0, p1, q0, q1⟩;have B1 := Xbm (ps := ps) (b := b) st.few p0 p1;have B2 := Xbm (ps := ps) (b := Sp.orB b i) st.few p0 p1;have f1 : Sp.free u.length (Sp.orB a i).toNat < m := by omega
   have ec : Sp.lpc ps u.length a b i.toNat = 1 + max (Sp.lpC ps u.length (Sp.orB a i) b).n (Sp.lpC ps u.length (Sp.orB a i) (Sp.orB b i)).n := by
    show 1 + max (Sp.lpC ps u.length (Sp.orB a (i.toNat : Nat)) b).n (Sp.lpC ps u.length (Sp.orB a (i.toNat : Nat)) (Sp.orB b (i.toNat : Nat))).n = _
    rw [ei]
   have rg : -9223372036854775808 <= 1 + max (Sp.lpC ps u.length (Sp.orB a i) b).n (Sp.lpC ps u.length (Sp.orB a i) (Sp.orB b i)).n /\ 1 + max (Sp.lpC ps u.length (Sp.orB a i) b).n (Sp.lpC ps u.length (Sp.orB a i) (Sp.orB b i)).n <= 9223372036854775807 := by omega
   have r0 : 0 <= 1 + max (Sp.lpC ps u.length (Sp.orB a i) b).n (Sp.lpC ps u.length (Sp.orB a i) (Sp.orB b i)).n := by omega
   have r1 : 1 + max (Sp.lpC ps u.length (Sp.orB a i) b).n (Sp.lpC ps u.length (Sp.orB a i) (Sp.orB b i)).n <= 1000 := by omega
   refine nedd h0 (ar64 (by omega) ⟨⟨st1, mo, f1⟩, ⟨fun ys hy => ?_⟩⟩);refine nedd h0 (ar64 (by omega) (nedd h0 (ar64 (by omega) ⟨⟨st2, hy, f1⟩, ⟨fun zs hz => ?_⟩⟩)));refine ar64 rg ?_;refine vifd (fun hb1 => ar64 (by omega) ?_) (fun hb1 => vifd (fun hb2 => ar64 (by omega) ?_) (fun hb2 => ar64 (by omega) ?_))
   ·exact go zs ⟨_, i⟩ hz r0 r1 (by rw [if_neg hs, if_pos (.inl hb1), ec, ei]; rfl)
   ·exact go zs ⟨_, i⟩ hz r0 r1 (by rw [if_neg hs, if_pos (.inr (by rw [ec]; exact hb2)), ec, ei]; rfl)
   ·exact go zs ⟨bn, bi⟩ hz b0 b1 (by rw [if_neg hs, if_neg fun e => e.elim hb1 fun e => hb2 (by rw [ec] at e; exact e)])
 ·refine vifd (fun h => absurd h hi) (fun _ => ?_);have := hk xs mo;rw [show ((u.length : Int) - i).toNat = 0 by omega] at this;exact this
theorem Xpn (m : Nat) (h : Xbb m) : ∀ W : InW, @CallC W Try.prog (Xbp m) := Xna m h fun W a b xs ps qs pz all sh u K hs => by
 obtain ⟨⟨st, mo, fr⟩, ⟨hk⟩⟩ := hs;unfold Xer;delta Zep Zdw Zb Zd;refine vif (fun hh => ?_) (fun hh => ?_)
 ·have := hk xs mo;rw [<- (mo.ok a b hh).1, <- (mo.ok a b hh).2] at this;exact this
 ·refine ⟨by
   rw [st.len];have : 2 ^ u.length <= 2 ^ 7 := Nat.pow_le_pow_right (by decide) st.few;have h7 : (2 : Nat) ^ 7 = 128 := rfl;omega, ?_⟩
  have eq := Xku (ps := ps) (b := b) st.few st.a0 st.a1;have no : Sp.mixB ps a b = false -> K 0 [.i 0, .i (-1), .l (setP xs a b 0 (-1)), .l ps, .ro _ qs, .ro _ pz, .i all, .ro _ sh, .l u] := fun hm => by
   rw [hm, if_neg (by decide)] at eq;have := hk (setP xs a b 0 (-1)) (Xgj mo (by rw [eq]) (by rw [eq]));rw [eq] at this;exact this
  refine vif (fun ha => vifb (fun hb => ?_) (fun hb => ?_)) (fun ha => ?_)
  ·have hm : Sp.mixB ps a b = true := by unfold Sp.mixB; rw [ha, hb]; rfl
   rw [hm, if_pos rfl] at eq;refine ⟨⟨rfl, by omega, by omega, st, mo, fr, by omega, by omega⟩, ⟨fun ys hy => ?_⟩⟩;simp only [show Int.toNat 0 = 0 from rfl, Int.sub_zero, Int.toNat_natCast];rw [<- eq];exact hk _ (Xgj hy rfl rfl)
  ·exact no (by unfold Sp.mixB; rw [ha, hb]; rfl)
  ·exact no (by unfold Sp.mixB; rw [ha]; rfl)
theorem Xkt : ∀ (m : Nat) (W : InW), @CallC W Try.prog (Xb4 m)
 | 0, W => fun xs ys e1 e2 m1 n1 K hs => by
  have hs : Xfh 0 (e1 ++ e2) K := hs;unfold Xfh at hs
  split at hs
  ·obtain ⟨⟨_, _, h⟩, _⟩ := hs;exact absurd h (Nat.not_lt_zero _)
  ·exact hs.elim
 | m + 1, W => Xpn m (Xpi m (Xkt m)) W
abbrev LPlo : LI := lpAt Try.prog 30 0
namespace Sp
def fillP (f : Nat -> Bool) : Nat -> Nat -> Dt -> Dt
 | _, 0, p => p
 | i, n + 1, p => fillP f (i + 1) n (p.set i [.b (f i)])
end Sp
def Xfi [InW] (e : List Ed) (K : Nat -> List Ed -> Prop) : Prop := match e with
 | [.i n, .i i, .i ra, .i rb, .ro _ qs, .ro _ ps, .i all, .ro _ sh, .l u, .l p] => Pre (0 <= i /\ i <= n /\ n <= 1000 /\ n = p.length /\ Sp.KeyOk qs.xs ps.xs all /\ Sp.SeOk qs.xs sh.xs u) (K 0 [.i ra, .i rb, .ro _ qs, .ro _ ps, .i all, .ro _ sh, .l u, .l (Sp.fillP (Sp.psB qs.xs ps.xs all sh.xs u) i.toNat (n - i).toNat p)])
 | _ => False
def Xg6 : LC where
 len := 18
 T := [(0, (.yl 1)), (1, (.ptr 10 0)), (9, .int .i64), (10, .int .i64)]
 H := [(1, .lp LPlo [(.opq 1501), (.opq 1504), (.opq 1507), (.opq 1510), (.opq 1513), (.ptr 49 0), (.opq 1519), (.opq 1522), (.ptr 13 0), (.ptr 25 0), (.opq 327), (.opq 1534), (.opq 1537), (.opq 1540), (.opq 1543), (.opq 1546), (.opq 1549), (.opq 1552), (.opq 1555), (.opq 1558), (.opq 1561), (.opq 1564), (.opq 1567), (.opq 1570), (.opq 1573), (.opq 1576), (.opq 1579), (.opq 1582), (.opq 1585), (.opq 1588), (.opq 1591), (.opq 1594), (.opq 1597), (.opq 396), (.opq 399), (.opq 402), (.opq 405), (.opq 408), (.opq 411), (.opq 414), (.opq 1621), (.opq 1624), (.opq 1627), (.opq 1630), (.opq 1633), (.opq 1636), (.opq 1639), (.opq 1642), (.opq 1645), (.opq 1648), (.opq 1651), (.opq 1654), (.opq 1657), (.opq 1660), (.opq 1663), (.opq 1666), (.opq 1669), (.opq 1672)]), (49, .blk 44 [.int .i64, .int .i64]), (10, .blk 85 [(.ptr 4 0)]), (13, .blk 85 [(.ptr 4 0)]), (4, .blk 89 [.rs Iv5, .rs Jc, .int .i64, .rs Jb, (.row 7)]), (7, .arr 44 Ja), (25, .blk 102 [(.row 28)]), (28, .arr 4 Jd)]
 W := ([3] ++ rg 11 7)
 outs := [⟨.exit 0, [], [(1, .lp LPlo [(.opq 1501), (.opq 1504), (.opq 1507), (.opq 1510), (.opq 1513), (.ptr 49 0), (.opq 1519), (.opq 1522), (.ptr 13 0), (.ptr 25 0), (.opq 627), (.opq 1534), (.opq 1537), (.opq 1540), (.opq 1543), (.opq 1546), (.opq 1549), (.opq 1552), (.opq 1555), (.opq 1558), (.opq 1561), (.opq 1564), (.opq 1567), (.opq 1570), (.opq 1573), (.opq 1576), (.opq 1579), (.opq 1582), (.opq 1585), (.opq 1588), (.opq 1591), (.opq 1594), (.opq 1597), (.opq 696), (.opq 699), (.opq 702), (.opq 705), (.opq 708), (.opq 711), (.opq 714), (.opq 1621), (.opq 1624), (.opq 1627), (.opq 1630), (.opq 1633), (.opq 1636), (.opq 1639), (.opq 1642), (.opq 1645), (.opq 1648), (.opq 1651), (.opq 1654), (.opq 1657), (.opq 1660), (.opq 1663), (.opq 1666), (.opq 1669), (.opq 1672)]), (627, .dead), (696, .dead), (699, .dead), (702, .dead), (705, .dead), (708, .dead), (711, .dead), (714, .dead), (49, .blk 44 [.int .i64, .int .i64]), (10, .blk 85 [(.ptr 4 0)]), (13, .blk 85 [(.ptr 4 0)]), (4, .blk 89 [.rs Iv5, .rs Jc, .int .i64, .rs Jb, (.row 7)]), (7, .arr 44 Ja), (25, .blk 102 [(.row 28)]), (28, .arr 4 Jd)], ([0, 1, 3] ++ rg 9 9)⟩]
 spec := Xfi
def Xek [W : InW] (n i ra rb : Int) (qs : Ro Iv5) (ps : Ro Jc) (all : Int) (sh : Ro Jb) (u p : Dt) (A : List Ed -> Prop) (K : Nat -> List Ed -> Prop) : Prop :=
 Vif (decide (i < n)) (Pre (0 <= i /\ Sp.KeyOk qs.xs ps.xs all /\ Sp.SeOk qs.xs sh.xs u) (Need (decide (0 <= i) && decide (i < (↑(p.length) : Int))) (Need (decide (i.toNat < p.length)) (Ar .i64 (i + 1) fun z => PreL LPlo LPlo (A [.i n, .i z, .i ra, .i rb, .ro _ qs, .ro _ ps, .i all, .ro Zdw sh, .l u, .l (List.set p i.toNat [Cl.b (Sp.psW qs.xs ps.xs all sh.xs u i)])]))))) (PreL LPlo LPlo (K 0 [.i ra, .i rb, .ro _ qs, .ro _ ps, .i all, .ro Zdw sh, .l u, .l p]))
theorem Xli (W : InW) (n i ra rb qs ps all sh u p A K) : Yfc { cxT Try.prog TT T60 1000 50 with fn := 83 } 1000 (Yn8 Try.prog 83 2) (Yd8 18 [(0, .yl 1), (1, .ptr 10 0), (9, .si .i64 n), (10, .si .i64 i)] ([3] ++ rg 11 7)) [(1, .lp LPlo [.opq 1501, .opq 1504, .opq 1507, .opq 1510, .opq 1513, .ptr 49 0, .opq 1519, .opq 1522, .ptr 13 0, .ptr 25 0, .opq 327, .opq 1534, .opq 1537, .opq 1540, .opq 1543, .opq 1546, .opq 1549, .opq 1552, .opq 1555, .opq 1558, .opq 1561, .opq 1564, .opq 1567, .opq 1570, .opq 1573, .opq 1576, .opq 1579, .opq 1582, .opq 1585, .opq 1588, .opq 1591, .opq 1594, .opq 1597, .opq 396, .opq 399, .opq 402, .opq 405, .opq 408, .opq 411, .opq 414, .opq 1621, .opq 1624, .opq 1627, .opq 1630, .opq 1633, .opq 1636, .opq 1639, .opq 1642, .opq 1645, .opq 1648, .opq 1651, .opq 1654, .opq 1657, .opq 1660, .opq 1663, .opq 1666, .opq 1669, .opq 1672]), (49, .blk 44 [.si .i64 ra, .si .i64 rb]), (10, .blk 85 [.ptr 4 0]), (13, .blk 85 [.ptr 4 0]), (4, .blk 89 [.rs _ qs, .rs _ ps, .si .i64 all, .rs _ sh, .rw 7]), (7, .arr 44 Ja u), (25, .blk 102 [.rw 28]), (28, .arr 4 Jd p)] (Yug Xg6 A K) = Xek n i ra rb qs ps all sh u p A K := by kernel_rfl
def Xgf : Prop := ∀ (W : InW) (body a : Code), (Try.prog.funcs[83]?).bind (·.body) = some body -> a ∈ Y0 body -> Yfw a = 2 -> @Ymr W Try.prog a (@Yto W Xg6)
theorem Xm3 (meas : [InW] -> List Ed -> Nat) (hyp_ : ∀ (W : InW) n i ra rb qs ps all sh u p K, Xfi [.i n, .i i, .i ra, .i rb, .ro _ qs, .ro _ ps, .i all, .ro _ sh, .l u, .l p] K -> ∀ A : List Ed -> Prop, (∀ e, meas e < meas [.i n, .i i, .i ra, .i rb, .ro _ qs, .ro _ ps, .i all, .ro _ sh, .l u, .l p] -> Xfi e K -> A e) -> Xek n i ra rb qs ps all sh u p A K) : Xgf :=
 LE.okOf' (fun W => @TT W) (fun W => @Xe W) Xa T60 1000 50 (by kernel_rfl) Xg6 (fun W => @meas W) fun W n i ra rb qs ps all sh u p K hs =>
  (Xli W n i ra rb qs ps all sh u p (fun e => meas e < meas [.i n, .i i, .i ra, .i rb, .ro _ qs, .ro _ ps, .i all, .ro _ sh, .l u, .l p] /\ Xfi e K) K).mpr (hyp_ W n i ra rb qs ps all sh u p K hs _ fun e h1 h2 => ⟨h1, h2⟩)
theorem Xpj : Xgf := Xm3 (fun e => match e with | .i n :: .i i :: _ => (n - i).toNat | _ => 0) fun W n i ra rb qs ps all sh u p K hs A hA => by
 obtain ⟨⟨h0, h1, h2, h3, hkey, hse⟩, hk⟩ := hs;unfold Xek;delta Zdw;have ez : (i + 1).toNat = i.toNat + 1 := by omega
 have ei : ((i.toNat : Nat) : Int) = i := Int.toNat_of_nonneg h0
 by_cases hi : i < n
 ·refine vifd (fun _ => ⟨⟨h0, hkey, hse⟩, ned (by simp; omega) (nedd (by omega) (ar64 (by omega) ⟨rfl, hA _ (show (n - (i + 1)).toNat < (n - i).toNat by omega) ⟨⟨by omega, by omega, h2, by rw [List.length_set]; exact h3, hkey, hse⟩, ?_⟩⟩))⟩) (fun h => absurd hi h);rw [show (n - i).toNat = (n - (i + 1)).toNat + 1 by omega, Sp.fillP] at hk;simp only [Sp.psB, ei] at hk;rw [ez];exact hk
 ·rw [show (n - i).toNat = 0 by omega] at hk;exact vifd (fun h => absurd h hi) fun _ => ⟨rfl, hk⟩
def Xqc : LE Try.prog := ⟨83, 2, fun W => @Yto W Xg6, Xpj⟩
def T84b : Tab Try.prog := ⟨[], [Xqc], [ceOf Xh Xbj, ceOf (Xb4 9) (Xkt 9)]⟩
def Zer [W : InW] (sh : Ro Jb) := List.length (Sp.uns sh.xs)
def Zeq := Ybr [Ty.bool]
def Zes := Int.toNat Zb
def Zeu [W : InW] (kQ : Ro Iv5) (kP : Ro Jc) (kA : Int) (sh : Ro Jb) := Sp.psB kQ.xs kP.xs kA (sh).xs (Sp.uns (sh).xs)
def Zet [W : InW] (sh : Ro Jb) := List.length (Sp.uns (sh).xs)
def Xcn [W : InW] (kQ : Ro Iv5) (kP : Ro Jc) (kA : Int) (sh : Ro Jb) (Q : DS -> Prop) : Prop :=
 Vif (decide (Sp.askE kQ.xs kP.xs kA sh.xs = 0)) (Need (decide (Zb <= (↑(Zer sh) : Int))) (Ar .i64 ((1 : Int) * 2 ^ min (↑(Zer sh) : Int).toNat (64 : Nat)) fun z => Need (decide (z = z) && decide (0 <= z) && decide ((1 : Nat) * z.toNat <= 281474976710656)) (Need (decide (Zb <= (↑(Zer sh) : Int))) (Ar .i64 ((1 : Int) * 2 ^ min (↑(Zer sh) : Int).toNat (64 : Nat)) fun z_1 => PreL LPlo LPlo (Pre (Zb <= 0 /\ 0 <= z_1 /\ z_1 <= 1000 /\ z_1 = (↑(List.replicate z.toNat Zeq).length : Int) /\ Sp.KeyOk kQ.xs kP.xs kA /\ Sp.SeOk kQ.xs sh.xs (Sp.uns sh.xs)) (Pre (Sp.StOk (Sp.fillP (Sp.psB kQ.xs kP.xs kA sh.xs (Sp.uns sh.xs)) Zes (z_1 - 0).toNat (List.replicate z.toNat Zeq)) (Sp.uns sh.xs) Zb Zb /\ Sp.MemoOk (Sp.fillP (Sp.psB kQ.xs kP.xs kA sh.xs (Sp.uns sh.xs)) Zes (z_1 - 0).toNat (List.replicate z.toNat Zeq)) (Zer sh) [] /\ Sp.free (Zer sh) Zes < 9) (Sp.FaM (Sp.MemoOk (Sp.fillP (Sp.psB kQ.xs kP.xs kA sh.xs (Sp.uns sh.xs)) Zes (z_1 - 0).toNat (List.replicate z.toNat Zeq)) (Zer sh)) fun ys => Vif (decide ((Sp.lpC (Sp.fillP (Zeu kQ kP kA sh) Zes (z_1 - 0).toNat (List.replicate z.toNat Zeq)) (Zet sh) Zb Zb).2 < 0)) (Q [[Cl.i 0, Cl.i 0], [Cl.i 0], [Cl.i 4]]) (Need (decide (Zb <= (Sp.lpC (Sp.fillP (Zeu kQ kP kA sh) Zes (z_1 - 0).toNat (List.replicate z.toNat Zeq)) (Zet sh) Zb Zb).2) && decide ((Sp.lpC (Sp.fillP (Zeu kQ kP kA sh) Zes (z_1 - 0).toNat (List.replicate z.toNat Zeq)) (Zet sh) Zb Zb).2 < (↑(Zer sh) : Int))) (Need (decide ((Sp.lpC (Sp.fillP (Zeu kQ kP kA sh) Zes (z_1 - 0).toNat (List.replicate z.toNat Zeq)) (Zet sh) Zb Zb).2.toNat < List.length (Sp.uns sh.xs))) (Q [[Cl.i (cel (Sp.uns sh.xs) (Sp.lpC (Sp.fillP (Zeu kQ kP kA sh) Zes (z_1 - 0).toNat (List.replicate z.toNat Zeq)) (Zet sh) Zb Zb).2.toNat (0 : Nat)).int, Cl.i (cel (Sp.uns sh.xs) (Sp.lpC (Sp.fillP (Zeu kQ kP kA sh) Zes (z_1 - 0).toNat (List.replicate z.toNat Zeq)) (Zet sh) Zb Zb).2.toNat (0+1)).int], [Cl.i (Sp.lpC (Sp.fillP (Zeu kQ kP kA sh) Zes (z_1 - 0).toNat (List.replicate z.toNat Zeq)) (Zet sh) Zb Zb).1], [Cl.i 0]])))))))))) (Vif (!decide (Sp.askE kQ.xs kP.xs kA sh.xs = 0)) (Q [[Cl.i 0, Cl.i 0], [Cl.i 0], [Cl.i (Sp.askE kQ.xs kP.xs kA sh.xs)]]) ((16 : Nat) = 16 + 1))
theorem Xi6 (W : InW) (kQ kP kA sh Q) : Ywx (cxT Try.prog TT T84b 1000 50) 1000 30 [.agg [.rs _ kQ, .rs _ kP, .si .i64 kA], .rs _ sh] [] 0 (Y04 [(true, [.int .i64, .int .i64]), (false, [.int .i64]), (false, [.int .i64])] Q) (fun _ _ _ _ => Stuck 421) = Xcn kQ kP kA sh Q := by kernel_rfl
abbrev Xz : List AT := [.agg [.sl Iv5, .sl Jc, .int .i64], .one (.sl Jb)]
theorem Xj2 {pre : DS -> Prop} {res : DS -> DS} (hyp_ : ∀ (W : InW) (kQ : Ro Iv5) (kP : Ro Jc) (kA : Int) (sh : Ro Jb), pre [[.l kQ.xs, .l kP.xs, .i kA], [.l sh.xs]] -> ∀ Q : DS -> Prop, Q (res [[.l kQ.xs, .l kP.xs, .i kA], [.l sh.xs]]) -> Xcn kQ kP kA sh Q) : PureOk Try.prog 30 Xz [(true, [.int .i64, .int .i64]), (false, [.int .i64]), (false, [.int .i64])] pre res :=
 PureOk.of' (fun W => @TT W) (fun W => @Xe W) Xa T84b 1000 50 fun W kQ kP kA sh hp =>
  (Xi6 W kQ kP kA sh (fun o => o = res [[.l kQ.xs, .l kP.xs, .i kA], [.l sh.xs]])).mpr (hyp_ W kQ kP kA sh hp _ rfl)
namespace Sp
def lpP (qs ps : Dt) (all : Int) (sh : Dt) : Dt := fillP (psB qs ps all sh (uns sh)) 0 (2 ^ (uns sh).length) (List.replicate (2 ^ (uns sh).length) (Ybr [Ty.bool]))
def lpR (qs ps : Dt) (all : Int) (sh : Dt) : LpR := lpC (lpP qs ps all sh) (uns sh).length 0 0
def plE (qs ps : Dt) (all : Int) (sh : Dt) : Int := if askE qs ps all sh = 0 then (if (lpR qs ps all sh).i < 0 then 4 else 0) else askE qs ps all sh
def plR (qs ps : Dt) (all : Int) (sh : Dt) : LkR := if plE qs ps all sh = 0 then ⟨(lpR qs ps all sh).n, cA (uns sh) (lpR qs ps all sh).i.toNat, cB (uns sh) (lpR qs ps all sh).i.toNat⟩ else ⟨0, 0, 0⟩
end Sp
abbrev Xt (ds : DS) : DS := match ds with | [[.l qs, .l ps, .i all], [.l sh]] => [[.i (Sp.plR qs ps all sh).a, .i (Sp.plR qs ps all sh).b], [.i (Sp.plR qs ps all sh).n], [.i (Sp.plE qs ps all sh)]] | _ => []
theorem Xbo {f : Nat -> Bool} : ∀ (n i : Nat) (p : Dt), (Sp.fillP f i n p).length = p.length
 | 0, _, _ => rfl
 | n + 1, i, p => by rw [Sp.fillP, Xbo n, List.length_set]
theorem Xgk {c : Nat -> Int} {skip : Nat -> Bool} : ∀ (n i : Nat) (r : LpR), (Sp.lpF c skip i n r).i = r.i \/ ((i : Int) <= (Sp.lpF c skip i n r).i /\ (Sp.lpF c skip i n r).i < ((i + n : Nat) : Int))
 | 0, _, _ => .inl rfl
 | n + 1, i, r => by
  rw [Sp.lpF]
  split
  ·rcases Xgk (c := c) (skip := skip) n (i + 1) r with h | h
   ·exact .inl h
   ·exact .inr (by omega)
  ·split
   ·rcases Xgk (c := c) (skip := skip) n (i + 1) ⟨c i, i⟩ with h | h
    ·right; rw [h]; show (i : Int) <= (i : Int) /\ (i : Int) < _; omega
    ·exact .inr (by omega)
   ·rcases Xgk (c := c) (skip := skip) n (i + 1) r with h | h
    ·exact .inl h
    ·exact .inr (by omega)
theorem Xpq {ps : Dt} {w : Nat} {a b : Int} : (Sp.lpC ps w a b).i < 0 \/ (0 <= (Sp.lpC ps w a b).i /\ (Sp.lpC ps w a b).i < w) := by
 unfold Sp.lpC;rw [Sp.lpN]
 split
 ·rcases Xgk (c := fun i => 1 + max (Sp.lpN ps w (Sp.free w a.toNat) (Sp.orB a i) b).n (Sp.lpN ps w (Sp.free w a.toNat) (Sp.orB a i) (Sp.orB b i)).n) (skip := fun i => decide (Sp.bitA a i = 1)) w 0 ⟨0, -1⟩ with h | h
  ·exact .inl (by rw [h]; show (-1 : Int) < 0; decide)
  ·exact .inr (by omega)
 ·exact .inl (by show (-1 : Int) < 0; decide)
theorem Xmg : PureOk Try.prog 30 Xz [(true, [.int .i64, .int .i64]), (false, [.int .i64]), (false, [.int .i64])] (fun _ => True) Xt :=
 Xj2 fun W qs ps all sh hp Q h => by
  unfold Xcn;delta Zes Zb Zet Zeq Zeu Zer;simp only [Xt, Sp.plR] at h;refine vifd (fun e => ?_) fun e => vifn (fun _ => ?_) fun c => absurd c e
  ·obtain ⟨hk, hs⟩ := Sp.askE_ok e;have h7 := hs.seven;obtain ⟨p1, p2, p3⟩ := Xo h7;rw [p1];have hse := hs.se hk;have hfl : (Sp.lpP qs.xs ps.xs all sh.xs).length = 2 ^ (Sp.uns sh.xs).length := by unfold Sp.lpP; rw [Xbo, List.length_replicate]
   have e1 : Sp.plE qs.xs ps.xs all sh.xs = if (Sp.lpR qs.xs ps.xs all sh.xs).i < 0 then 4 else 0 := by unfold Sp.plE; rw [if_pos e]
   refine nedd (by omega) (ar64 (by omega) (ned (by simp only [Bool.and_eq_true, decide_eq_true_eq]; exact ⟨⟨trivial, Int.natCast_nonneg _⟩, by rw [Int.toNat_natCast]; omega⟩) (nedd (by omega) (ar64 (by omega) ⟨rfl, ?_⟩))));simp only [show Int.toNat 0 = 0 from rfl, Int.sub_zero, Int.toNat_natCast];simp only [show Sp.fillP (Sp.psB qs.xs ps.xs all sh.xs (Sp.uns sh.xs)) 0 (2 ^ (Sp.uns sh.xs).length) (List.replicate (2 ^ (Sp.uns sh.xs).length) (Ybr [.bool])) = Sp.lpP qs.xs ps.xs all sh.xs from rfl, show Sp.lpC (Sp.lpP qs.xs ps.xs all sh.xs) (Sp.uns sh.xs).length 0 0 = Sp.lpR qs.xs ps.xs all sh.xs from rfl];refine ⟨⟨by omega, by omega, by omega, by rw [List.length_replicate], hk, hse⟩, ⟨⟨⟨h7, hfl, by omega, Int.natCast_pos.2 p2, by omega, Int.natCast_pos.2 p2⟩, ⟨fun a b c => by cases c⟩, ?_⟩, ⟨fun ys hy => ?_⟩⟩⟩
   ·have := Xib (a := 0) h7 (by omega) (Int.natCast_pos.2 p2);exact Nat.lt_of_le_of_lt this (by decide)
   ·have ix : (Sp.lpR qs.xs ps.xs all sh.xs).i < 0 \/ _ := Xpq (ps := Sp.lpP qs.xs ps.xs all sh.xs) (w := (Sp.uns sh.xs).length) (a := 0) (b := 0);refine vifd (fun hi => ?_) fun hi => ?_
    ·rw [if_pos hi] at e1;rw [if_neg (by omega), e1] at h;exact h
    ·rw [if_neg hi] at e1;rw [if_pos e1, e1] at h;have ix2 := ix.resolve_left hi;have ix3 : 0 <= (Sp.lpR qs.xs ps.xs all sh.xs).i /\ (Sp.lpR qs.xs ps.xs all sh.xs).i < (Sp.uns sh.xs).length := ix2;exact ned (by simp only [Bool.and_eq_true, decide_eq_true_eq]; exact ⟨ix3.1, ix3.2⟩) (nedd (show (Sp.lpR qs.xs ps.xs all sh.xs).i.toNat < (Sp.uns sh.xs).length by omega) h)
  ·have e1 : Sp.plE qs.xs ps.xs all sh.xs = Sp.askE qs.xs ps.xs all sh.xs := by unfold Sp.plE; rw [if_neg e]
   rw [if_neg (by omega), e1] at h;exact h
namespace Sp
def shA : List (Nat × Nat) -> Nat -> Nat -> Dt -> Dt
 | [], _, _, s => s
 | p :: ps, a, b, s => shA ps (a / 2) (b / 2) (if a % 2 = 1 then withD s p.1 p.2 ((b % 2 : Nat) : Int) else s)
def frA : List (Nat × Nat) -> Nat -> List (Nat × Nat)
 | [], _ => []
 | p :: ps, a => if a % 2 = 1 then frA ps (a / 2) else p :: frA ps (a / 2)
theorem shA_with : ∀ (ps : List (Nat × Nat)) (a b : Nat) (s : Dt) (p : Nat × Nat) (v : Int), p ∉ ps -> withD (shA ps a b s) p.1 p.2 v = shA ps a b (withD s p.1 p.2 v)
 | [], _, _, _, _, _, _ => rfl
 | q :: ps, a, b, s, p, v, h => by
  have h1 : q ≠ p := fun e => h (e ▸ List.mem_cons_self);have h2 : p ∉ ps := fun e => h (List.mem_cons_of_mem _ e);unfold shA;rw [shA_with ps _ _ _ p v h2]
  split
  ·rw [withD_comm _ _ _ _ _ h1]
  ·rfl
theorem shA_step : ∀ (ps : List (Nat × Nat)) (i a b : Nat) (s : Dt) (v : Nat), ps.Nodup -> (h : i < ps.length) -> a / 2 ^ i % 2 = 0 -> b / 2 ^ i % 2 = 0 -> v < 2 -> withD (shA ps a b s) ps[i].1 ps[i].2 v = shA ps (a + 2 ^ i) (b + v * 2 ^ i) s
 | [], i, _, _, _, _, _, h, _, _, _ => absurd h (Nat.not_lt_zero _)
 | p :: ps, 0, a, b, s, v, hn, _, ha, hb, hv => by
  have hn' := List.nodup_cons.1 hn;have ha : a % 2 = 0 := by simpa using ha
  have hb : b % 2 = 0 := by simpa using hb
  show withD (shA (p :: ps) a b s) p.1 p.2 v = _
  rw [shA, if_neg (by omega), shA_with ps _ _ _ p v hn'.1, shA, Nat.pow_zero, if_pos (by omega), show (a + 1) / 2 = a / 2 by omega, show (b + v * 1) / 2 = b / 2 by omega, show (b + v * 1) % 2 = v by omega]
 | p :: ps, i + 1, a, b, s, v, hn, h, ha, hb, hv => by
  have hn' := List.nodup_cons.1 hn;have e2 : 2 ^ (i + 1) = 2 * 2 ^ i := by rw [Nat.pow_succ, Nat.mul_comm]
  have e3 : v * (2 * 2 ^ i) = 2 * (v * 2 ^ i) := by rw [<- Nat.mul_assoc, Nat.mul_comm v 2, Nat.mul_assoc]
  rw [e2, <- Nat.div_div_eq_div_mul] at ha hb;have hi : i < ps.length := by simpa using h
  show withD (shA (p :: ps) a b s) (ps[i]'hi).1 (ps[i]'hi).2 v = _
  rw [shA, shA_step ps i (a / 2) (b / 2) _ v hn'.2 (by simpa using h) ha hb hv, shA, e2, e3, show (a + 2 * 2 ^ i) / 2 = a / 2 + 2 ^ i by omega, show (b + 2 * (v * 2 ^ i)) / 2 = b / 2 + v * 2 ^ i by omega, show (a + 2 * 2 ^ i) % 2 = a % 2 by omega, show (b + 2 * (v * 2 ^ i)) % 2 = b % 2 by omega]
theorem pos_shA : ∀ (ps : List (Nat × Nat)) (a b : Nat) (s : Dt) (l : List (Nat × Nat)), ps.Nodup -> (∀ p ∈ l, p ∉ ps) -> pos s = l ++ ps -> pos (shA ps a b s) = l ++ frA ps a
 | [], _, _, _, _, _, _, h => h
 | p :: ps, a, b, s, l, hn, hl, h => by
  have hn' := List.nodup_cons.1 hn;unfold shA frA
  split
  ·refine pos_shA ps _ _ _ l hn'.2 (fun q hq hq2 => hl q hq (List.mem_cons_of_mem _ hq2)) ?_;rw [pos_with (by omega), h, List.filter_append, filter_ne_tl (fun hq => hl _ hq List.mem_cons_self), List.filter_cons, if_neg (by simp), filter_ne_tl hn'.1]
  ·have := pos_shA ps (a / 2) (b / 2) s (l ++ [p]) hn'.2 (fun q hq hq2 => by
    rcases List.mem_append.1 hq with hq | hq
    ·exact hl q hq (List.mem_cons_of_mem _ hq2)
    ·rw [List.mem_singleton.1 hq] at hq2; exact hn'.1 hq2) (by rw [h, List.append_assoc]; rfl)
   rw [this, List.append_assoc];rfl
theorem it_shA : ∀ (ps : List (Nat × Nat)) (a b : Nat) (s r : Dt), ps.Nodup -> b &&& a = b -> ((∃ c, c < 2 ^ (frA ps a).length /\ r = itW (frA ps a) c (shA ps a b s)) ↔ ∃ c, c < 2 ^ ps.length /\ (∀ i, i < ps.length -> a / 2 ^ i % 2 = 1 -> c / 2 ^ i % 2 = b / 2 ^ i % 2) /\ r = itW ps c s)
 | [], a, b, s, r, hn, hb => by
  constructor
  ·rintro ⟨c, hc, e⟩;exact ⟨c, hc, fun i hi => absurd hi (Nat.not_lt_zero _), e⟩
  ·rintro ⟨c, hc, _, e⟩;exact ⟨c, hc, e⟩
 | p :: ps, a, b, s, r, hn, hb => by
  have hn' := List.nodup_cons.1 hn;have hb2 : b / 2 &&& a / 2 = b / 2 := by rw [<- Nat.and_div_two]; rw [hb]
  have up : ∀ (c : Nat), (∀ i, i < (p :: ps).length -> a / 2 ^ i % 2 = 1 -> c / 2 ^ i % 2 = b / 2 ^ i % 2) ↔ (a % 2 = 1 -> c % 2 = b % 2) /\ ∀ i, i < ps.length -> a / 2 / 2 ^ i % 2 = 1 -> c / 2 / 2 ^ i % 2 = b / 2 / 2 ^ i % 2 := fun c => by
   constructor
   ·intro h;refine ⟨fun ha => by simpa using h 0 (by simp) (by simpa using ha), fun i hi ha => ?_⟩;have := h (i + 1) (by simpa using hi);rw [Nat.pow_succ, Nat.mul_comm (2 ^ i) 2, <- Nat.div_div_eq_div_mul, <- Nat.div_div_eq_div_mul, <- Nat.div_div_eq_div_mul] at this;exact this ha
   ·rintro ⟨h0, h1⟩ i hi ha;cases i with
    | zero => simpa using h0 (by simpa using ha)
    | succ i =>
     rw [Nat.pow_succ, Nat.mul_comm (2 ^ i) 2, <- Nat.div_div_eq_div_mul] at ha ⊢;rw [<- Nat.div_div_eq_div_mul];exact h1 i (by simpa using hi) ha
  simp only [up]
  by_cases ha : a % 2 = 1
  ·unfold frA shA;rw [if_pos ha, if_pos ha, it_shA ps (a / 2) (b / 2) _ r hn'.2 hb2, List.length_cons, Nat.pow_succ];constructor
   ·rintro ⟨c, hc, h1, e⟩;refine ⟨2 * c + b % 2, by omega, ⟨fun _ => by omega, ?_⟩, ?_⟩
    ·rw [show (2 * c + b % 2) / 2 = c by omega]; exact h1
    ·rw [itW, show (2 * c + b % 2) / 2 = c by omega, show (2 * c + b % 2) % 2 = b % 2 by omega]; exact e
   ·rintro ⟨c, hc, ⟨h0, h1⟩, e⟩;refine ⟨c / 2, by omega, h1, ?_⟩;rw [itW, h0 ha] at e;exact e
  ·unfold frA shA;rw [if_neg ha, if_neg ha, List.length_cons, List.length_cons, Nat.pow_succ, Nat.pow_succ];have ih := fun v => it_shA ps (a / 2) (b / 2) (withD s p.1 p.2 v) r hn'.2 hb2;constructor
   ·rintro ⟨c, hc, e⟩;rw [itW, shA_with ps _ _ _ p _ hn'.1] at e;obtain ⟨d, hd, h1, e⟩ := (ih _).1 ⟨c / 2, by omega, e⟩;refine ⟨2 * d + c % 2, by omega, ⟨fun h => absurd h ha, ?_⟩, ?_⟩
    ·rw [show (2 * d + c % 2) / 2 = d by omega]; exact h1
    ·rw [itW, show (2 * d + c % 2) / 2 = d by omega, show (2 * d + c % 2) % 2 = c % 2 by omega]; exact e
   ·rintro ⟨c, hc, ⟨_, h1⟩, e⟩;rw [itW] at e;obtain ⟨d, hd, e⟩ := (ih _).2 ⟨c / 2, by omega, h1, e⟩;refine ⟨2 * d + c % 2, by omega, ?_⟩;rw [itW, shA_with ps _ _ _ p _ hn'.1, show (2 * d + c % 2) / 2 = d by omega, show (2 * d + c % 2) % 2 = c % 2 by omega];exact e
end Sp
namespace Sp
theorem and7 : ∀ k a : Fin 128, andI .i64 (k.val : Int) (a.val : Int) = ((k.val &&& a.val : Nat) : Int) := by decide +kernel
theorem and_iff {w k a b : Nat} (ha : a < 2 ^ w) (hb : b &&& a = b) : (k &&& a = b) ↔ ∀ i, i < w -> a / 2 ^ i % 2 = 1 -> k / 2 ^ i % 2 = b / 2 ^ i % 2 := by
 constructor
 ·rintro rfl i hi h1;have t := Nat.testBit_and k a i;simp only [Nat.testBit_eq_decide_div_mod_eq, h1, decide_true, Bool.and_true, decide_eq_decide] at t;omega
 ·intro h;apply Nat.eq_of_testBit_eq;intro i;rw [Nat.testBit_and];cases hta : a.testBit i with
  | false => rw [Bool.and_false, <- hb, Nat.testBit_and, hta, Bool.and_false]
  | true =>
   have hi : i < w := by
    rcases Nat.lt_or_ge i w with h | h
    ·exact h
    ·rw [Nat.testBit_lt_two_pow (Nat.lt_of_lt_of_le ha (Nat.pow_le_pow_right (by decide) h))] at hta;cases hta
   have := h i hi (by simpa [Nat.testBit_eq_decide_div_mod_eq] using hta);rw [Bool.and_true, Nat.testBit_eq_decide_div_mod_eq, Nat.testBit_eq_decide_div_mod_eq, this]
theorem fillP_get {f : Nat -> Bool} : ∀ (n i : Nat) (p : Dt) (k : Nat), i + n <= p.length -> psb (fillP f i n p) k = if i <= k /\ k < i + n then f k else psb p k
 | 0, i, p, k, _ => by rw [if_neg (by omega)]; rfl
 | n + 1, i, p, k, h => by
  rw [fillP, fillP_get n (i + 1) _ k (by rw [List.length_set]; omega)]
  by_cases e : k = i
  ·subst e;rw [if_neg (by omega), if_pos (by omega)];unfold psb cel;rw [List.getD_eq_getElem?_getD (l := p.set k _), List.getElem?_set_self (by omega)];rfl
  ·have : psb (p.set i [.b (f i)]) k = psb p k := by
    unfold psb cel;rw [List.getD_eq_getElem?_getD (l := p.set i _), List.getElem?_set_ne (Ne.symm e), <- List.getD_eq_getElem?_getD]
   rw [this]
   by_cases c : i + 1 <= k /\ k < i + 1 + n
   ·rw [if_pos c, if_pos (by omega)]
   ·rw [if_neg c, if_neg (by omega)]
theorem lpP_len (qs ps : Dt) (all : Int) (sh : Dt) : (lpP qs ps all sh).length = 2 ^ (uns sh).length := by unfold lpP; rw [Xbo, List.length_replicate]
theorem lpP_get {qs ps sh : Dt} {all : Int} {k : Nat} (h : k < 2 ^ (uns sh).length) : psb (lpP qs ps all sh) k = psB qs ps all sh (uns sh) k := by
 unfold lpP;rw [fillP_get _ _ _ _ (by rw [List.length_replicate]; omega), if_pos (by omega)]
theorem oc2 {qs ps s : Dt} {all : Int} : ocV qs ps all s = 2 ↔ (∃ r ∈ rds s, psS qs ps all r = true) /\ ∃ r ∈ rds s, psS qs ps all r = false := by
 have h1 : anyP qs ps all (rdD s) = true ↔ ∃ r ∈ rds s, psS qs ps all r = true := by
  refine (anyF_0 (f := fun k => psS qs ps all (row (rdD s) k))).trans ?_;constructor
  ·rintro ⟨k, hk, e⟩; exact ⟨_, rds_ix.2 ⟨k, hk, rfl⟩, e⟩
  ·rintro ⟨r, hr, e⟩; obtain ⟨k, hk, e2⟩ := rds_ix.1 hr; exact ⟨k, hk, by rw [e2]; exact e⟩
 have h2 : allP qs ps all (rdD s) = true ↔ ∀ r ∈ rds s, psS qs ps all r = true := by
  refine (allF_0 (f := fun k => psS qs ps all (row (rdD s) k))).trans ?_;constructor
  ·intro h r hr; obtain ⟨k, hk, e2⟩ := rds_ix.1 hr; rw [<- e2]; exact h k hk
  ·intro h k hk; exact h _ (rds_ix.2 ⟨k, hk, rfl⟩)
 have h3 : (∃ r ∈ rds s, psS qs ps all r = false) ↔ ¬ ∀ r ∈ rds s, psS qs ps all r = true := by
  constructor
  ·rintro ⟨r, hr, e⟩ h; rw [h r hr] at e; cases e
  ·intro h
   by_cases c : ∃ r ∈ rds s, psS qs ps all r = false
   ·exact c
   ·exact absurd (fun r hr => by cases e : psS qs ps all r with | true => rfl | false => exact absurd ⟨r, hr, e⟩ c) h
 rw [h3, <- h1, <- h2];unfold ocV
 split
 ·rename_i h; simp [h]
 ·rename_i h
  split
  ·rename_i h'; simp [h, h']
  ·rename_i h'; simp [h, h']
theorem fit_iff {w k a b : Nat} (hw : w <= 7) (hk : k < 2 ^ w) (ha : a < 2 ^ w) (hb : b &&& a = b) : fit a b k = true ↔ ∀ i, i < w -> a / 2 ^ i % 2 = 1 -> k / 2 ^ i % 2 = b / 2 ^ i % 2 := by
 have p : 2 ^ w <= 2 ^ 7 := Nat.pow_le_pow_right (by decide) hw;have h7 : (2 : Nat) ^ 7 = 128 := rfl;unfold fit;rw [decide_eq_true_eq, <- and_iff ha hb];have := and7 ⟨k, by omega⟩ ⟨a, by omega⟩;rw [this];exact ⟨fun e => Int.ofNat.inj e, fun e => congrArg _ e⟩
theorem mix_iff {qs ps sh : Dt} {all : Int} {a b : Nat} (hk : KeyOk qs ps all) (hs : ShOk qs sh) (ha : a < 2 ^ (pos sh).length) (hb : b &&& a = b) : mixB (lpP qs ps all sh) a b = true ↔ ocV qs ps all (shA (pos sh) a b sh) = 2 := by
 have h7 := hs.seven;rw [uns_len] at h7;have hp : pos (shA (pos sh) a b sh) = frA (pos sh) a := by
  have := pos_shA (pos sh) a b sh [] (pos_nd sh) (fun p hp => by cases hp) rfl;exact this
 have hr : ∀ r, r ∈ rds (shA (pos sh) a b sh) ↔ ∃ c, c < 2 ^ (pos sh).length /\ fit a b c = true /\ r = itW (pos sh) c sh := fun r => by
  rw [rds_it _ _ r hp, it_shA _ a b sh r (pos_nd sh) hb];constructor
  ·rintro ⟨c, hc, h, e⟩; exact ⟨c, hc, (fit_iff h7 hc ha hb).2 h, e⟩
  ·rintro ⟨c, hc, h, e⟩; exact ⟨c, hc, (fit_iff h7 hc ha hb).1 h, e⟩
 have hg : ∀ c, c < 2 ^ (pos sh).length -> psb (lpP qs ps all sh) c = psS qs ps all (itW (pos sh) c sh) := fun c hc => by
  rw [lpP_get (by rw [uns_len]; exact hc)];exact psW_it hk hs.n h7 hc
 have hl : (lpP qs ps all sh).length = 2 ^ (pos sh).length := by rw [lpP_len, uns_len]
 have m1 : anyF (fitA (lpP qs ps all sh) a b) 0 (lpP qs ps all sh).length = true ↔ ∃ r ∈ rds (shA (pos sh) a b sh), psS qs ps all r = true := by
  rw [anyF_0, hl];constructor
  ·rintro ⟨c, hc, e⟩;unfold fitA at e;rw [Bool.and_eq_true] at e;exact ⟨_, (hr _).2 ⟨c, hc, e.1, rfl⟩, by rw [<- hg c hc]; exact e.2⟩
  ·rintro ⟨r, h, e⟩;obtain ⟨c, hc, h1, rfl⟩ := (hr _).1 h;exact ⟨c, hc, by unfold fitA; rw [h1, hg c hc, e]; rfl⟩
 have m2 : (!allF (fitE (lpP qs ps all sh) a b) 0 (lpP qs ps all sh).length) = true ↔ ∃ r ∈ rds (shA (pos sh) a b sh), psS qs ps all r = false := by
  rw [Bool.not_eq_true', <- Bool.not_eq_true, allF_0, hl];constructor
  ·intro h
   by_cases c : ∃ r ∈ rds (shA (pos sh) a b sh), psS qs ps all r = false
   ·exact c
   ·refine absurd (fun k hk => ?_) h;unfold fitE;cases e : fit a b k with
    | false => rfl
    | true =>
     cases e2 : psS qs ps all (itW (pos sh) k sh) with
     | true => rw [hg k hk, e2]; rfl
     | false => exact absurd ⟨_, (hr _).2 ⟨k, hk, e, rfl⟩, e2⟩ c
  ·rintro ⟨r, h, e⟩ h2;obtain ⟨c, hc, h1, rfl⟩ := (hr _).1 h;have := h2 c hc;unfold fitE at this;rw [h1, hg c hc, e] at this;cases this
 unfold mixB;rw [Bool.and_eq_true, oc2, m1, m2]
end Sp
namespace Sp
theorem orFacts : ∀ (a : Fin 128) (i : Fin 7), bitA (a.val : Int) (i.val : Int) = ((a.val / 2 ^ i.val % 2 : Nat) : Int) /\ (a.val / 2 ^ i.val % 2 = 0 -> orB (a.val : Int) (i.val : Int) = ((a.val + 2 ^ i.val : Nat) : Int) /\ a.val + 2 ^ i.val = a.val ||| 2 ^ i.val) := by decide +kernel
theorem sub_or {a b y : Nat} (h : b &&& a = b) : b &&& (a ||| y) = b /\ (b ||| y) &&& (a ||| y) = b ||| y := by
 have hj : ∀ j, (b.testBit j && a.testBit j) = b.testBit j := fun j => by rw [<- Nat.testBit_and, h]
 constructor <;> apply Nat.eq_of_testBit_eq <;> intro j <;> have := hj j <;> simp only [Nat.testBit_and, Nat.testBit_or] <;> revert this <;> cases b.testBit j <;> cases a.testBit j <;> cases y.testBit j <;> simp
theorem sub_bit {a b i : Nat} (h : b &&& a = b) (ha : a / 2 ^ i % 2 = 0) : b / 2 ^ i % 2 = 0 := by
 have : (b.testBit i && a.testBit i) = b.testBit i := by rw [<- Nat.testBit_and, h]
 simp only [Nat.testBit_eq_decide_div_mod_eq, ha] at this;simp at this;omega
theorem frA_mem : ∀ {ps : List (Nat × Nat)} {a i : Nat} (h : i < ps.length), a / 2 ^ i % 2 = 0 -> ps[i] ∈ frA ps a
 | [], _, i, h, _ => absurd h (Nat.not_lt_zero _)
 | p :: ps, a, 0, h, ha => by
  have ha : a % 2 = 0 := by simpa using ha
  unfold frA;rw [if_neg (by omega)];exact List.mem_cons_self
 | p :: ps, a, i + 1, h, ha => by
  have hi : i < ps.length := by simpa using h
  rw [Nat.pow_succ, Nat.mul_comm (2 ^ i) 2, <- Nat.div_div_eq_div_mul] at ha;have := frA_mem (a := a / 2) hi ha;unfold frA
  split
  ·exact this
  ·exact List.mem_cons_of_mem _ this
def lkL (c : Nat × Nat -> Int) : List (Nat × Nat) -> LkR -> LkR
 | [], r => r
 | p :: l, r => lkL c l (if r.n < 0 \/ c p < r.n then ⟨c p, p.1, p.2⟩ else r)
theorem lkF_L {c : Nat -> Int} {c' : Nat × Nat -> Int} (l : List (Nat × Nat)) (hc : ∀ i (h : i < l.length), c i = c' l[i]) : ∀ (n i : Nat) (r : LkR), i + n = l.length -> lkF c (l.map prC) i n r = lkL c' (l.drop i) r
 | 0, i, r, h => by rw [List.drop_eq_nil_of_le (by omega)]; rfl
 | n + 1, i, r, h => by
  have hi : i < l.length := by omega
  rw [List.drop_eq_getElem_cons hi];unfold lkF lkL;rw [(prC_cel l i hi).1, (prC_cel l i hi).2, hc i hi, lkF_L l hc n (i + 1) _ (by omega)]
structure LkRel (us : List (Nat × Nat)) (r : LkR) (t : LpR) : Prop where
 neg : r.n < 0 ↔ t.i < 0
 pos : 0 <= t.i -> r.n = t.n /\ ∃ h : t.i.toNat < us.length, r.a = us[t.i.toNat].1 /\ r.b = us[t.i.toNat].2
theorem lk_lp {c : Nat -> Int} {c' : Nat × Nat -> Int} (us : List (Nat × Nat)) (A : Nat) (hc : ∀ k (h : k < us.length), A / 2 ^ k % 2 = 0 -> c k = c' us[k] /\ 0 <= c k) : ∀ (n k : Nat) (r : LkR) (t : LpR), k + n = us.length -> LkRel us r t -> LkRel us (lkL c' (frA (us.drop k) (A / 2 ^ k)) r) (lpF c (fun i => decide (A / 2 ^ i % 2 = 1)) k n t)
 | 0, k, r, t, h, hr => by rw [List.drop_eq_nil_of_le (by omega)]; exact hr
 | n + 1, k, r, t, h, hr => by
  have hk : k < us.length := by omega
  have ih := lk_lp us A hc n (k + 1);rw [Nat.pow_succ, <- Nat.div_div_eq_div_mul] at ih;rw [List.drop_eq_getElem_cons hk];unfold frA lpF
  by_cases e : A / 2 ^ k % 2 = 1
  ·rw [if_pos e, if_pos (by simpa using e)];exact ih r t (by omega) hr
  ·rw [if_neg e, if_neg (by simpa using e)];obtain ⟨c1, c2⟩ := hc k hk (by omega);unfold lkL;refine ih _ _ (by omega) ?_;rw [<- c1];have hiff : (r.n < 0 \/ c k < r.n) ↔ (t.i < 0 \/ c k < t.n) := by
    by_cases ht : t.i < 0
    ·exact ⟨fun _ => .inl ht, fun _ => .inl (hr.neg.2 ht)⟩
    ·have h1 := (hr.pos (by omega)).1;have h2 : ¬ r.n < 0 := fun x => ht (hr.neg.1 x);rw [h1];constructor
     ·rintro (x | x)
      ·rw [<- h1] at x; exact absurd x h2
      ·exact .inr x
     ·rintro (x | x)
      ·exact absurd x ht
      ·exact .inr x
   by_cases x : r.n < 0 \/ c k < r.n
   ·rw [if_pos x, if_pos (hiff.1 x)];refine ⟨⟨fun y => ?_, fun y => ?_⟩, fun _ => ⟨rfl, ?_⟩⟩
    ·have : c k < 0 := y;omega
    ·have : ((k : Nat) : Int) < 0 := y;omega
    ·show ∃ h : ((k : Nat) : Int).toNat < us.length, _
     simp only [Int.toNat_natCast];exact ⟨hk, by simp⟩
   ·rw [if_neg x, if_neg fun y => x (hiff.2 y)];exact hr
end Sp
namespace Sp
theorem lpF_skip {c : Nat -> Int} {s s' : Nat -> Bool} : ∀ (n i : Nat) (r : LpR), (∀ k, i <= k -> k < i + n -> s k = s' k) -> lpF c s i n r = lpF c s' i n r
 | 0, _, _, _ => rfl
 | n + 1, i, r, h => by
  unfold lpF;rw [h i (Nat.le_refl _) (by omega)];exact lpF_skip n _ _ fun k h1 h2 => h k (by omega) (by omega)
theorem lkL_pos {c : Nat × Nat -> Int} (hc : ∀ p, 0 <= c p) : ∀ (l : List (Nat × Nat)) (r : LkR), (0 <= r.n \/ l ≠ []) -> 0 <= (lkL c l r).n
 | [], r, h => h.elim id fun x => absurd rfl x
 | p :: l, r, h => by
  unfold lkL;refine lkL_pos hc l _ (.inl ?_)
  split
  ·exact hc p
  ·omega
theorem oc_free {qs ps s : Dt} {all : Int} (h : ocV qs ps all s = 2) : pos s ≠ [] := fun e => by
 obtain ⟨⟨r, hr, h1⟩, r', hr', h2⟩ := oc2.1 h;rw [rds_nil e, List.mem_singleton] at hr hr';rw [hr] at h1;rw [hr', h1] at h2;cases h2
theorem look_same {qs ps sh : Dt} {all : Int} (hk : KeyOk qs ps all) (hs : ShOk qs sh) : ∀ (n A B : Nat), A < 2 ^ (pos sh).length -> B &&& A = B -> (pos (shA (pos sh) A B sh)).length < n ->
  (lkN qs ps all n (shA (pos sh) A B sh)).n = (lpC (lpP qs ps all sh) (pos sh).length A B).n /\
  ((lpC (lpP qs ps all sh) (pos sh).length A B).i < 0 -> ocV qs ps all (shA (pos sh) A B sh) ≠ 2) /\
  (0 <= (lpC (lpP qs ps all sh) (pos sh).length A B).i -> ocV qs ps all (shA (pos sh) A B sh) = 2 /\ ∃ h : (lpC (lpP qs ps all sh) (pos sh).length A B).i.toNat < (pos sh).length, (lkN qs ps all n (shA (pos sh) A B sh)).a = (pos sh)[(lpC (lpP qs ps all sh) (pos sh).length A B).i.toNat].1 /\ (lkN qs ps all n (shA (pos sh) A B sh)).b = (pos sh)[(lpC (lpP qs ps all sh) (pos sh).length A B).i.toNat].2)
 | 0, _, _, _, _, h => absurd h (Nat.not_lt_zero _)
 | n + 1, A, B, hA, hB, hn => by
  have h7 := hs.seven;rw [uns_len] at h7;have p7 : 2 ^ (pos sh).length <= 2 ^ 7 := Nat.pow_le_pow_right (by decide) h7;have e7 : (2 : Nat) ^ 7 = 128 := rfl;have hAi : (A : Int) < ((2 ^ (pos sh).length : Nat) : Int) := Int.ofNat_lt.2 hA;have mi := mix_iff (ps := ps) (all := all) hk hs hA hB;have hp : pos (shA (pos sh) A B sh) = frA (pos sh) A := pos_shA (pos sh) A B sh [] (pos_nd sh) (fun p hp => by cases hp) rfl;have hB2 : B < 2 ^ (pos sh).length := Nat.lt_of_le_of_lt (by rw [<- hB]; exact Nat.and_le_right) hA;have hu : uns (shA (pos sh) A B sh) = (frA (pos sh) A).map prC := by rw [uns_pos, hp]
  have leq := Xku (ps := lpP qs ps all sh) (w := (pos sh).length) (a := (A : Int)) (b := (B : Int)) h7 (Int.natCast_nonneg _) hAi
  by_cases m : ocV qs ps all (shA (pos sh) A B sh) = 2
  ·rw [if_pos (mi.2 m)] at leq;obtain ⟨cc, hcc⟩ : ∃ c : Nat × Nat -> Int, ∀ p, c p = 1 + max (lkN qs ps all n (withD (shA (pos sh) A B sh) p.1 p.2 0)).n (lkN qs ps all n (withD (shA (pos sh) A B sh) p.1 p.2 1)).n := ⟨_, fun _ => rfl⟩;have c1 : ∀ k (h : k < (pos sh).length), A / 2 ^ k % 2 = 0 -> lpc (lpP qs ps all sh) (pos sh).length A B k = cc (pos sh)[k] /\ 0 <= lpc (lpP qs ps all sh) (pos sh).length A B k := fun k h ha => by
    have hb := sub_bit hB ha;obtain ⟨oa, oa2⟩ := (orFacts ⟨A, by omega⟩ ⟨k, by omega⟩).2 ha;obtain ⟨ob, ob2⟩ := (orFacts ⟨B, by omega⟩ ⟨k, by omega⟩).2 hb;have lt := (Xbc (a := (A : Int)) (i := (k : Int)) h7 (Int.natCast_nonneg _) hAi (Int.natCast_nonneg _) (Int.ofNat_lt.2 h)).2.1;have oa : orB (A : Int) (k : Int) = ((A + 2 ^ k : Nat) : Int) := oa;have ob : orB (B : Int) (k : Int) = ((B + 2 ^ k : Nat) : Int) := ob;have oa2 : A + 2 ^ k = A ||| 2 ^ k := oa2
    have ob2 : B + 2 ^ k = B ||| 2 ^ k := ob2
    rw [oa] at lt;have lt := Int.ofNat_lt.1 lt;have so := sub_or (y := 2 ^ k) hB;have hm : (pos sh)[k] ∈ pos (shA (pos sh) A B sh) := by rw [hp]; exact frA_mem h ha
    have s0 := shA_step (pos sh) k A B sh 0 (pos_nd sh) h ha hb (by decide);have s1 := shA_step (pos sh) k A B sh 1 (pos_nd sh) h ha hb (by decide);rw [Nat.zero_mul, Nat.add_zero] at s0;rw [Nat.one_mul] at s1;have l0 : (pos (withD (shA (pos sh) A B sh) (pos sh)[k].1 (pos sh)[k].2 0)).length + 1 = (pos (shA (pos sh) A B sh)).length := pos_with_len (v := 0) (by decide) hm;have l1 : (pos (withD (shA (pos sh) A B sh) (pos sh)[k].1 (pos sh)[k].2 1)).length + 1 = (pos (shA (pos sh) A B sh)).length := pos_with_len (v := 1) (by decide) hm;have s0 : withD (shA (pos sh) A B sh) (pos sh)[k].1 (pos sh)[k].2 0 = shA (pos sh) (A + 2 ^ k) B sh := s0;have s1 : withD (shA (pos sh) A B sh) (pos sh)[k].1 (pos sh)[k].2 1 = shA (pos sh) (A + 2 ^ k) (B + 2 ^ k) sh := s1;rw [s0] at l0;rw [s1] at l1;have i0 := (look_same hk hs n (A + 2 ^ k) B lt (by rw [oa2]; exact so.1) (by omega)).1;have i1 := (look_same hk hs n (A + 2 ^ k) (B + 2 ^ k) lt (by rw [oa2, ob2]; exact so.2) (by omega)).1;have bd := Xbm (ps := lpP qs ps all sh) (w := (pos sh).length) (a := ((A + 2 ^ k : Nat) : Int)) (b := (B : Int)) h7 (Int.natCast_nonneg _) (Int.ofNat_lt.2 lt);have e : lpc (lpP qs ps all sh) (pos sh).length A B k = 1 + max (lpC (lpP qs ps all sh) (pos sh).length ((A + 2 ^ k : Nat) : Int) B).n (lpC (lpP qs ps all sh) (pos sh).length ((A + 2 ^ k : Nat) : Int) ((B + 2 ^ k : Nat) : Int)).n := by
     unfold lpc;rw [oa, ob]
    refine ⟨?_, by rw [e]; omega⟩;rw [hcc, e, s0, s1, i0, i1]
   have rel := lk_lp (pos sh) A (c := lpc (lpP qs ps all sh) (pos sh).length A B) c1 (pos sh).length 0 ⟨-1, 0, 0⟩ ⟨0, -1⟩ (by omega) ⟨⟨fun _ => by decide, fun _ => by decide⟩, fun h => absurd h (by decide)⟩;rw [lpF_skip (s' := lps A) _ _ _ (fun k _ h => by
    unfold lps;rw [(orFacts ⟨A, by omega⟩ ⟨k, by omega⟩).1];simp only [decide_eq_decide];omega), <- leq, Nat.pow_zero, Nat.div_one, List.drop_zero] at rel
   have er : lkN qs ps all (n + 1) (shA (pos sh) A B sh) = lkL cc (frA (pos sh) A) ⟨-1, 0, 0⟩ := by
    rw [lkN, if_pos m, hu, List.length_map];refine (lkF_L (frA (pos sh) A) (fun i h => ?_) _ 0 _ (by omega)).trans (by rw [List.drop_zero]);rw [hcc, (prC_cel _ i h).1, (prC_cel _ i h).2, Int.toNat_natCast, Int.toNat_natCast]
   rw [<- er] at rel;have ge : 0 <= (lkN qs ps all (n + 1) (shA (pos sh) A B sh)).n := by
    rw [er];refine lkL_pos (fun p => ?_) _ _ (.inr (by rw [<- hp]; exact oc_free m));have := (lkN_in qs ps all n (withD (shA (pos sh) A B sh) p.1 p.2 0)).1;rw [hcc];omega
   have hi : ¬ (lpC (lpP qs ps all sh) (pos sh).length A B).i < 0 := fun x => by have := rel.neg.2 x; omega
   obtain ⟨r1, r2⟩ := rel.pos (by omega);exact ⟨r1, fun x => absurd x hi, fun _ => ⟨m, r2⟩⟩
  ·rw [if_neg fun x => m (mi.1 x)] at leq;rw [leq, lkN, if_neg m];exact ⟨rfl, fun _ => m, fun h => absurd h (by decide)⟩
end Sp
namespace Sp
theorem shA_zero : ∀ (ps : List (Nat × Nat)) (b : Nat) (s : Dt), shA ps 0 b s = s
 | [], _, _ => rfl
 | p :: ps, b, s => by
  rw [shA, if_neg (by decide)];exact shA_zero ps _ s
theorem lpR_eq (qs ps : Dt) (all : Int) (sh : Dt) : lpR qs ps all sh = lpC (lpP qs ps all sh) (pos sh).length ((0 : Nat) : Int) ((0 : Nat) : Int) := by
 unfold lpR;rw [uns_len];rfl
theorem lk_lpR {qs ps sh : Dt} {all : Int} (hk : KeyOk qs ps all) (hs : ShOk qs sh) : (ocV qs ps all sh = 2 ↔ ¬ (lpR qs ps all sh).i < 0) /\ (ocV qs ps all sh = 2 -> lkN qs ps all 8 sh = ⟨(lpR qs ps all sh).n, cA (uns sh) (lpR qs ps all sh).i.toNat, cB (uns sh) (lpR qs ps all sh).i.toNat⟩) := by
 have h7 := hs.seven;rw [uns_len] at h7;have L := look_same (ps := ps) (all := all) hk hs 8 0 0 (Nat.two_pow_pos _) rfl (by rw [shA_zero]; omega);rw [shA_zero, <- lpR_eq] at L;obtain ⟨l1, l2, l3⟩ := L;refine ⟨⟨fun h x => l2 x h, fun h => (l3 (by omega)).1⟩, fun h => ?_⟩;have hi : 0 <= (lpR qs ps all sh).i := by
  rcases Int.lt_or_le (lpR qs ps all sh).i 0 with x | x
  ·exact absurd h (l2 x)
  ·exact x
 obtain ⟨_, hj, ha, hb⟩ := l3 hi;have e := prC_cel (pos sh) _ hj;rw [uns_pos, e.1, e.2, <- ha, <- hb, <- l1]
theorem plE_eq (qs ps : Dt) (all : Int) (sh : Dt) : plE qs ps all sh = lookE qs ps all sh := by
 unfold plE lookE
 by_cases e : askE qs ps all sh = 0
 ·obtain ⟨hk, hs⟩ := askE_ok e;rw [if_pos e, if_pos e];have h := (lk_lpR hk hs).1
  by_cases x : (lpR qs ps all sh).i < 0
  ·rw [if_pos x, if_neg fun y => h.1 y x]
  ·rw [if_neg x, if_pos (h.2 x)]
 ·rw [if_neg e, if_neg e]
theorem plR_eq (qs ps : Dt) (all : Int) (sh : Dt) : plR qs ps all sh = lookR qs ps all sh := by
 unfold plR lookR;rw [plE_eq]
 by_cases e : lookE qs ps all sh = 0
 ·rw [if_pos e, if_pos e];have ea : askE qs ps all sh = 0 := by
   unfold lookE at e
   split at e
   ·assumption
   ·exact e
  obtain ⟨hk, hs⟩ := askE_ok ea;have eo : ocV qs ps all sh = 2 := by
   unfold lookE at e;rw [if_pos ea] at e
   split at e
   ·assumption
   ·cases e
  exact ((lk_lpR hk hs).2 eo).symm
 ·rw [if_neg e, if_neg e]
end Sp
theorem Xjp : PureOk Try.prog 30 Xz [(true, [.int .i64, .int .i64]), (false, [.int .i64]), (false, [.int .i64])] (fun _ => True) Xb7 := by
 have e : Xt = Xb7 := by
  funext ds
  unfold Xt;simp only [Sp.plR_eq, Sp.plE_eq];rfl
 rw [<- e];exact Xmg
def Xjk : PC Try.prog := ⟨30, Xz, [(true, [.int .i64, .int .i64]), (false, [.int .i64]), (false, [.int .i64])], fun _ => True, Xb7, Xjp⟩
end Go.Proofs.Ytifhdbgciehicaa
