/-
  'PaperAny': for every input the law returns true, and what is handed in reads as before. No condition.
-/
import Derived.Test.YtilnbgpogfabaaaQana
set_option linter.unusedVariables false
set_option linter.unusedSectionVars false
set_option linter.unusedSimpArgs false
namespace Go.Proofs.Ytilnbgpogfabaaa
open Go.RowKit
abbrev Jc : List Ty := [.sl [.int .i64]]
set_option maxRecDepth 100000
set_option maxHeartbeats 1600000
def Xc3 (m : Nat) [InW] (e : List Ed) (K : Nat -> List Ed -> Prop) : Prop := match e with
 | [.i t, .i s, .i a, .i b, .i c, .i d, .ro _ qs, .ro _ ws, .i lo, .i hi, .l w, .l xs, .l l] => Pre (Sp.BkOk qs.xs ws.xs lo hi w /\ Sp.StOk qs.xs t s ⟨a, b, c, d⟩ /\ Sp.MemoOk qs.xs lo hi xs /\ qs.xs.length - t.toNat < m /\ l.length + Sp.cnt qs.xs lo hi (qs.xs.length - t.toNat) s ⟨a, b, c, d⟩ <= 65536)
   (Sp.FaM (Sp.MemoOk qs.xs lo hi) fun ys => K 0 [.ro _ qs, .ro _ ws, .i lo, .i hi, .l w, .l ys, .l (l ++ Sp.lvG qs.xs lo hi (qs.xs.length - t.toNat) s ⟨a, b, c, d⟩)])
 | _ => False
noncomputable def X5 (m : Nat) : CC where
 g := 52
 args := [.agg [.int .i64, .int .i64, .int .i64, .int .i64, .int .i64, .int .i64], (.ptr 16 0), (.ptr 19 0), (.ptr 22 0)]
 H := [(16, .blk 77 [(.ptr 4 0)]), (22, .blk 93 [(.fn (.func 52) [] [(.ptr 16 0), (.ptr 19 0), (.ptr 22 0)])]), (4, .blk 82 [.rs Ja, .rs Jb, .int .i64, .int .i64, (.row 7), (.mp 10)]), (7, .arr 3 Jb), (10, .mpP), (19, .blk 23 [(.row 30)]), (30, .arr 3 Jb)]
 outs := [⟨false, .tup [], [(16, .blk 77 [(.ptr 4 0)]), (22, .blk 93 [(.fn (.func 52) [] [(.ptr 16 0), (.ptr 19 0), (.ptr 22 0)])]), (4, .blk 82 [.rs Ja, .rs Jb, .int .i64, .int .i64, (.row 7), (.mp 10)]), (7, .arr 3 Jb), (10, .mpP), (19, .blk 23 [(.row 33)]), (33, .arr 3 Jb)], false⟩]
 spec := Xc3 m
def Xc4 (m : Nat) [InW] (e : List Ed) (K : Nat -> List Ed -> Prop) : Prop := match e with
 | [.i i, .ro _ qs, .ro _ ws, .i lo, .i hi, .l w, .l xs, .l l, .i t, .i s, .i a, .i b, .i c, .i d] => Pre (Sp.BkOk qs.xs ws.xs lo hi w /\ Sp.StOk qs.xs t s ⟨a, b, c, d⟩ /\ Sp.V4.nil ⟨a, b, c, d⟩ = false /\ Sp.MemoOk qs.xs lo hi xs /\ qs.xs.length - t.toNat < m + 1 /\ t <= i /\ i <= qs.xs.length /\ l.length + Sp.cnt qs.xs lo hi (qs.xs.length - i.toNat) s ⟨a, b, c, d⟩ <= 65536)
   (Sp.FaM (Sp.MemoOk qs.xs lo hi) fun ys => K 0 [.ro _ qs, .ro _ ws, .i lo, .i hi, .l w, .l ys, .l (l ++ Sp.lvG qs.xs lo hi (qs.xs.length - i.toNat) s ⟨a, b, c, d⟩)])
 | _ => False
noncomputable def Xbr (m : Nat) : LC where
 len := 44
 T := [(1, (.ptr 16 0)), (2, (.ptr 19 0)), (3, (.ptr 22 0)), (4, (.ptr 13 0)), (5, .int .i64)]
 H := [(16, .blk 77 [(.ptr 4 0)]), (22, .blk 93 [(.fn (.func 52) [] [(.ptr 16 0), (.ptr 19 0), (.ptr 22 0)])]), (4, .blk 82 [.rs Ja, .rs Jb, .int .i64, .int .i64, (.row 7), (.mp 10)]), (7, .arr 3 Jb), (10, .mpP), (19, .blk 23 [(.row 30)]), (30, .arr 3 Jb), (13, .blk 86 [.int .i64, .int .i64, .int .i64, .int .i64, .int .i64, .int .i64])]
 W := ([6, 7] ++ rg 23 21)
 outs := [⟨.exit 0, [(1, (.ptr 16 0)), (2, (.ptr 19 0)), (3, (.ptr 22 0))], [(16, .blk 77 [(.ptr 4 0)]), (22, .blk 93 [(.fn (.func 52) [] [(.ptr 16 0), (.ptr 19 0), (.ptr 22 0)])]), (4, .blk 82 [.rs Ja, .rs Jb, .int .i64, .int .i64, (.row 7), (.mp 10)]), (7, .arr 3 Jb), (10, .mpP), (19, .blk 23 [(.row 33)]), (33, .arr 3 Jb)], (rg 4 4 ++ rg 23 21)⟩]
 spec := Xc4 m
def Zbi [W : InW] (i : Int) (qs : Ro Ja) (a b c d : Int) := Sp.V4.dec { a := a, b := b, c := c, d := d } (Sp.qPart qs.xs i.toNat)
def Xcg [W : InW] (m : Nat) (i : Int) (qs : Ro Ja) (ws : Ro Jb) (lo hi : Int) (w xs l : Dt) (t s a b c d : Int) (A : List Ed -> Prop) (K : Nat -> List Ed -> Prop) : Prop :=
 Vif (decide (i < (↑(qs.xs.length) : Int))) (Pre (Sp.BkOk qs.xs ws.xs lo hi w /\ Sp.StOk qs.xs t s { a := a, b := b, c := c, d := d } /\ t <= i /\ i < (↑(qs.xs.length) : Int)) (Vif (decide ((1 : Int) <= Sp.V4.get { a := a, b := b, c := c, d := d } (Sp.qPart qs.xs i.toNat))) (Pre (Sp.BkOk qs.xs ws.xs lo hi w /\ Sp.StOk qs.xs (i + 1) (s + Sp.wt qs.xs i.toNat) { a := (Zbi i qs a b c d).1, b := (Zbi i qs a b c d).2, c := (Zbi i qs a b c d).3, d := (Zbi i qs a b c d).4 } /\ Sp.MemoOk qs.xs lo hi xs /\ qs.xs.length - (i + 1).toNat < m /\ (↑(l.length) : Int) + Sp.cnt qs.xs lo hi (qs.xs.length - (i + 1).toNat) (s + Sp.wt qs.xs i.toNat) { a := (Zbi i qs a b c d).1, b := (Zbi i qs a b c d).2, c := (Zbi i qs a b c d).3, d := (Zbi i qs a b c d).4 } <= (65536 : Int)) (Sp.FaM (Sp.MemoOk qs.xs lo hi) fun ys => Ar .i64 (i + 1) fun z => A [.i z, .ro _ qs, .ro _ ws, .i lo, .i hi, .l w, .l ys, .l (l ++ Sp.lvG qs.xs lo hi (qs.xs.length - (i + 1).toNat) (s + Sp.wt qs.xs i.toNat) { a := (Zbi i qs a b c d).1, b := (Zbi i qs a b c d).2, c := (Zbi i qs a b c d).3, d := (Zbi i qs a b c d).4 }), .i t, .i s, .i a, .i b, .i c, .i d])) (Ar .i64 (i + 1) fun z => A [.i z, .ro _ qs, .ro _ ws, .i lo, .i hi, .l w, .l xs, .l l, .i t, .i s, .i a, .i b, .i c, .i d]))) (K 0 [.ro _ qs, .ro _ ws, .i lo, .i hi, .l w, .l xs, .l l])
theorem Xge (W : InW) (m h i qs ws lo hi w xs l t s a b c d A K) : Yff { cxT Try.prog TT (⟨[], [], [ceOf (X5 m) h, ceOf Xd Xl]⟩) 1000 50 with fn := 52 } 1000 (Yob Try.prog 52 6) (Yd6 44 [(1, .ptr 16 0), (2, .ptr 19 0), (3, .ptr 22 0), (4, .ptr 13 0), (5, .si .i64 i)] ([6, 7] ++ rg 23 21)) [(16, .blk 77 [.ptr 4 0]), (22, .blk 93 [.fn (.func 52) [] [.ptr 16 0, .ptr 19 0, .ptr 22 0]]), (4, .blk 82 [.rs _ qs, .rs _ ws, .si .i64 lo, .si .i64 hi, .rw 7, .mp 10]), (7, .arr 3 Jb w), (10, .obj (.mpP xs)), (19, .blk 23 [.rw 30]), (30, .arr 3 Jb l), (13, .blk 86 [.si .i64 t, .si .i64 s, .si .i64 a, .si .i64 b, .si .i64 c, .si .i64 d])] (Yut (Xbr m) A K) = Xcg m i qs ws lo hi w xs l t s a b c d A K := by kernel_rfl
def Xu (m : Nat) : Prop := ∀ (W : InW) (body a : Code), (Try.prog.funcs[52]?).bind (·.body) = some body -> a ∈ Yy body -> Yf0 a = 6 -> @Yms W Try.prog a (@Ytz W (Xbr m))
theorem Xhe (m : Nat) (h : ∀ W : InW, @CallC W Try.prog (X5 m)) (meas : [InW] -> List Ed -> Nat) (hyp_ : ∀ (W : InW) i qs ws lo hi w xs l t s a b c d K, Xc4 m [.i i, .ro _ qs, .ro _ ws, .i lo, .i hi, .l w, .l xs, .l l, .i t, .i s, .i a, .i b, .i c, .i d] K -> ∀ A : List Ed -> Prop, (∀ e, meas e < meas [.i i, .ro _ qs, .ro _ ws, .i lo, .i hi, .l w, .l xs, .l l, .i t, .i s, .i a, .i b, .i c, .i d] -> Xc4 m e K -> A e) -> Xcg m i qs ws lo hi w xs l t s a b c d A K) : Xu m :=
 LE.okOf' (fun W => @TT W) (fun W => @Xc W) Xa (⟨[], [], [ceOf (X5 m) h, ceOf Xd Xl]⟩) 1000 50 (by kernel_rfl) (Xbr m) (fun W => @meas W) fun W i qs ws lo hi w xs l t s a b c d K hs =>
  (Xge W m h i qs ws lo hi w xs l t s a b c d (fun e => meas e < meas [.i i, .ro _ qs, .ro _ ws, .i lo, .i hi, .l w, .l xs, .l l, .i t, .i s, .i a, .i b, .i c, .i d] /\ Xc4 m e K) K).mpr (hyp_ W i qs ws lo hi w xs l t s a b c d K hs _ fun e h1 h2 => ⟨h1, h2⟩)
def Xf1 (m : Nat) [InW] (e : List Ed) (K : Nat -> List Ed -> Prop) : Prop := Xc3 (m + 1) e K
noncomputable def Xx (m : Nat) : CC where
 g := 52
 args := [.agg [.int .i64, .int .i64, .int .i64, .int .i64, .int .i64, .int .i64], (.ptr 16 0), (.ptr 19 0), (.ptr 22 0)]
 H := [(16, .blk 77 [(.ptr 4 0)]), (22, .blk 93 [(.fn (.func 52) [] [(.ptr 16 0), (.ptr 19 0), (.ptr 22 0)])]), (4, .blk 82 [.rs Ja, .rs Jb, .int .i64, .int .i64, (.row 7), (.mp 10)]), (7, .arr 3 Jb), (10, .mpP), (19, .blk 23 [(.row 30)]), (30, .arr 3 Jb)]
 outs := [⟨false, .tup [], [(16, .blk 77 [(.ptr 4 0)]), (22, .blk 93 [(.fn (.func 52) [] [(.ptr 16 0), (.ptr 19 0), (.ptr 22 0)])]), (4, .blk 82 [.rs Ja, .rs Jb, .int .i64, .int .i64, (.row 7), (.mp 10)]), (7, .arr 3 Jb), (10, .mpP), (19, .blk 23 [(.row 33)]), (33, .arr 3 Jb)], false⟩]
 spec := Xf1 m
def Xcv [W : InW] (m : Nat) (t s a b c d : Int) (qs : Ro Ja) (ws : Ro Jb) (lo hi : Int) (w xs l : Dt) (K : Nat -> List Ed -> Prop) : Prop :=
 Pre (Sp.BkOk qs.xs ws.xs lo hi w /\ Sp.StOk qs.xs t s { a := a, b := b, c := c, d := d } /\ Sp.MemoOk qs.xs lo hi xs /\ qs.xs.length - t.toNat < 17) (Sp.FaM (Sp.MemoOk qs.xs lo hi) fun ys => Vif (decide (Sp.cnt qs.xs lo hi (qs.xs.length - t.toNat) s { a := a, b := b, c := c, d := d } = (0 : Int))) (K 0 [.ro _ qs, .ro _ ws, .i lo, .i hi, .l w, .l ys, .l l]) (Vif (decide (a = 0) && (decide (b = 0) && (decide (c = 0) && (decide (d = 0) && true)))) (Need (decide ((l.length + [[Cl.i s]].length) * 8 <= 140737488355328)) (K 0 [.ro _ qs, .ro _ ws, .i lo, .i hi, .l w, .l ys, .l (l ++ [[Cl.i s]])])) (Pre (Sp.BkOk qs.xs ws.xs lo hi w /\ Sp.StOk qs.xs t s { a := a, b := b, c := c, d := d } /\ Sp.V4.nil { a := a, b := b, c := c, d := d } = false /\ Sp.MemoOk qs.xs lo hi ys /\ qs.xs.length - t.toNat < m + 1 /\ t <= t /\ t <= (↑(qs.xs.length) : Int) /\ (↑(l.length) : Int) + Sp.cnt qs.xs lo hi (qs.xs.length - t.toNat) s { a := a, b := b, c := c, d := d } <= (65536 : Int)) (Sp.FaM (Sp.MemoOk qs.xs lo hi) fun ys => K 0 [.ro _ qs, .ro _ ws, .i lo, .i hi, .l w, .l ys, .l (l ++ Sp.lvG qs.xs lo hi (qs.xs.length - t.toNat) s { a := a, b := b, c := c, d := d })]))))
theorem Xgt (W : InW) (m h t s a b c d qs ws lo hi w xs l K) : Yw2 (cxT Try.prog TT (⟨[], [⟨52, 6, fun W => @Ytz W (Xbr m), h⟩], [ceOf (Xf 17) (Xi 17)]⟩) 1000 50) 1000 52 [.agg [.si .i64 t, .si .i64 s, .si .i64 a, .si .i64 b, .si .i64 c, .si .i64 d], .ptr 16 0, .ptr 19 0, .ptr 22 0] [(16, .blk 77 [.ptr 4 0]), (22, .blk 93 [.fn (.func 52) [] [.ptr 16 0, .ptr 19 0, .ptr 22 0]]), (4, .blk 82 [.rs _ qs, .rs _ ws, .si .i64 lo, .si .i64 hi, .rw 7, .mp 10]), (7, .arr 3 Jb w), (10, .obj (.mpP xs)), (19, .blk 23 [.rw 30]), (30, .arr 3 Jb l)] (fun v h => outC (Xx m).H [.ro _ qs, .ro _ ws, .i lo, .i hi, .l w, .l xs, .l l] (Xx m).outs 0 false v h K) (fun v h => outC (Xx m).H [.ro _ qs, .ro _ ws, .i lo, .i hi, .l w, .l xs, .l l] (Xx m).outs 0 true v h K) = Xcv m t s a b c d qs ws lo hi w xs l K := by kernel_rfl
theorem Xht (m : Nat) (h : Xu m) (hyp_ : ∀ (W : InW) t s a b c d qs ws lo hi w xs l K, Xf1 m [.i t, .i s, .i a, .i b, .i c, .i d, .ro _ qs, .ro _ ws, .i lo, .i hi, .l w, .l xs, .l l] K -> Xcv m t s a b c d qs ws lo hi w xs l K) : ∀ W : InW, @CallC W Try.prog (Xx m) :=
 CC.okOf (fun W => @TT W) (fun W => @Xc W) Xa (⟨[], [⟨52, 6, fun W => @Ytz W (Xbr m), h⟩], [ceOf (Xf 17) (Xi 17)]⟩) 1000 50 (Xx m) fun W t s a b c d qs ws lo hi w xs l K hs => (Xgt W m h t s a b c d qs ws lo hi w xs l K).mpr (hyp_ W t s a b c d qs ws lo hi w xs l K hs)
theorem Xi3 (m : Nat) (hc : ∀ W : InW, @CallC W Try.prog (X5 m)) : Xu m := Xhe m hc (fun e => match e with | .i i :: .ro _ qs :: _ => ((qs.xs.length : Int) - i).toNat | _ => 0) fun W i qs ws lo hi w xs l t s a b c d K hs A hA => by
 obtain ⟨⟨bk, st, hv, mo, fu, h0, h1, hb⟩, ⟨hk⟩⟩ := hs;unfold Xcg;delta Zbi;have hf := bk.few;have ht := st.a0
 by_cases hi' : i < qs.xs.length
 ·have hc := Sp.cnt_at (qs := qs.xs) (lo := lo) (hi := hi) (s := s) hv (by omega) hi';have hl : ((qs.xs.length : Int) - (i + 1)).toNat < ((qs.xs.length : Int) - i).toNat := by omega
  have b1 := Sp.cnt_pos (qs := qs.xs) (lo := lo) (hi := hi) (m := qs.xs.length - (i + 1).toNat) (s := s) (v := ⟨a, b, c, d⟩);rw [Sp.lvG_at hv (by omega) hi'] at hk;refine vifd (fun _ => ?_) (fun h => absurd hi' h);refine ⟨⟨bk, st, h0, hi'⟩, vifd (fun hg => ?_) (fun hg => ?_)⟩
  ·rw [if_pos hg] at hc hk;have h2 := Sp.length_lvG qs.xs lo hi (qs.xs.length - (i + 1).toNat) (s + Sp.wt qs.xs i.toNat) (Sp.V4.dec ⟨a, b, c, d⟩ (Sp.qPart qs.xs i.toNat));refine ⟨⟨bk, st.step bk h0 hi' hg, mo, by omega, by show (l.length : Int) + Sp.cnt qs.xs lo hi (qs.xs.length - (i + 1).toNat) (s + Sp.wt qs.xs i.toNat) (Sp.V4.dec ⟨a, b, c, d⟩ (Sp.qPart qs.xs i.toNat)) <= 65536; omega⟩, ⟨fun ys hy => ?_⟩⟩;refine ar64 (by omega) (hA _ hl ⟨⟨bk, st, hv, hy, fu, by omega, by omega, by rw [List.length_append]; show ((l.length + (Sp.lvG qs.xs lo hi (qs.xs.length - (i + 1).toNat) (s + Sp.wt qs.xs i.toNat) (Sp.V4.dec ⟨a, b, c, d⟩ (Sp.qPart qs.xs i.toNat))).length : Nat) : Int) + _ <= 65536; omega⟩, ⟨fun zs hz => ?_⟩⟩);have := hk zs hz;rw [<- List.append_assoc] at this;exact this
  ·rw [if_neg hg] at hc hk;exact ar64 (by omega) (hA _ hl ⟨⟨bk, st, hv, mo, fu, by omega, by omega, by omega⟩, ⟨hk⟩⟩)
 ·refine vifd (fun h => absurd h hi') (fun _ => ?_);have := hk xs mo;rw [show qs.xs.length - i.toNat = 0 by omega, Sp.lvG_zero hv, List.append_nil] at this;exact this
theorem Xji (m : Nat) (h : Xu m) : ∀ W : InW, @CallC W Try.prog (Xx m) := Xht m h fun W t s a b c d qs ws lo hi w xs l K hs => by
 obtain ⟨⟨bk, st, mo, fu, hb⟩, ⟨hk⟩⟩ := hs;unfold Xcv;have hf := bk.few;have h2 := Sp.length_lvG qs.xs lo hi (qs.xs.length - t.toNat) s ⟨a, b, c, d⟩;have b0 := Sp.cnt_pos (qs := qs.xs) (lo := lo) (hi := hi) (m := qs.xs.length - t.toNat) (s := s) (v := ⟨a, b, c, d⟩);refine ⟨⟨bk, st, mo, by omega⟩, ⟨fun ys hy => vifd (fun hz => ?_) (fun hz => vif (fun hv => ?_) (fun hv => ?_))⟩⟩
 ·have := hk ys hy;rw [List.length_eq_zero_iff.1 (show (Sp.lvG qs.xs lo hi (qs.xs.length - t.toNat) s ⟨a, b, c, d⟩).length = 0 by omega), List.append_nil] at this;exact this
 ·have hv : Sp.V4.nil ⟨a, b, c, d⟩ = true := by simpa [Sp.V4.nil, and_assoc] using hv
  have := hk ys hy;rw [Sp.cnt_nil hv] at hz
  by_cases hr : Sp.inr s lo hi = true
  ·rw [Sp.lvG_nil hv, if_pos hr] at this;exact nedd (by simp; omega) this
  ·rw [if_neg hr] at hz;exact absurd rfl hz
 ·have hv : Sp.V4.nil ⟨a, b, c, d⟩ = false := by
   rw [<- Bool.not_eq_true] at hv ⊢;intro h2;exact hv (by simpa [Sp.V4.nil, and_assoc] using h2)
  exact ⟨⟨bk, st, hv, hy, fu, by omega, st.a1, hb⟩, ⟨hk⟩⟩
theorem Xga : ∀ (m : Nat) (W : InW), @CallC W Try.prog (X5 m)
 | 0, W => fun xs ys e1 e2 m1 n1 K hs => by
  have hs : Xc3 0 (e1 ++ e2) K := hs;unfold Xc3 at hs
  split at hs
  ·obtain ⟨⟨_, _, _, h, _⟩, _⟩ := hs;exact absurd h (Nat.not_lt_zero _)
  ·exact hs.elim
 | m + 1, W => Xji m (Xi3 m (Xga m)) W
namespace Sp
theorem ins_pw {L : List Int} {k : Nat} {x : Int} (h : L.Pairwise (· <= ·)) (h1 : ∀ j, j < k -> (hj : j < L.length) -> L[j] <= x) (h2 : (hk : k < L.length) -> x < L[k]) : (L.take k ++ x :: L.drop k).Pairwise (· <= ·) := by
 have hd : ∀ b, b ∈ L.drop k -> x <= b := fun b hb => by
  obtain ⟨j, hj, rfl⟩ := List.mem_iff_getElem.1 hb;rw [List.length_drop] at hj;rw [List.getElem_drop];have h3 := h2 (by omega)
  by_cases hz : j = 0
  ·subst hz; simp only [Nat.add_zero]; omega
  ·have := List.pairwise_iff_getElem.1 h k (k + j) (by omega) (by omega) (by omega);omega
 have ht : ∀ a, a ∈ L.take k -> a <= x := fun a ha => by
  obtain ⟨j, hj, rfl⟩ := List.mem_iff_getElem.1 ha;rw [List.length_take] at hj;rw [List.getElem_take];exact h1 j (by omega) (by omega)
 rw [List.pairwise_append, List.pairwise_cons];refine ⟨h.sublist (List.take_sublist _ _), ⟨hd, h.sublist (List.drop_sublist _ _)⟩, fun a ha b hb => ?_⟩;have h3 := ht a ha;rcases List.mem_cons.1 hb with rfl | hb
 ·exact h3
 ·have := hd b hb; omega
theorem ins_perm (L : List Int) (k : Nat) (x : Int) : (L.take k ++ x :: L.drop k).Perm (x :: L) := by
 have := List.perm_middle (a := x) (l₁ := L.take k) (l₂ := L.drop k);rwa [List.take_append_drop] at this
theorem fstF_none {f : Nat -> Bool} : ∀ {n i : Nat}, anyF f i n = false -> fstF f i n = i + n
 | 0, i, _ => rfl
 | n + 1, i, h => by
  simp only [anyF, Bool.or_eq_false_iff] at h;rw [fstF, if_neg (by rw [h.1]; decide), fstF_none h.2]; omega
def insF (o : Dt) (x : Int) (j : Nat) : Bool := !decide ((cel o j 0).int <= x)
def insK (o : Dt) (x : Int) : Nat := fstF (insF o x) 0 o.length
def insD (o : Dt) (x : Int) : Dt := o.take (insK o x) ++ [[.i x]] ++ o.drop (insK o x)
def srtD (xs : Dt) : Nat -> Dt
 | 0 => []
 | n + 1 => insD (srtD xs n) (cel xs n 0).int
theorem nums_get {l : Dt} {j : Nat} (h : j < (numsOf l).length) : (numsOf l)[j] = (cel l j 0).int := by
 have h2 : j < l.length := by rwa [Xb] at h
 simp [numsOf, cel, List.getD_eq_getElem?_getD, h2]
theorem nums_insD (o : Dt) (x : Int) : numsOf (insD o x) = (numsOf o).take (insK o x) ++ x :: (numsOf o).drop (insK o x) := by
 unfold insD numsOf;rw [List.map_append, List.map_append, List.map_take, List.map_drop];simp [Cl.int]
theorem srtD_pw (xs : Dt) : ∀ n, (numsOf (srtD xs n)).Pairwise (· <= ·)
 | 0 => List.Pairwise.nil
 | n + 1 => by
  rw [srtD, nums_insD];have hl := Xb (srtD xs n);refine ins_pw (srtD_pw xs n) (fun j hj hj2 => ?_) fun hk => ?_
  ·rw [nums_get hj2];unfold insK at hj;cases h : anyF (insF (srtD xs n) (cel xs n 0).int) 0 (srtD xs n).length with
   | true =>
    have := (fstF_spec h).2.2.2 j (Nat.zero_le _) hj;simpa [insF] using this
   | false =>
    by_cases hc : (cel (srtD xs n) j 0).int <= (cel xs n 0).int
    ·exact hc
    ·rw [<- Bool.not_eq_true, anyF_iff] at h;exact absurd ⟨j, Nat.zero_le _, by omega, by simpa [insF] using hc⟩ h
  ·rw [nums_get hk];cases h : anyF (insF (srtD xs n) (cel xs n 0).int) 0 (srtD xs n).length with
   | true =>
    have := (fstF_spec h).2.2.1;simpa [insF, insK] using this
   | false =>
    unfold insK at hk;rw [fstF_none h] at hk; omega
theorem srtD_perm {xs : Dt} : ∀ n, n <= xs.length -> (numsOf (srtD xs n)).Perm ((numsOf xs).take n)
 | 0, _ => by simp [srtD, numsOf]
 | n + 1, h => by
  rw [srtD, nums_insD];have hn : n < (numsOf xs).length := by rw [Xb]; omega
  refine (ins_perm _ _ _).trans ?_;rw [List.take_succ_eq_append_getElem hn, nums_get hn];exact ((srtD_perm n (by omega)).cons _).trans (List.perm_append_singleton _ _).symm
theorem srtD_norm (xs : Dt) : ∀ n, norm (srtD xs n) = srtD xs n
 | 0 => rfl
 | n + 1 => by
  have ih := srtD_norm xs n;have h1 : ∀ k, norm ((srtD xs n).take k) = (srtD xs n).take k := fun k => by unfold norm at ih ⊢; rw [List.map_take, ih]
  have h2 : ∀ k, norm ((srtD xs n).drop k) = (srtD xs n).drop k := fun k => by unfold norm at ih ⊢; rw [List.map_drop, ih]
  have h3 : norm (insD (srtD xs n) (cel xs n 0).int) = norm ((srtD xs n).take (insK (srtD xs n) (cel xs n 0).int)) ++ [[Cl.i (cel xs n 0).int]] ++ norm ((srtD xs n).drop (insK (srtD xs n) (cel xs n 0).int)) := by
   unfold insD norm;rw [List.map_append, List.map_append];rfl
  rw [srtD, h3, h1, h2];rfl
theorem norm_nums (l : Dt) : norm l = (numsOf l).map fun n => [.i n] := by simp [norm, numsOf]
theorem srt_same (xs : Dt) : srtD xs xs.length = sortD xs := by
 have h1 : numsOf (srtD xs xs.length) = (numsOf xs).mergeSort fun x y => decide (x <= y) := by
  refine List.Perm.eq_of_pairwise (le := (· <= ·)) (fun a b _ _ h1 h2 => by omega) (srtD_pw _ _) ?_ ?_
  ·have := List.pairwise_mergeSort (le := fun x y : Int => decide (x <= y)) (fun a b c h1 h2 => by simp at *; omega) (fun a b => by simp; omega) (numsOf xs);exact this.imp fun h => of_decide_eq_true h
  ·have := srtD_perm (xs := xs) xs.length (Nat.le_refl _);rw [<- Xb xs, List.take_length, Xb] at this;exact this.trans (List.mergeSort_perm _ _).symm
 rw [<- srtD_norm, norm_nums, h1];rfl
structure Rg where
 lo : Int
 hi : Int
def narF (L : Dt) (k : Int) : Nat -> Nat -> Rg -> Rg
 | _, 0, b => b
 | i, n + 1, b => narF L k (i + 1) n (if (cel L ((i : Int) + k - 1).toNat 0).int - (cel L i 0).int < b.hi - b.lo then ⟨(cel L i 0).int, (cel L ((i : Int) + k - 1).toNat 0).int⟩ else b)
def nar (L : Dt) (k : Int) : Rg := narF L k 0 (L.length - k.toNat + 1) ⟨0, 16001⟩
structure LvOk (L : Dt) : Prop where
 ok : ∀ i, i < L.length -> 0 <= (cel L i 0).int /\ (cel L i 0).int <= 16000
theorem mem_nums {l : Dt} {x : Int} : x ∈ numsOf l ↔ ∃ i, i < l.length /\ (cel l i 0).int = x := by
 rw [List.mem_iff_getElem];constructor
 ·rintro ⟨i, hi, rfl⟩;exact ⟨i, by rwa [Xb] at hi, (nums_get hi).symm⟩
 ·rintro ⟨i, hi, rfl⟩;have hi2 : i < (numsOf l).length := by rwa [Xb]
  exact ⟨i, hi2, nums_get hi2⟩
theorem LvOk.sort {L : Dt} (h : LvOk L) : LvOk (sortD L) := ⟨fun i hi => by
 have h1 := (mem_nums (l := sortD L) (x := (cel (sortD L) i 0).int)).2 ⟨i, hi, rfl⟩;rw [X4, List.mem_mergeSort, mem_nums] at h1;obtain ⟨j, hj, e⟩ := h1;rw [<- e];exact h.ok j hj⟩
theorem levD_ok {qs ws : Dt} {lo hi : Int} (bv : BankV qs ws lo hi) : LvOk (levD qs ws lo hi) := ⟨fun i hi' => by
 have h1 : i < (paps qs ws lo hi).length := by simpa [levD] using hi'
 have h2 := paps_is bv h1;unfold isP at h2;simp only [Bool.and_eq_true, inr_iff] at h2;have e : (cel (levD qs ws lo hi) i 0).int = lvl qs ((paps qs ws lo hi).getD i []) := by
  simp [levD, cel, List.getD_eq_getElem?_getD, h1, Cl.int]
 have := bv.l0;have := bv.hh;rw [e]; omega⟩
end Sp
namespace Sp
def fairE (qs ws : Dt) (lo hi k : Int) : Int := if chkE qs ws lo hi = 0 then (if 1 <= k then (if k <= total qs ws lo hi then 0 else 9) else 7) else chkE qs ws lo hi
def fairR (qs ws : Dt) (lo hi k : Int) : Rg := if fairE qs ws lo hi k = 0 then nar (srtD (levD qs ws lo hi) (levD qs ws lo hi).length) k else ⟨0, 0⟩
end Sp
abbrev Xt (ds : DS) : DS := match ds with | [[.l qs, .l ws, .i lo, .i hi], [.i k]] => [[.i (Sp.fairR qs ws lo hi k).lo, .i (Sp.fairR qs ws lo hi k).hi], [.i (Sp.fairE qs ws lo hi k)]] | _ => []
def Xc7 [InW] (e : List Ed) (K : Nat -> List Ed -> Prop) : Prop := match e with
 | [.i k, .i u, .i n, .i z, .i i, .i a, .i b, .l L] => Pre (Sp.LvOk L /\ L.length <= 65536 /\ 1 <= k /\ k <= L.length /\ u = 0 /\ n = z /\ z = L.length - k + 1 /\ 0 <= i /\ i <= z /\ 0 <= a /\ a <= 16001 /\ 0 <= b /\ b <= 16001)
   (K 0 [.i (Sp.narF L k i.toNat (z - i).toNat (if i = 0 then ⟨0, 16001⟩ else ⟨a, b⟩)).lo, .i (Sp.narF L k i.toNat (z - i).toNat (if i = 0 then ⟨0, 16001⟩ else ⟨a, b⟩)).hi])
 | _ => False
noncomputable def Xd0 : LC where
 len := 78
 T := [(1, .int .i64), (4, (.ptr 16 0)), (7, (.ptr 19 0)), (44, (.rwp 31 1)), (45, .int .i64), (46, .int .i64)]
 H := [(16, .blk 25 [.int .i64, .int .i64]), (19, .blk 23 [(.row 31)]), (31, .arr 3 Jb)]
 W := ([9, 10, 11] ++ rg 47 30)
 outs := [⟨.exit 1, [(4, (.ptr 16 0))], [(16, .blk 25 [.int .i64, .int .i64])], ([1, 7, 9, 10, 11] ++ rg 44 33)⟩]
 spec := Xc7
def Xcj [W : InW] (k : Int) (u n : Nat) (z i a b : Int) (l : Dt) (A : List Ed -> Prop) (K : Nat -> List Ed -> Prop) : Prop :=
 Vif (decide (i < z)) (Need (decide (0 <= i) && decide (i < (↑n : Int)) && decide (u + n <= l.length)) (Need (decide (u + i.toNat < l.length)) (Ar .i64 (i + k) fun z_1 => Ar .i64 (z_1 - 1) fun z_2 => Need (decide (0 <= z_2) && decide (z_2 < (↑(l.length) : Int))) (Need (decide (z_2.toNat < l.length)) (Vif (decide (i = 0)) (Ar .i64 (i + 1) fun z_3 => A [.i k, .i (↑u : Int), .i (↑n : Int), .i z, .i z_3, .i (cel l (u + i.toNat) Zbc).int, .i (cel l z_2.toNat Zbc).int, .l l]) (Ar .i64 ((cel l z_2.toNat Zbc).int - (cel l (u + i.toNat) Zbc).int) fun z_3 => Ar .i64 (b - a) fun z_4 => Vif (decide (z_3 < z_4)) (Ar .i64 (i + 1) fun z_5 => A [.i k, .i (↑u : Int), .i (↑n : Int), .i z, .i z_5, .i (cel l (u + i.toNat) Zbc).int, .i (cel l z_2.toNat Zbc).int, .l l]) (Ar .i64 (i + 1) fun z_5 => A [.i k, .i (↑u : Int), .i (↑n : Int), .i z, .i z_5, .i a, .i b, .l l]))))))) (K 0 [.i a, .i b])
theorem Xgh (W : InW) (k u n z i a b l A K) : Yff { cxT Try.prog TT T0 1000 50 with fn := 28 } 1000 (Yob Try.prog 28 15) (Yd6 78 [(1, .si .i64 k), (4, .ptr 16 0), (7, .ptr 19 0), (44, .rwp 31 1 u n), (45, .si .i64 z), (46, .si .i64 i)] ([9, 10, 11] ++ rg 47 30)) [(16, .blk 25 [.si .i64 a, .si .i64 b]), (19, .blk 23 [.rw 31]), (31, .arr 3 Jb l)] (Yut Xd0 A K) = Xcj k u n z i a b l A K := by kernel_rfl
def Xdn : Prop := ∀ (W : InW) (body a : Code), (Try.prog.funcs[28]?).bind (·.body) = some body -> a ∈ Yy body -> Yf0 a = 15 -> @Yms W Try.prog a (@Ytz W Xd0)
theorem Xhh (meas : [InW] -> List Ed -> Nat) (hyp_ : ∀ (W : InW) k (u n : Nat) z i a b l K, Xc7 [.i k, .i u, .i n, .i z, .i i, .i a, .i b, .l l] K -> ∀ A : List Ed -> Prop, (∀ e, meas e < meas [.i k, .i u, .i n, .i z, .i i, .i a, .i b, .l l] -> Xc7 e K -> A e) -> Xcj k u n z i a b l A K) : Xdn :=
 LE.okOf' (fun W => @TT W) (fun W => @Xc W) Xa T0 1000 50 (by kernel_rfl) Xd0 (fun W => @meas W) fun W k u n z i a b l K hs =>
  (Xgh W k u n z i a b l (fun e => meas e < meas [.i k, .i u, .i n, .i z, .i i, .i a, .i b, .l l] /\ Xc7 e K) K).mpr (hyp_ W k u n z i a b l K hs _ fun e h1 h2 => ⟨h1, h2⟩)
theorem Xi6 : Xdn := Xhh (fun e => match e with | _ :: _ :: _ :: .i z :: .i i :: _ => (z - i).toNat | _ => 0) fun W k u n z i a b L K hs A hA => by
 obtain ⟨⟨lv, hL, k1, k2, hu, hn, hz, h0, h1, a0, a1, b0, b1⟩, hk⟩ := hs;unfold Xcj;delta Zbc;have hu0 : u = 0 := by omega
 subst hu0
 by_cases hi' : i < z
 ·have v0 := lv.ok i.toNat (by omega);have v1 := lv.ok (i + k - 1).toNat (by omega);have en : (z - i).toNat = (z - (i + 1)).toNat + 1 := by omega
  have lt : (z - (i + 1)).toNat < (z - i).toNat := by omega
  rw [en] at hk;simp only [Sp.narF, Int.toNat_of_nonneg h0, show i.toNat + 1 = (i + 1).toNat by omega] at hk;have hz1 : i + 1 ≠ 0 := by omega
  refine vifd (fun _ => ?_) (fun h => absurd hi' h);simp only [Nat.zero_add];refine ned (by simp; omega) (nedd (by omega) (ar64 (by omega) (ar64 (by omega) (ned (by simp; omega) (nedd (by omega) ?_)))));refine vifd (fun hi0 => ?_) (fun hi0 => ar64 (by omega) (ar64 (by omega) (vifd (fun hlt => ?_) (fun hlt => ?_))))
  ·rw [if_pos hi0, if_pos (show (cel L (i + k - 1).toNat 0).int - (cel L i.toNat 0).int < 16001 - 0 by omega)] at hk;exact ar64 (by omega) (hA _ lt ⟨⟨lv, hL, k1, k2, hu, hn, hz, by omega, by omega, by omega, by omega, by omega, by omega⟩, by rw [if_neg hz1]; exact hk⟩)
  ·rw [if_neg hi0, if_pos hlt] at hk;exact ar64 (by omega) (hA _ lt ⟨⟨lv, hL, k1, k2, hu, hn, hz, by omega, by omega, by omega, by omega, by omega, by omega⟩, by rw [if_neg hz1]; exact hk⟩)
  ·rw [if_neg hi0, if_neg hlt] at hk;exact ar64 (by omega) (hA _ lt ⟨⟨lv, hL, k1, k2, hu, hn, hz, by omega, by omega, a0, a1, b0, b1⟩, by rw [if_neg hz1]; exact hk⟩)
 ·refine vifd (fun h => absurd h hi') (fun _ => ?_);have hi0 : i ≠ 0 := by omega
  rw [show (z - i).toNat = 0 by omega, if_neg hi0] at hk;exact hk
noncomputable def Xjn : LE Try.prog := ⟨28, 15, fun W => @Ytz W Xd0, Xi6⟩
noncomputable def T31 : Tab Try.prog := ⟨[], [Xjn], [ceOf Xg Xb5, ceOf Xe Xr, ceOf (X5 17) (Xga 17), ceOf Xew Xh8]⟩
def Zbj [W : InW] (kQ : Ro Ja) (k_Ws : Ro Jb) (k_Lo k_Hi : Int) := Sp.lvG kQ.xs k_Lo k_Hi (kQ.xs.length - Int.toNat Zk) Zk { a := (cel k_Ws.xs Zbc Zbc).int, b := (cel k_Ws.xs (1 : Nat) Zbc).int, c := (cel k_Ws.xs (2 : Nat) Zbc).int, d := (cel k_Ws.xs (3 : Nat) Zbc).int }
def Xbk [W : InW] (kQ : Ro Ja) (k_Ws : Ro Jb) (k_Lo k_Hi n : Int) (Q : DS -> Prop) : Prop :=
 Vif (decide (Sp.chkE kQ.xs k_Ws.xs k_Lo k_Hi = 0)) (Vif (decide (n < 1)) (Q [[Cl.i 0, Cl.i 0], [Cl.i 7]]) (Pre (Sp.BkOk kQ.xs k_Ws.xs k_Lo k_Hi (Sp.wts kQ.xs (kQ.xs.length)) /\ Sp.StOk kQ.xs Zk Zk { a := (cel k_Ws.xs Zbc Zbc).int, b := (cel k_Ws.xs (1 : Nat) Zbc).int, c := (cel k_Ws.xs (2 : Nat) Zbc).int, d := (cel k_Ws.xs (3 : Nat) Zbc).int } /\ Sp.MemoOk kQ.xs k_Lo k_Hi [] /\ kQ.xs.length - Int.toNat Zk < 17 /\ (↑Zbc : Int) + Sp.cnt kQ.xs k_Lo k_Hi (kQ.xs.length - Int.toNat Zk) Zk { a := (cel k_Ws.xs Zbc Zbc).int, b := (cel k_Ws.xs (1 : Nat) Zbc).int, c := (cel k_Ws.xs (2 : Nat) Zbc).int, d := (cel k_Ws.xs (3 : Nat) Zbc).int } <= (65536 : Int)) (Sp.FaM (Sp.MemoOk kQ.xs k_Lo k_Hi) fun ys => Vif (decide ((↑(List.length (Zbj kQ k_Ws k_Lo k_Hi)) : Int) < n)) (Q [[Cl.i 0, Cl.i 0], [Cl.i 9]]) (Pre (Zbc < List.length (Zbj kQ k_Ws k_Lo k_Hi) /\ List.length (Zbj kQ k_Ws k_Lo k_Hi) <= 65536) (Ar .i64 ((↑(List.length (Sp.sortD (Zbj kQ k_Ws k_Lo k_Hi))) : Int) - n) fun z => Ar .i64 (z + 1) fun z => Need (decide (0 <= z)) (Need (decide (Zbc <= z.toNat) && decide (z.toNat <= List.length (Sp.sortD (Zbj kQ k_Ws k_Lo k_Hi)))) (Pre (Sp.LvOk (Sp.sortD (Zbj kQ k_Ws k_Lo k_Hi)) /\ List.length (Sp.sortD (Zbj kQ k_Ws k_Lo k_Hi)) <= 65536 /\ 1 <= n /\ n <= (↑(List.length (Sp.sortD (Zbj kQ k_Ws k_Lo k_Hi))) : Int) /\ (↑Zbc : Int) = 0 /\ (↑(z.toNat - 0) : Int) = (↑(z.toNat - 0) : Int) /\ (↑(z.toNat - 0) : Int) = (↑(List.length (Sp.sortD (Zbj kQ k_Ws k_Lo k_Hi))) : Int) - n + 1 /\ Zk <= 0 /\ Zk <= (↑(z.toNat - 0) : Int) /\ Zk <= 0 /\ Zk <= 16001 /\ Zk <= 0 /\ Zk <= 16001) (Q [[Cl.i (Sp.narF (Sp.sortD (Zbj kQ k_Ws k_Lo k_Hi)) n Zl ((↑(z.toNat - 0) : Int) - 0).toNat { lo := Zk, hi := (16001 : Int) }).lo, Cl.i (Sp.narF (Sp.sortD (Zbj kQ k_Ws k_Lo k_Hi)) n Zl ((↑(z.toNat - 0) : Int) - 0).toNat { lo := Zk, hi := (16001 : Int) }).hi], [Cl.i 0]])))))))) (Vif (!decide (Sp.chkE kQ.xs k_Ws.xs k_Lo k_Hi = 0)) (Q [[Cl.i 0, Cl.i 0], [Cl.i (Sp.chkE kQ.xs k_Ws.xs k_Lo k_Hi)]]) (Vif (decide (n < 1)) (Q [[Cl.i 0, Cl.i 0], [Cl.i 7]]) ((16 : Nat) = 16 + 1)))
theorem Xfb (W : InW) (kQ k_Ws k_Lo k_Hi n Q) : Yw5 (cxT Try.prog TT T31 1000 50) 1000 28 [.agg [.rs _ kQ, .rs _ k_Ws, .si .i64 k_Lo, .si .i64 k_Hi], .si .i64 n] [] 0 (Y1i [(true, [.int .i64, .int .i64]), (false, [.int .i64])] Q) (fun _ _ _ _ => Stuck 421) = Xbk kQ k_Ws k_Lo k_Hi n Q := by kernel_rfl
abbrev Xz : List AT := [.agg [.sl Ja, .sl Jb, .int .i64, .int .i64], .one (.int .i64)]
theorem Xfr {pre : DS -> Prop} {res : DS -> DS} (hyp_ : ∀ (W : InW) (kQ : Ro Ja) (k_Ws : Ro Jb) (k_Lo k_Hi n : Int), pre [[.l kQ.xs, .l k_Ws.xs, .i k_Lo, .i k_Hi], [.i n]] -> ∀ Q : DS -> Prop, Q (res [[.l kQ.xs, .l k_Ws.xs, .i k_Lo, .i k_Hi], [.i n]]) -> Xbk kQ k_Ws k_Lo k_Hi n Q) : PureOk Try.prog 28 Xz [(true, [.int .i64, .int .i64]), (false, [.int .i64])] pre res :=
 PureOk.of' (fun W => @TT W) (fun W => @Xc W) Xa T31 1000 50 fun W kQ k_Ws k_Lo k_Hi n hp =>
  (Xfb W kQ k_Ws k_Lo k_Hi n (fun o => o = res [[.l kQ.xs, .l k_Ws.xs, .i k_Lo, .i k_Hi], [.i n]])).mpr (hyp_ W kQ k_Ws k_Lo k_Hi n hp _ rfl)
theorem Xhc : PureOk Try.prog 28 Xz [(true, [.int .i64, .int .i64]), (false, [.int .i64])] (fun _ => True) Xt :=
 Xfr fun W qs ws lo hi k hp Q h => by
  unfold Xbk;delta Zl Zbj Zk Zbc;refine vifd (fun e => ?_) (fun e => vifn (fun _ => ?_) (fun e2 => absurd e2 e))
  ·have bv := Sp.chkE_iff.1 e;have hl := Sp.length_levD qs.xs ws.xs lo hi;have hs := Xs (Sp.levD qs.xs ws.xs lo hi);have hn := bv.n2;have b2 : 0 <= Sp.total qs.xs ws.xs lo hi /\ Sp.total qs.xs ws.xs lo hi <= 65536 := Sp.cnt_16 bv.n2 0 (Sp.v0 ws.xs);have eL : Sp.lvG qs.xs lo hi (qs.xs.length - Int.toNat 0) 0 ⟨(cel ws.xs 0 0).int, (cel ws.xs 1 0).int, (cel ws.xs 2 0).int, (cel ws.xs 3 0).int⟩ = Sp.levD qs.xs ws.xs lo hi := Sp.lvG_all qs.xs ws.xs lo hi;simp only [Xt, Sp.fairR, Sp.fairE, if_pos e] at h;refine vifd (fun h1 => ?_) (fun h1 => ⟨⟨bv.bk, bv.st, Sp.memo_nil, by omega, ?_⟩, ⟨fun ys hy => ?_⟩⟩)
   ·rw [if_neg (show ¬ 1 <= k by omega), if_neg (by decide)] at h; exact h
   ·show ((0 : Nat) : Int) + Sp.total qs.xs ws.xs lo hi <= 65536
    omega
   ·rw [eL];rw [if_pos (show 1 <= k by omega)] at h;refine vifd (fun h2 => ?_) (fun h2 => ?_)
    ·rw [if_neg (show ¬ k <= Sp.total qs.xs ws.xs lo hi by omega), if_neg (by decide)] at h; exact h
    ·rw [if_pos (show k <= Sp.total qs.xs ws.xs lo hi by omega), if_pos rfl] at h;rw [Sp.srt_same] at h;unfold Sp.nar at h;refine ⟨by omega, ar64 (by omega) (ar64 (by omega) (nedd (by omega) (ned (by simp; omega) ⟨⟨(Sp.levD_ok bv).sort, by omega, by omega, by omega, by omega, by omega, by omega, by omega, by omega, by omega, by omega, by omega, by omega⟩, ?_⟩)))⟩;rw [show ((((List.length (Sp.sortD (Sp.levD qs.xs ws.xs lo hi)) : Int) - k + 1).toNat - 0 : Nat) - 0 : Int).toNat = (Sp.sortD (Sp.levD qs.xs ws.xs lo hi)).length - k.toNat + 1 by omega];exact h
  ·simp only [Xt, Sp.fairR, Sp.fairE, if_neg e] at h; exact h
noncomputable def Xfk : PC Try.prog := ⟨28, Xz, [(true, [.int .i64, .int .i64]), (false, [.int .i64])], fun _ => True, Xt, Xhc⟩
namespace Sp
def hasF (b : Dt) (x : Int) (k : Nat) : Bool := decide (x = (cel b k 0).int)
def hasK (b : Dt) (x : Int) (k : Nat) : Bool := anyF (hasF b x) 0 k
def idxOf (b : Dt) (x : Int) : Int := if hasK b x b.length = true then (fstF (hasF b x) 0 b.length : Nat) else -1
def cmF (a b : Dt) (i : Nat) : Int := if hasK b (cel a i 0).int b.length = true then 1 else 0
def cmn (a b : Dt) : Int := sumN (cmF a b) 0 a.length
structure NoD (b : Dt) : Prop where
 ok : ∀ i k, i < k -> k < b.length -> (cel b i 0).int ≠ (cel b k 0).int
theorem cmF_b (a b : Dt) : ∀ n, 0 <= sumN (cmF a b) 0 n /\ sumN (cmF a b) 0 n <= n
 | 0 => by simp [sumN]
 | n + 1 => by
  have := cmF_b a b n;rw [sumN_last];have h2 : cmF a b (0 + n) = 1 \/ cmF a b (0 + n) = 0 := by
   unfold cmF; split
   ·exact .inl rfl
   ·exact .inr rfl
  omega
def bfD (S seat : Int) : Dt := (if S <= seat then [[.i (seat - S)]] else []) ++ (if 0 < seat.tmod S then [[.i (seat - 1)]] else [])
def apF (ps p l : Dt) (c : Int) (j : Nat) : Bool := decide (cmn (cel ps (cel l j 0).int.toNat 0).lst p <= c)
def apP (ps p : Dt) (S seat c : Int) : Bool := allF (apF ps p (bfD S seat) c) 0 (bfD S seat).length
structure ApOk (S seat : Int) (ps p : Dt) : Prop where
 s1 : 1 <= S
 s6 : S <= 6
 t0 : 0 <= seat
 t1 : seat <= ps.length
 nod : NoD p
end Sp
def Xfh [InW] (e : List Ed) (K : Nat -> List Ed -> Prop) : Prop := match e with
 | [.ro _ xs, .i x, .i n, .i i] => Pre (n = xs.xs.length /\ 0 <= i /\ i <= n) (Vif (Sp.anyF (Sp.hasF xs.xs x) i.toNat (xs.xs.length - i.toNat)) (K 1 [.i ((Sp.fstF (Sp.hasF xs.xs x) i.toNat (xs.xs.length - i.toNat) : Nat) : Int)]) (K 0 []))
 | _ => False
noncomputable def Xfx : LC where
 len := 19
 T := [(0, .rs Jb), (1, .int .i64), (7, .int .i64), (8, .int .i64)]
 H := []
 W := ([4, 5] ++ rg 9 10)
 outs := [⟨.exit 0, [], [], ([0, 1, 4, 5] ++ rg 7 12)⟩, ⟨.ret, [(4, .int .i64)], [], ([0, 1, 5] ++ rg 7 12)⟩]
 spec := Xfh
def Xe6 [W : InW] (xs : Ro Jb) (x n i : Int) (A : List Ed -> Prop) (K : Nat -> List Ed -> Prop) : Prop :=
 Vif (decide (i < n)) (Need (decide (0 <= i) && decide (i < (↑(xs.xs.length) : Int))) (Need (decide (i.toNat < xs.xs.length)) (Vif (decide (x = (cel xs.xs i.toNat (0 : Nat)).int)) (K (0+1) [.i i]) (Ar .i64 (i + 1) fun z => A [.ro _ xs, .i x, .i n, .i z])))) (K 0 [])
theorem Xif (W : InW) (xs x n i A K) : Yff { cxT Try.prog TT T0 1000 50 with fn := 91 } 1000 (Yob Try.prog 91 3) (Yd6 19 [(0, .rs _ xs), (1, .si .i64 x), (7, .si .i64 n), (8, .si .i64 i)] ([4, 5] ++ rg 9 10)) [] (Yut Xfx A K) = Xe6 xs x n i A K := by kernel_rfl
def Xes : Prop := ∀ (W : InW) (body a : Code), (Try.prog.funcs[91]?).bind (·.body) = some body -> a ∈ Yy body -> Yf0 a = 3 -> @Yms W Try.prog a (@Ytz W Xfx)
theorem Xiw (meas : [InW] -> List Ed -> Nat) (hyp_ : ∀ (W : InW) xs x n i K, Xfh [.ro _ xs, .i x, .i n, .i i] K -> ∀ A : List Ed -> Prop, (∀ e, meas e < meas [.ro _ xs, .i x, .i n, .i i] -> Xfh e K -> A e) -> Xe6 xs x n i A K) : Xes :=
 LE.okOf' (fun W => @TT W) (fun W => @Xc W) Xa T0 1000 50 (by kernel_rfl) Xfx (fun W => @meas W) fun W xs x n i K hs =>
  (Xif W xs x n i (fun e => meas e < meas [.ro _ xs, .i x, .i n, .i i] /\ Xfh e K) K).mpr (hyp_ W xs x n i K hs _ fun e h1 h2 => ⟨h1, h2⟩)
theorem okLix : Xes := Xiw (fun e => match e with | [_, _, .i n, .i i] => (n - i).toNat | _ => 0) fun W xs x n i K hs A hA => by
 obtain ⟨⟨rfl, h0, h1⟩, hk⟩ := hs;unfold Xe6;have hm := xs.len;simp only [maxLen] at hm
 by_cases hi' : i < xs.xs.length
 ·rw [show xs.xs.length - i.toNat = (xs.xs.length - (i + 1).toNat) + 1 by omega] at hk;obtain ⟨g1, g2⟩ := Xef (K1 := fun j => K 1 [.i (j : Int)]) hk;rw [show i.toNat + 1 = (i + 1).toNat by omega] at g2;refine vifd (fun _ => ?_) (fun h => absurd hi' h);refine ned (by simp; omega) (nedd (by omega) (vifd (fun e => ?_) (fun e => ?_)))
  ·have := g1 (decide_eq_true e);rw [Int.toNat_of_nonneg h0] at this;exact this
  ·exact ar64 (by omega) (hA _ (by show ((xs.xs.length : Int) - (i + 1)).toNat < ((xs.xs.length : Int) - i).toNat; omega) ⟨⟨rfl, by omega, by omega⟩, g2 (decide_eq_false e)⟩)
 ·refine vifd (fun h => absurd h hi') (fun _ => ?_);rw [show xs.xs.length - i.toNat = 0 by omega] at hk;exact hk.2 rfl
noncomputable def le_ix : LE Try.prog := ⟨91, 3, fun W => @Ytz W Xfx, okLix⟩
noncomputable def T32 : Tab Try.prog := ⟨[], [le_ix], []⟩
def Xia [W : InW] (xs : Ro Jb) (x : Int) (Q : DS -> Prop) : Prop :=
 Pre ((↑(xs.xs.length) : Int) = (↑(xs.xs.length) : Int) /\ Zk <= 0 /\ Zk <= (↑(xs.xs.length) : Int)) (Vif (Sp.anyF (Sp.hasF xs.xs x) Zl (xs.xs.length - Int.toNat Zk)) (Q [[Cl.i (↑(Sp.fstF (Sp.hasF xs.xs x) Zl (xs.xs.length - Int.toNat Zk)) : Int)]]) (Q [[Cl.i (-1 : Int)]]))
theorem vc_ix (W : InW) (xs x Q) : Yw5 (cxT Try.prog TT T32 1000 50) 1000 91 [.rs _ xs, .si .i64 x] [] 0 (Y1i [(false, [.int .i64])] Q) (fun _ _ _ _ => Stuck 421) = Xia xs x Q := by kernel_rfl
abbrev Xex : List AT := [.one (.sl Jb), .one (.int .i64)]
theorem ok_ix {pre : DS -> Prop} {res : DS -> DS} (hyp_ : ∀ (W : InW) (xs : Ro Jb) (x : Int), pre [[.l xs.xs], [.i x]] -> ∀ Q : DS -> Prop, Q (res [[.l xs.xs], [.i x]]) -> Xia xs x Q) : PureOk Try.prog 91 Xex [(false, [.int .i64])] pre res :=
 PureOk.of' (fun W => @TT W) (fun W => @Xc W) Xa T32 1000 50 fun W xs x hp =>
  (vc_ix W xs x (fun o => o = res [[.l xs.xs], [.i x]])).mpr (hyp_ W xs x hp _ rfl)
abbrev Xeh (ds : DS) : DS := match ds with | [[.l xs], [.i x]] => [[.i (Sp.idxOf xs x)]] | _ => []
theorem okix : PureOk Try.prog 91 Xex [(false, [.int .i64])] (fun _ => True) Xeh :=
 ok_ix fun W xs x hp Q h => by
  unfold Xia;delta Zl Zk;simp only [Xeh, Sp.idxOf] at h;simp only [show Int.toNat 0 = 0 from rfl, Nat.sub_zero];refine ⟨⟨trivial, by omega, by omega⟩, vif (fun e => ?_) fun e => ?_⟩
  ·rw [if_pos (show Sp.hasK xs.xs x xs.xs.length = true from e)] at h; exact h
  ·rw [if_neg (show ¬ Sp.hasK xs.xs x xs.xs.length = true by unfold Sp.hasK; rw [e]; decide)] at h; exact h
noncomputable def pc_ix : PC Try.prog := ⟨91, Xex, [(false, [.int .i64])], fun _ => True, Xeh, okix⟩
noncomputable def T33 : Tab Try.prog := ⟨[pc_ix], [], []⟩
def Xfj [InW] (e : List Ed) (K : Nat -> List Ed -> Prop) : Prop := match e with
 | [.ro _ b, .i n, .ro _ a, .i z, .i i] => Pre (z = a.xs.length /\ 0 <= i /\ i <= z /\ n = Sp.sumN (Sp.cmF a.xs b.xs) 0 i.toNat) (K 0 [.i (Sp.cmn a.xs b.xs)])
 | _ => False
noncomputable def Xfz : LC where
 len := 20
 T := [(1, .rs Jb), (4, .int .i64), (7, .rs Jb), (8, .int .i64), (9, .int .i64)]
 H := []
 W := ([6] ++ rg 10 9)
 outs := [⟨.exit 0, [(4, .int .i64)], [], ([1] ++ rg 6 13)⟩]
 spec := Xfj
def Xe8 [W : InW] (b : Ro Jb) (n : Int) (a : Ro Jb) (z i : Int) (A : List Ed -> Prop) (K : Nat -> List Ed -> Prop) : Prop :=
 Vif (decide (i < z)) (Need (decide (0 <= i) && decide (i < (↑(a.xs.length) : Int))) (Need (decide (i.toNat < a.xs.length)) (Pre True (Vif (decide ((0 : Int) <= Sp.idxOf b.xs (cel a.xs i.toNat (0 : Nat)).int)) (Ar .i64 (n + 1) fun z_1 => Ar .i64 (i + 1) fun z_2 => A [.ro _ b, .i z_1, .ro _ a, .i z, .i z_2]) (Ar .i64 (i + 1) fun z_1 => A [.ro _ b, .i n, .ro _ a, .i z, .i z_1]))))) (K 0 [.i n])
theorem Xih (W : InW) (b n a z i A K) : Yff { cxT Try.prog TT T33 1000 50 with fn := 68 } 1000 (Yob Try.prog 68 3) (Yd6 20 [(1, .rs _ b), (4, .si .i64 n), (7, .rs _ a), (8, .si .i64 z), (9, .si .i64 i)] ([6] ++ rg 10 9)) [] (Yut Xfz A K) = Xe8 b n a z i A K := by kernel_rfl
def Xeu : Prop := ∀ (W : InW) (body a : Code), (Try.prog.funcs[68]?).bind (·.body) = some body -> a ∈ Yy body -> Yf0 a = 3 -> @Yms W Try.prog a (@Ytz W Xfz)
theorem Xiy (meas : [InW] -> List Ed -> Nat) (hyp_ : ∀ (W : InW) b n a z i K, Xfj [.ro _ b, .i n, .ro _ a, .i z, .i i] K -> ∀ A : List Ed -> Prop, (∀ e, meas e < meas [.ro _ b, .i n, .ro _ a, .i z, .i i] -> Xfj e K -> A e) -> Xe8 b n a z i A K) : Xeu :=
 LE.okOf' (fun W => @TT W) (fun W => @Xc W) Xa T33 1000 50 (by kernel_rfl) Xfz (fun W => @meas W) fun W b n a z i K hs =>
  (Xih W b n a z i (fun e => meas e < meas [.ro _ b, .i n, .ro _ a, .i z, .i i] /\ Xfj e K) K).mpr (hyp_ W b n a z i K hs _ fun e h1 h2 => ⟨h1, h2⟩)
theorem Sp.idxOf_iff (b : Dt) (x : Int) : decide (0 <= Sp.idxOf b x) = Sp.hasK b x b.length := by
 unfold Sp.idxOf
 split
 ·rename_i h; rw [h]; exact decide_eq_true (by omega)
 ·rename_i h; rw [Bool.eq_false_iff.2 h]; rfl
theorem okLcm : Xeu := Xiy (fun e => match e with | [_, _, _, .i z, .i i] => (z - i).toNat | _ => 0) fun W b n a z i K hs A hA => by
 obtain ⟨⟨hz, h0, h1, hn⟩, hk⟩ := hs;unfold Xe8;have hm := a.len;simp only [maxLen] at hm;have hb := Sp.cmF_b a.xs b.xs i.toNat
 by_cases hi' : i < z
 ·have e2 : Sp.sumN (Sp.cmF a.xs b.xs) 0 (i + 1).toNat = n + Sp.cmF a.xs b.xs i.toNat := by
   rw [show (i + 1).toNat = i.toNat + 1 by omega, Sp.sumN_last, <- hn, Nat.zero_add]
  have lt : (z - (i + 1)).toNat < (z - i).toNat := by omega
  refine vifd (fun _ => ?_) (fun h => absurd hi' h);rw [Sp.idxOf_iff];refine ned (by simp; omega) (nedd (by omega) ⟨trivial, vif (fun e => ?_) (fun e => ?_)⟩)
  ·rw [Sp.cmF, if_pos e] at e2;exact ar64 (by omega) (ar64 (by omega) (hA _ lt ⟨⟨hz, by omega, by omega, e2.symm⟩, hk⟩))
  ·rw [Sp.cmF, if_neg (by rw [e]; decide)] at e2;exact ar64 (by omega) (hA _ lt ⟨⟨hz, by omega, by omega, by omega⟩, hk⟩)
 ·refine vifd (fun h => absurd h hi') (fun _ => ?_);rw [hn, show i.toNat = a.xs.length by omega];exact hk
noncomputable def le_cm : LE Try.prog := ⟨68, 3, fun W => @Ytz W Xfz, okLcm⟩
noncomputable def T34 : Tab Try.prog := ⟨[], [le_cm], []⟩
abbrev Xf8 (ds : DS) : DS := match ds with | [[.l a], [.l b]] => [[.i (Sp.cmn a b)]] | _ => []
def Xib [W : InW] (a b : Ro Jb) (Q : DS -> Prop) : Prop :=
 Pre ((↑(a.xs.length) : Int) = (↑(a.xs.length) : Int) /\ (0 : Int) <= 0 /\ (0 : Int) <= (↑(a.xs.length) : Int) /\ (0 : Int) = Sp.sumN (Sp.cmF a.xs b.xs) (0 : Nat) (Int.toNat (0 : Int))) (Q [[Cl.i (Sp.cmn a.xs b.xs)]])
theorem vc_cm (W : InW) (a b Q) : Yw5 (cxT Try.prog TT T34 1000 50) 1000 68 [.rs _ a, .rs _ b] [] 0 (Y1i [(false, [.int .i64])] Q) (fun _ _ _ _ => Stuck 421) = Xib a b Q := by kernel_rfl
abbrev Xez : List AT := [.one (.sl Jb), .one (.sl Jb)]
theorem ok_cm {pre : DS -> Prop} {res : DS -> DS} (hyp_ : ∀ (W : InW) (a b : Ro Jb), pre [[.l a.xs], [.l b.xs]] -> ∀ Q : DS -> Prop, Q (res [[.l a.xs], [.l b.xs]]) -> Xib a b Q) : PureOk Try.prog 68 Xez [(false, [.int .i64])] pre res :=
 PureOk.of' (fun W => @TT W) (fun W => @Xc W) Xa T34 1000 50 fun W a b hp =>
  (vc_cm W a b (fun o => o = res [[.l a.xs], [.l b.xs]])).mpr (hyp_ W a b hp _ rfl)
theorem okcm : PureOk Try.prog 68 Xez [(false, [.int .i64])] (fun _ => True) Xf8 :=
 ok_cm fun W a b hp Q h => by
  unfold Xib;exact ⟨⟨rfl, by omega, by omega, rfl⟩, h⟩
noncomputable def pc_cm : PC Try.prog := ⟨68, Xez, [(false, [.int .i64])], fun _ => True, Xf8, okcm⟩
abbrev Xf9 (ds : DS) : Prop := match ds with | [[.i r, .i S, .i c], [.l ps], [.i s], [.l p]] => Sp.ApOk S s ps p /\ s <= 65536 | _ => False
abbrev Xei (ds : DS) : DS := match ds with | [[.i r, .i S, .i c], [.l ps], [.i s], [.l p]] => [[.b (Sp.apP ps p S s c)]] | _ => []
noncomputable def T39 : Tab Try.prog := ⟨[pc_cm], [], []⟩
def Zbk [W : InW] (h_Seats h_Com : Int) (ps : Ro Jc) (s : Int) (p : Ro Jb) (Q : DS -> Prop) := Need (!decide (h_Seats = 0)) (Vif (decide (0 < s.tmod h_Seats)) (Ar .i64 (s - 1) fun z => Need (decide (0 <= z) && decide (z < (↑(ps.xs.length) : Int))) (Need (decide (z.toNat < ps.xs.length)) (Pre True (Vif (decide (h_Com < Sp.cmn (cel ps.xs z.toNat (0 : Nat)).lst p.xs)) (Q [[Cl.b false]]) (Q [[Cl.b true]]))))) (Q [[Cl.b true]]))
def Xcd [W : InW] (h_Rows h_Seats h_Com : Int) (ps : Ro Jc) (s : Int) (p : Ro Jb) (Q : DS -> Prop) : Prop :=
 Vif (decide (h_Seats <= s)) (Ar .i64 (s - h_Seats) fun z => Need (decide (0 <= z) && decide (z < (↑(ps.xs.length) : Int))) (Need (decide (z.toNat < ps.xs.length)) (Pre True (Vif (decide (h_Com < Sp.cmn (cel ps.xs z.toNat (0 : Nat)).lst p.xs)) (Q [[Cl.b false]]) (Zbk h_Seats h_Com ps s p Q))))) (Zbk h_Seats h_Com ps s p Q)
theorem Xg4 (W : InW) (h_Rows h_Seats h_Com ps s p Q) : Yw5 (cxT Try.prog TT T39 1000 50) 1000 57 [.agg [.si .i64 h_Rows, .si .i64 h_Seats, .si .i64 h_Com], .rs _ ps, .si .i64 s, .rs _ p] [] 0 (Y1i [(false, [.bool])] Q) (fun _ _ _ _ => Stuck 421) = Xcd h_Rows h_Seats h_Com ps s p Q := by kernel_rfl
abbrev Xbh : List AT := [.agg [.int .i64, .int .i64, .int .i64], .one (.sl Jc), .one (.int .i64), .one (.sl Jb)]
theorem Xh4 {pre : DS -> Prop} {res : DS -> DS} (hyp_ : ∀ (W : InW) (h_Rows h_Seats h_Com : Int) (ps : Ro Jc) (s : Int) (p : Ro Jb), pre [[.i h_Rows, .i h_Seats, .i h_Com], [.l ps.xs], [.i s], [.l p.xs]] -> ∀ Q : DS -> Prop, Q (res [[.i h_Rows, .i h_Seats, .i h_Com], [.l ps.xs], [.i s], [.l p.xs]]) -> Xcd h_Rows h_Seats h_Com ps s p Q) : PureOk Try.prog 57 Xbh [(false, [.bool])] pre res :=
 PureOk.of' (fun W => @TT W) (fun W => @Xc W) Xa T39 1000 50 fun W h_Rows h_Seats h_Com ps s p hp =>
  (Xg4 W h_Rows h_Seats h_Com ps s p (fun o => o = res [[.i h_Rows, .i h_Seats, .i h_Com], [.l ps.xs], [.i s], [.l p.xs]])).mpr (hyp_ W h_Rows h_Seats h_Com ps s p hp _ rfl)
theorem Sp.apP_eq (ps p : Dt) (S s c : Int) : Sp.apP ps p S s c = ((if S <= s then decide (Sp.cmn (cel ps (s - S).toNat 0).lst p <= c) else true) && (if 0 < s.tmod S then decide (Sp.cmn (cel ps (s - 1).toNat 0).lst p <= c) else true)) := by
 unfold Sp.apP Sp.bfD
 split
 ·split
  ·show (decide _ && (decide _ && true)) = _
   rw [Bool.and_true]; rfl
  ·rfl
 ·split
  ·show (decide _ && true) = _
   rw [Bool.and_true, Bool.true_and]; rfl
  ·rfl
theorem Xis : PureOk Try.prog 57 Xbh [(false, [.bool])] Xf9 Xei :=
 Xh4 fun W r S c ps s p hp Q h => by
  obtain ⟨ao, hs⟩ := hp;unfold Xcd;delta Zbk;obtain ⟨s1, s6, t0, t1, _⟩ := ao;have hm : 0 < s.tmod S -> 1 <= s := fun h => by
   by_cases hz : s = 0
   ·rw [hz, Int.zero_tmod] at h; omega
   ·omega
  simp only [Xei, Sp.apP_eq] at h;refine vifd (fun h1 => ar64 (by omega) (ned (by simp; omega) (nedd (by omega) ⟨trivial, vifd (fun h2 => ?_) (fun h2 => ned (by simp; omega) (vifd (fun h3 => ?_) (fun h3 => ?_)))⟩))) (fun h1 => ned (by simp; omega) (vifd (fun h3 => ?_) (fun h3 => ?_)))
  ·rw [if_pos h1, decide_eq_false (by omega)] at h; exact h
  ·have := hm h3;rw [if_pos h1, decide_eq_true (by omega), if_pos h3, Bool.true_and] at h;refine ar64 (by omega) (ned (by simp; omega) (nedd (by omega) ⟨trivial, vifd (fun h4 => ?_) (fun h4 => ?_)⟩))
   ·rw [decide_eq_false (by omega)] at h; exact h
   ·rw [decide_eq_true (by omega)] at h; exact h
  ·rw [if_pos h1, decide_eq_true (by omega), if_neg h3] at h; exact h
  ·have := hm h3;rw [if_neg h1, if_pos h3, Bool.true_and] at h;refine ar64 (by omega) (ned (by simp; omega) (nedd (by omega) ⟨trivial, vifd (fun h4 => ?_) (fun h4 => ?_)⟩))
   ·rw [decide_eq_false (by omega)] at h; exact h
   ·rw [decide_eq_true (by omega)] at h; exact h
  ·rw [if_neg h1, if_neg h3] at h; exact h
noncomputable def Xen : PC Try.prog := ⟨57, Xbh, [(false, [.bool])], Xf9, Xei, Xis⟩
namespace Sp
def hallE (qs ws : Dt) (lo hi r S c n : Int) : Int := if chkE qs ws lo hi = 0 then (if (inr r 1 5 && (inr S 1 6 && inr c 0 16)) = true then (if n = r * S then 0 else 3) else 7) else chkE qs ws lo hi
end Sp
noncomputable def T41 : Tab Try.prog := ⟨[Xb4], [], []⟩
namespace Sp
def eqF (a b : Dt) (i : Nat) : Bool := eqI (cel a i 0).lst (cel b i 0).lst
def eqL (a b : Dt) : Bool := decide (a.length = b.length) && allF (eqF a b) 0 a.length
end Sp
def Xfi [InW] (e : List Ed) (K : Nat -> List Ed -> Prop) : Prop := match e with
 | [.ro _ a, .ro _ b, .i i] => Pre (0 <= i /\ i <= a.xs.length /\ a.xs.length = b.xs.length) (Vif (Sp.allF (Sp.eqF a.xs b.xs) i.toNat (a.xs.length - i.toNat)) (K 0 []) (K 1 []))
 | _ => False
noncomputable def Xfy : LC where
 len := 27
 T := [(0, .rs Jc), (1, .rs Jc), (5, .int .i64)]
 H := []
 W := ([4] ++ rg 11 16)
 outs := [⟨.exit 0, [], [], ([0, 1, 4, 5] ++ rg 11 16)⟩, ⟨.ret, [(4, (.lit (.bool false)))], [], ([0, 1, 5] ++ rg 11 16)⟩]
 spec := Xfi
def Xe7 [W : InW] (a b : Ro Jc) (i : Int) (A : List Ed -> Prop) (K : Nat -> List Ed -> Prop) : Prop :=
 Vif (decide (i < (↑(a.xs.length) : Int))) (Need (decide (0 <= i) && decide (i < (↑(a.xs.length) : Int))) (Need (decide (i.toNat < a.xs.length)) (Need (decide (0 <= i) && decide (i < (↑(b.xs.length) : Int))) (Need (decide (i.toNat < b.xs.length)) (Pre True (Vif (!Sp.eqI (cel a.xs i.toNat (0 : Nat)).lst (cel b.xs i.toNat (0 : Nat)).lst) (K (0+1) []) (Ar .i64 (i + 1) fun z => A [.ro [Ty.sl [Ty.int IntKind.i64]] a, .ro [Ty.sl [Ty.int IntKind.i64]] b, .i z]))))))) (K 0 [])
theorem Xig (W : InW) (a b i A K) : Yff { cxT Try.prog TT T41 1000 50 with fn := 32 } 1000 (Yob Try.prog 32 5) (Yd6 27 [(0, .rs _ a), (1, .rs _ b), (5, .si .i64 i)] ([4] ++ rg 11 16)) [] (Yut Xfy A K) = Xe7 a b i A K := by kernel_rfl
def Xet : Prop := ∀ (W : InW) (body a : Code), (Try.prog.funcs[32]?).bind (·.body) = some body -> a ∈ Yy body -> Yf0 a = 5 -> @Yms W Try.prog a (@Ytz W Xfy)
theorem Xix (meas : [InW] -> List Ed -> Nat) (hyp_ : ∀ (W : InW) a b i K, Xfi [.ro _ a, .ro _ b, .i i] K -> ∀ A : List Ed -> Prop, (∀ e, meas e < meas [.ro _ a, .ro _ b, .i i] -> Xfi e K -> A e) -> Xe7 a b i A K) : Xet :=
 LE.okOf' (fun W => @TT W) (fun W => @Xc W) Xa T41 1000 50 (by kernel_rfl) Xfy (fun W => @meas W) fun W a b i K hs =>
  (Xig W a b i (fun e => meas e < meas [.ro _ a, .ro _ b, .i i] /\ Xfi e K) K).mpr (hyp_ W a b i K hs _ fun e h1 h2 => ⟨h1, h2⟩)
theorem okLeq : Xet := Xix (fun e => match e with | [.ro _ a, _, .i i] => ((a.xs.length : Int) - i).toNat | _ => 0) fun W a b i K hs A hA => by
 obtain ⟨⟨h0, h1, h2⟩, hk⟩ := hs;unfold Xe7;have hm := a.len;simp only [maxLen] at hm
 by_cases hi' : i < a.xs.length
 ·have lt : ((a.xs.length : Int) - (i + 1)).toNat < ((a.xs.length : Int) - i).toNat := by omega
  rw [show a.xs.length - i.toNat = (a.xs.length - (i + 1).toNat) + 1 by omega] at hk;obtain ⟨g1, g2⟩ := Xg7 hk;rw [show i.toNat + 1 = (i + 1).toNat by omega] at g1;refine vifd (fun _ => ?_) (fun h => absurd hi' h);refine ned (by simp; omega) (nedd (by omega) (ned (by simp; omega) (nedd (by omega) ⟨trivial, vif (fun e => ?_) (fun e => ?_)⟩)))
  ·exact g2 (by simpa [Sp.eqF] using e)
  ·exact ar64 (by omega) (hA _ lt ⟨⟨by omega, by omega, h2⟩, g1 (by simpa [Sp.eqF] using e)⟩)
 ·refine vifd (fun h => absurd h hi') (fun _ => ?_);rw [show a.xs.length - i.toNat = 0 by omega] at hk;exact hk.1 rfl
noncomputable def le_eq : LE Try.prog := ⟨32, 5, fun W => @Ytz W Xfy, okLeq⟩
noncomputable def T42 : Tab Try.prog := ⟨[], [le_eq], []⟩
abbrev Xb0 (ds : DS) : DS := match ds with | [[.l a], [.l b]] => [[.b (Sp.eqL a b)]] | _ => []
def Xe3 [W : InW] (a b : Ro Jc) (Q : DS -> Prop) : Prop :=
 Vif (!decide ((↑(a.xs.length) : Int) = (↑(b.xs.length) : Int))) (Q [[Cl.b false]]) (Pre (Zk <= 0 /\ Zk <= (↑(a.xs.length) : Int) /\ a.xs.length = b.xs.length) (Vif (Sp.allF (Sp.eqF a.xs b.xs) (Int.toNat Zk) (a.xs.length - Int.toNat Zk)) (Q [[Cl.b true]]) (Q [[Cl.b false]])))
theorem Xik (W : InW) (a b Q) : Yw5 (cxT Try.prog TT T42 1000 50) 1000 32 [.rs _ a, .rs _ b] [] 0 (Y1i [(false, [.bool])] Q) (fun _ _ _ _ => Stuck 421) = Xe3 a b Q := by kernel_rfl
abbrev Xb8 : List AT := [.one (.sl Jc), .one (.sl Jc)]
theorem Xi2 {pre : DS -> Prop} {res : DS -> DS} (hyp_ : ∀ (W : InW) (a b : Ro Jc), pre [[.l a.xs], [.l b.xs]] -> ∀ Q : DS -> Prop, Q (res [[.l a.xs], [.l b.xs]]) -> Xe3 a b Q) : PureOk Try.prog 32 Xb8 [(false, [.bool])] pre res :=
 PureOk.of' (fun W => @TT W) (fun W => @Xc W) Xa T42 1000 50 fun W a b hp =>
  (Xik W a b (fun o => o = res [[.l a.xs], [.l b.xs]])).mpr (hyp_ W a b hp _ rfl)
theorem okeql : PureOk Try.prog 32 Xb8 [(false, [.bool])] (fun _ => True) Xb0 :=
 Xi2 fun W a b hp Q h => by
  unfold Xe3;delta Zk;simp only [Xb0, Sp.eqL] at h;refine vifn (fun e => ?_) (fun e => ⟨⟨by omega, by omega, by omega⟩, vif (fun f => ?_) (fun f => ?_)⟩)
  ·rw [decide_eq_false (by omega), Bool.false_and] at h; exact h
  ·rw [decide_eq_true (by omega), Bool.true_and, show Sp.allF (Sp.eqF a.xs b.xs) 0 a.xs.length = true from f] at h; exact h
  ·rw [decide_eq_true (by omega), Bool.true_and, show Sp.allF (Sp.eqF a.xs b.xs) 0 a.xs.length = false from f] at h; exact h
noncomputable def Xin : PC Try.prog := ⟨32, Xb8, [(false, [.bool])], fun _ => True, Xb0, okeql⟩
noncomputable def T43 : Tab Try.prog := ⟨[Xh], [], [ceOf Xg Xb5]⟩
def Xf5 [InW] (e : List Ed) (K : Nat -> List Ed -> Prop) : Prop := match e with
 | [.ro _ qs, .ro _ ws, .i lo, .i hi, .i r, .i S, .i c, .i n] => Vif (decide (Sp.hallE qs.xs ws.xs lo hi r S c n = 0)) (K 1 [.ro _ qs, .ro _ ws, .i lo, .i hi, .l (Sp.wts qs.xs qs.xs.length), .l []]) (K 0 [.i (Sp.hallE qs.xs ws.xs lo hi r S c n)])
 | _ => False
noncomputable def Xo : CC where
 g := 56
 args := [.agg [.rs Ja, .rs Jb, .int .i64, .int .i64], .agg [.int .i64, .int .i64, .int .i64], .int .i64]
 H := []
 outs := [⟨false, .tup [(.lit (.pointer none)), .int .i64], [], false⟩, ⟨false, .tup [(.ptr 6 0), (.lit (.int .i64 0))], [(6, .blk 82 [.rs Ja, .rs Jb, .int .i64, .int .i64, (.row 12), (.mp 18)]), (12, .arr 3 Jb), (18, .mpP)], false⟩]
 spec := Xf5
def Zbl [W : InW] : List Ed := [.i (7 : Int)]
def Xcz [W : InW] (qs : Ro Ja) (ws : Ro Jb) (lo hi r s c n : Int) (K : Nat -> List Ed -> Prop) : Prop :=
 Vif (decide (Sp.chkE qs.xs ws.xs lo hi = 0)) (Pre True (Vif (Sp.out (1 : Int) (5 : Int) [[Cl.i r]]) (K 0 Zbl) (Pre True (Vif (Sp.out (1 : Int) (6 : Int) [[Cl.i s]]) (K 0 Zbl) (Pre True (Vif (Sp.out Zk (16 : Int) [[Cl.i c]]) (K 0 Zbl) (Ar .i64 (r * s) fun z => Vif (!decide (n = z)) (K 0 [.i (3 : Int)]) (K (0+1) [.ro _ qs, .ro _ ws, .i lo, .i hi, .l (Sp.wts qs.xs (qs.xs.length)), .l []])))))))) (Vif (!decide (Sp.chkE qs.xs ws.xs lo hi = 0)) (K 0 [.i (Sp.chkE qs.xs ws.xs lo hi)]) (Pre True (Vif (Sp.out (1 : Int) (5 : Int) [[Cl.i r]]) (K 0 Zbl) (Pre True (Vif (Sp.out (1 : Int) (6 : Int) [[Cl.i s]]) (K 0 Zbl) (Pre True (Vif (Sp.out Zk (16 : Int) [[Cl.i c]]) (K 0 Zbl) (Ar .i64 (r * s) fun z => Vif (!decide (n = z)) (K 0 [.i (3 : Int)]) (K 0 [.i Zk])))))))))
theorem Xgx (W : InW) (qs ws lo hi r s c n K) : Yw2 (cxT Try.prog TT T43 1000 50) 1000 56 [.agg [.rs _ qs, .rs _ ws, .si .i64 lo, .si .i64 hi], .agg [.si .i64 r, .si .i64 s, .si .i64 c], .si .i64 n] [] (fun v h => outC Xo.H [] Xo.outs 0 false v h K) (fun v h => outC Xo.H [] Xo.outs 0 true v h K) = Xcz qs ws lo hi r s c n K := by kernel_rfl
theorem Xhx (hyp_ : ∀ (W : InW) qs ws lo hi r s c n K, Xf5 [.ro _ qs, .ro _ ws, .i lo, .i hi, .i r, .i s, .i c, .i n] K -> Xcz qs ws lo hi r s c n K) : ∀ W : InW, @CallC W Try.prog Xo :=
 CC.okOf (fun W => @TT W) (fun W => @Xc W) Xa T43 1000 50 Xo fun W qs ws lo hi r s c n K hs => (Xgx W qs ws lo hi r s c n K).mpr (hyp_ W qs ws lo hi r s c n K hs)
theorem Xgd : ∀ W : InW, @CallC W Try.prog Xo := Xhx fun W qs ws lo hi r S c n K hs => by
 unfold Xcz;delta Zk Zbl;have hs : Vif (decide (Sp.hallE qs.xs ws.xs lo hi r S c n = 0)) (K 1 [.ro _ qs, .ro _ ws, .i lo, .i hi, .l (Sp.wts qs.xs qs.xs.length), .l []]) (K 0 [.i (Sp.hallE qs.xs ws.xs lo hi r S c n)]) := hs;simp only [out1];have hb : Sp.hallE qs.xs ws.xs lo hi r S c n ≠ 0 -> K 0 [.i (Sp.hallE qs.xs ws.xs lo hi r S c n)] := fun e => hs.2 (decide_eq_false e);have hg : Sp.hallE qs.xs ws.xs lo hi r S c n = 0 -> _ := fun e => hs.1 (decide_eq_true e);unfold Sp.hallE at hb hg;clear hs;refine vifd (fun e => ⟨trivial, vifb (fun a => ?_) (fun a => ⟨trivial, vifb (fun b => ?_) (fun b => ⟨trivial, vifb (fun d => ?_) (fun d => ?_)⟩)⟩)⟩) (fun e => vifn (fun _ => ?_) (fun e2 => absurd e2 e))
 ·rw [if_pos e, a, Bool.false_and, if_neg (by decide)] at hb; exact hb (by decide)
 ·rw [if_pos e, a, b, Bool.false_and, Bool.and_false, if_neg (by decide)] at hb; exact hb (by decide)
 ·rw [if_pos e, a, b, d, Bool.and_false, Bool.and_false, if_neg (by decide)] at hb; exact hb (by decide)
 ·rw [if_pos e, a, b, d, Bool.and_self, Bool.and_self, if_pos rfl] at hb hg;have a2 := Sp.inr_iff.1 a;have b2 := Sp.inr_iff.1 b;have m1 : 0 <= r * S := Int.mul_nonneg (by omega) (by omega);have m2 : r * S <= 5 * 6 := Int.mul_le_mul a2.2 b2.2 (by omega) (by omega);refine ar64 (by omega) (vifn (fun f => ?_) (fun f => ?_))
  ·rw [if_neg f] at hb; exact hb (by decide)
  ·rw [if_pos f] at hg; exact hg rfl
 ·rw [if_neg e] at hb; exact hb e
namespace Sp
def accF (qs ws : Dt) (lo hi S c : Int) (ps : Dt) (i : Nat) : Int := if isP qs ws lo hi (cel ps i 0).lst = true then (if apP ps (cel ps i 0).lst S i c = true then 0 else 5) else 6
def accB (qs ws : Dt) (lo hi S c : Int) (ps : Dt) : Bool := hasE (accF qs ws lo hi S c ps) 0 ps.length
def accE (qs ws : Dt) (lo hi r S c : Int) (ps : Dt) : Int := if hallE qs ws lo hi r S c ps.length = 0 then (if accB qs ws lo hi S c ps = true then accF qs ws lo hi S c ps (idxE (accF qs ws lo hi S c ps) 0 ps.length) else 0) else hallE qs ws lo hi r S c ps.length
def accI (qs ws : Dt) (lo hi r S c : Int) (ps : Dt) : Int := if hallE qs ws lo hi r S c ps.length = 0 then (if accB qs ws lo hi S c ps = true then (idxE (accF qs ws lo hi S c ps) 0 ps.length : Nat) else 0) else 0
structure HallOk (r S c n : Int) : Prop where
 r1 : 1 <= r
 r5 : r <= 5
 s1 : 1 <= S
 s6 : S <= 6
 c0 : 0 <= c
 c16 : c <= 16
 n : n = r * S
theorem hallE_iff {qs ws : Dt} {lo hi r S c n : Int} : hallE qs ws lo hi r S c n = 0 ↔ BankV qs ws lo hi /\ HallOk r S c n := by
 unfold hallE;constructor
 ·intro h
  split at h
  ·rename_i h1
   split at h
   ·rename_i h2;simp only [Bool.and_eq_true, inr_iff] at h2
    split at h
    ·rename_i h3;exact ⟨chkE_iff.1 h1, by omega, by omega, by omega, by omega, by omega, by omega, h3⟩
    ·omega
   ·omega
  ·rename_i h1; exact absurd h h1
 ·rintro ⟨h1, h2⟩;obtain ⟨a1, a2, a3, a4, a5, a6, a7⟩ := h2;rw [if_pos (chkE_iff.2 h1), if_pos (by simp only [Bool.and_eq_true, inr_iff]; omega), if_pos a7]
theorem HallOk.few {r S c n : Int} (h : HallOk r S c n) : 0 <= n /\ n <= 30 := by
 obtain ⟨a1, a2, a3, a4, a5, a6, a7⟩ := h;have m1 : 0 <= r * S := Int.mul_nonneg (by omega) (by omega);have m2 : r * S <= 5 * 6 := Int.mul_le_mul a2 a4 (by omega) (by omega);omega
theorem isF_lt {qs xs : Dt} {n : Nat} (h : ∀ k, k < n -> isF qs xs k = true) : ∀ (d i : Nat), i + d + 1 < n -> (cel xs i 0).int < (cel xs (i + d + 1) 0).int
 | 0, i, hd => by
  have := h (i + 1) (by omega);simp only [isF, Bool.and_eq_true, inr_iff, Bool.or_eq_true, decide_eq_true_eq, Nat.add_sub_cancel] at this;exact this.2.resolve_left (by omega)
 | d + 1, i, hd => by
  have h1 := isF_lt h d i (by omega);have := h (i + (d + 1) + 1) (by omega);simp only [isF, Bool.and_eq_true, inr_iff, Bool.or_eq_true, decide_eq_true_eq, Nat.add_sub_cancel] at this;have h2 := this.2.resolve_left (by omega);rw [show i + (d + 1) = i + d + 1 by omega] at h2;rw [show i + (d + 1) + 1 = i + d + 1 + 1 by omega] at *;omega
theorem isP_nod {qs ws : Dt} {lo hi : Int} {xs : Dt} (h : isP qs ws lo hi xs = true) : NoD xs := ⟨fun i k h1 h2 => by
 unfold isP at h;simp only [Bool.and_eq_true] at h;have h3 := isF_lt (fun k hk => allF_iff.1 h.1 k (Nat.zero_le _) (by omega : k < 0 + xs.length)) (k - i - 1) i (by omega);rw [show i + (k - i - 1) + 1 = k by omega] at h3;omega⟩
end Sp
noncomputable def T44 : Tab Try.prog := ⟨[Xen], [], [ceOf Xn Xgc]⟩
def Xda [InW] (e : List Ed) (K : Nat -> List Ed -> Prop) : Prop := match e with
 | [.ro _ ps, .ro _ p2, .i z, .i i, .i r, .i S, .i c, .ro _ qs, .ro _ ws, .i lo, .i hi, .l w, .l xs] => Pre (Sp.BankV qs.xs ws.xs lo hi /\ Sp.BkOk qs.xs ws.xs lo hi w /\ Sp.MemoOk qs.xs lo hi xs /\ Sp.HallOk r S c z /\ p2.xs = ps.xs /\ z = ps.xs.length /\ 0 <= i /\ i <= z)
   (Vif (Sp.hasE (Sp.accF qs.xs ws.xs lo hi S c ps.xs) i.toNat (ps.xs.length - i.toNat)) (K 1 [.i (Sp.idxE (Sp.accF qs.xs ws.xs lo hi S c ps.xs) i.toNat (ps.xs.length - i.toNat) : Nat), .i (Sp.accF qs.xs ws.xs lo hi S c ps.xs (Sp.idxE (Sp.accF qs.xs ws.xs lo hi S c ps.xs) i.toNat (ps.xs.length - i.toNat)))]) (K 0 []))
 | _ => False
noncomputable def Xd3 : LC where
 len := 48
 T := [(2, .rs Jc), (4, (.ptr 13 0)), (8, (.ptr 4 0)), (24, .rs Jc), (25, .int .i64), (26, .int .i64)]
 H := [(13, .blk 44 [.int .i64, .int .i64, .int .i64]), (4, .blk 82 [.rs Ja, .rs Jb, .int .i64, .int .i64, (.row 7), (.mp 10)]), (7, .arr 3 Jb), (10, .mpP)]
 W := ([6, 7] ++ rg 9 4 ++ rg 27 21)
 outs := [⟨.exit 0, [], [], ([2, 4] ++ rg 6 7 ++ rg 24 24)⟩, ⟨.ret, [(6, .int .i64), (7, .int .i64)], [], ([2, 4] ++ rg 8 5 ++ rg 24 24)⟩]
 spec := Xda
def Xcm [W : InW] (ps q2 : Ro Jc) (z i r s c : Int) (qs : Ro Ja) (ws : Ro Jb) (lo hi : Int) (w xs : Dt) (A : List Ed -> Prop) (K : Nat -> List Ed -> Prop) : Prop :=
 Vif (decide (i < z)) (Need (decide (0 <= i) && decide (i < (↑(q2.xs.length) : Int))) (Need (decide (i.toNat < q2.xs.length)) (Pre (Sp.BkOk qs.xs ws.xs lo hi w /\ Sp.StOk qs.xs (0 : Int) (0 : Int) (Sp.v0 ws.xs) /\ Sp.MemoOk qs.xs lo hi xs) (Sp.FaM (Sp.MemoOk qs.xs lo hi) fun ys => Vif (!(Sp.fol qs.xs ws.xs lo hi ((cel q2.xs i.toNat Zbc).lst)).2) (K (0+1) [.i i, .i (6 : Int)]) (Pre (Sp.ApOk s i ps.xs (cel q2.xs i.toNat Zbc).lst /\ i <= 65536) (Vif (!Sp.apP ps.xs (cel q2.xs i.toNat Zbc).lst s i c) (K (0+1) [.i i, .i (5 : Int)]) (Ar .i64 (i + 1) fun z_1 => A [.ro [Ty.sl [Ty.int IntKind.i64]] ps, .ro [Ty.sl [Ty.int IntKind.i64]] q2, .i z, .i z_1, .i r, .i s, .i c, .ro _ qs, .ro _ ws, .i lo, .i hi, .l w, .l ys]))))))) (K 0 [])
theorem Xgk (W : InW) (ps q2 z i r s c qs ws lo hi w xs A K) : Yff { cxT Try.prog TT T44 1000 50 with fn := 33 } 1000 (Yob Try.prog 33 6) (Yd6 48 [(2, .rs _ ps), (4, .ptr 13 0), (8, .ptr 4 0), (24, .rs _ q2), (25, .si .i64 z), (26, .si .i64 i)] ([6, 7] ++ rg 9 4 ++ rg 27 21)) [(13, .blk 44 [.si .i64 r, .si .i64 s, .si .i64 c]), (4, .blk 82 [.rs _ qs, .rs _ ws, .si .i64 lo, .si .i64 hi, .rw 7, .mp 10]), (7, .arr 3 Jb w), (10, .obj (.mpP xs))] (Yut Xd3 A K) = Xcm ps q2 z i r s c qs ws lo hi w xs A K := by kernel_rfl
def Xdq : Prop := ∀ (W : InW) (body a : Code), (Try.prog.funcs[33]?).bind (·.body) = some body -> a ∈ Yy body -> Yf0 a = 6 -> @Yms W Try.prog a (@Ytz W Xd3)
theorem Xhk (meas : [InW] -> List Ed -> Nat) (hyp_ : ∀ (W : InW) ps q2 z i r s c qs ws lo hi w xs K, Xda [.ro _ ps, .ro _ q2, .i z, .i i, .i r, .i s, .i c, .ro _ qs, .ro _ ws, .i lo, .i hi, .l w, .l xs] K -> ∀ A : List Ed -> Prop, (∀ e, meas e < meas [.ro _ ps, .ro _ q2, .i z, .i i, .i r, .i s, .i c, .ro _ qs, .ro _ ws, .i lo, .i hi, .l w, .l xs] -> Xda e K -> A e) -> Xcm ps q2 z i r s c qs ws lo hi w xs A K) : Xdq :=
 LE.okOf' (fun W => @TT W) (fun W => @Xc W) Xa T44 1000 50 (by kernel_rfl) Xd3 (fun W => @meas W) fun W ps q2 z i r s c qs ws lo hi w xs K hs =>
  (Xgk W ps q2 z i r s c qs ws lo hi w xs (fun e => meas e < meas [.ro _ ps, .ro _ q2, .i z, .i i, .i r, .i s, .i c, .ro _ qs, .ro _ ws, .i lo, .i hi, .l w, .l xs] /\ Xda e K) K).mpr (hyp_ W ps q2 z i r s c qs ws lo hi w xs K hs _ fun e h1 h2 => ⟨h1, h2⟩)
theorem Xi9 : Xdq := Xhk (fun e => match e with | _ :: _ :: .i z :: .i i :: _ => (z - i).toNat | _ => 0) fun W ps p2 z i r S c qs ws lo hi w xs K hs A hA => by
 obtain ⟨⟨bv, bk, mo, ho, hp, hz, h0, h1⟩, hk⟩ := hs;unfold Xcm;delta Zbc;have hf := ho.few;have s1 := ho.s1;have s6 := ho.s6;have hq : p2.xs.length = ps.xs.length := by rw [hp]
 by_cases hi' : i < z
 ·have lt : (z - (i + 1)).toNat < (z - i).toNat := by omega
  rw [show ps.xs.length - i.toNat = (ps.xs.length - (i + 1).toNat) + 1 by omega] at hk;obtain ⟨g1, g2⟩ := Xee (K1 := fun j e => K 1 [.i (j : Nat), .i e]) hk;rw [show i.toNat + 1 = (i + 1).toNat by omega] at g2;simp only [hp, Sp.fol_is bv];refine vifd (fun _ => ?_) (fun h => absurd hi' h);refine ned (by simp; omega) (nedd (by omega) ⟨⟨bk, bv.st, mo⟩, ⟨fun ys hy => vifb (fun e => ?_) (fun e => ⟨⟨⟨s1, s6, h0, by omega, Sp.isP_nod e⟩, by omega⟩, vifb (fun f => ?_) (fun f => ?_)⟩)⟩⟩)
  ·have e1 : Sp.accF qs.xs ws.xs lo hi S c ps.xs i.toNat = 6 := by unfold Sp.accF; rw [e, if_neg (by decide)]
   have := g1 (by omega);rw [e1, Int.toNat_of_nonneg h0] at this;exact this
  ·have e1 : Sp.accF qs.xs ws.xs lo hi S c ps.xs i.toNat = 5 := by unfold Sp.accF; rw [e, if_pos rfl, Int.toNat_of_nonneg h0, f, if_neg (by decide)]
   have := g1 (by omega);rw [e1, Int.toNat_of_nonneg h0] at this;exact this
  ·have e1 : Sp.accF qs.xs ws.xs lo hi S c ps.xs i.toNat = 0 := by unfold Sp.accF; rw [e, if_pos rfl, Int.toNat_of_nonneg h0, f, if_pos rfl]
   exact ar64 (by omega) (hA _ lt ⟨⟨bv, bk, hy, ho, hp, hz, by omega, by omega⟩, g2 e1⟩)
 ·refine vifd (fun h => absurd h hi') (fun _ => ?_);rw [show ps.xs.length - i.toNat = 0 by omega] at hk;exact hk.2 rfl
noncomputable def Xjq : LE Try.prog := ⟨33, 6, fun W => @Ytz W Xd3, Xi9⟩
noncomputable def T45 : Tab Try.prog := ⟨[], [Xjq], [ceOf Xo Xgd]⟩
abbrev Xb2 (ds : DS) : DS := match ds with | [[.l qs, .l ws, .i lo, .i hi], [.i r, .i S, .i c], [.l ps]] => [[.i (Sp.accI qs ws lo hi r S c ps)], [.i (Sp.accE qs ws lo hi r S c ps)]] | _ => []
def Zbm [W : InW] (ps : Ro Jc) := (↑(ps.xs.length) : Int)
def Xce [W : InW] (kQ : Ro Ja) (k_Ws : Ro Jb) (k_Lo k_Hi h_Rows h_Seats h_Com : Int) (ps : Ro Jc) (Q : DS -> Prop) : Prop :=
 Vif (decide (Sp.hallE kQ.xs k_Ws.xs k_Lo k_Hi h_Rows h_Seats h_Com (Zbm ps) = 0)) (Pre (Sp.BankV kQ.xs k_Ws.xs k_Lo k_Hi /\ Sp.BkOk kQ.xs k_Ws.xs k_Lo k_Hi (Sp.wts kQ.xs (kQ.xs.length)) /\ Sp.MemoOk kQ.xs k_Lo k_Hi [] /\ Sp.HallOk h_Rows h_Seats h_Com (Zbm ps) /\ ps.xs = ps.xs /\ (Zbm ps) = (Zbm ps) /\ Zk <= 0 /\ Zk <= (Zbm ps)) (Vif (Sp.hasE (Sp.accF kQ.xs k_Ws.xs k_Lo k_Hi h_Seats h_Com ps.xs) Zi (ps.xs.length - Int.toNat Zk)) (Q [[Cl.i (↑(Sp.idxE (Sp.accF kQ.xs k_Ws.xs k_Lo k_Hi h_Seats h_Com ps.xs) Zi (ps.xs.length - Int.toNat Zk)) : Int)], [Cl.i (Sp.accF kQ.xs k_Ws.xs k_Lo k_Hi h_Seats h_Com ps.xs (Sp.idxE (Sp.accF kQ.xs k_Ws.xs k_Lo k_Hi h_Seats h_Com ps.xs) Zi (ps.xs.length - Int.toNat Zk)))]]) (Q [[Cl.i 0], [Cl.i 0]]))) (Vif (!decide (Sp.hallE kQ.xs k_Ws.xs k_Lo k_Hi h_Rows h_Seats h_Com (Zbm ps) = 0)) (Q [[Cl.i 0], [Cl.i (Sp.hallE kQ.xs k_Ws.xs k_Lo k_Hi h_Rows h_Seats h_Com (Zbm ps))]]) ((435 : Nat) = 435 + 1))
theorem Xg5 (W : InW) (kQ k_Ws k_Lo k_Hi h_Rows h_Seats h_Com ps Q) : Yw5 (cxT Try.prog TT T45 1000 50) 1000 33 [.agg [.rs _ kQ, .rs _ k_Ws, .si .i64 k_Lo, .si .i64 k_Hi], .agg [.si .i64 h_Rows, .si .i64 h_Seats, .si .i64 h_Com], .rs _ ps] [] 0 (Y1i [(false, [.int .i64]), (false, [.int .i64])] Q) (fun _ _ _ _ => Stuck 421) = Xce kQ k_Ws k_Lo k_Hi h_Rows h_Seats h_Com ps Q := by kernel_rfl
abbrev Xbi : List AT := [.agg [.sl Ja, .sl Jb, .int .i64, .int .i64], .agg [.int .i64, .int .i64, .int .i64], .one (.sl Jc)]
theorem Xh5 {pre : DS -> Prop} {res : DS -> DS} (hyp_ : ∀ (W : InW) (kQ : Ro Ja) (k_Ws : Ro Jb) (k_Lo k_Hi h_Rows h_Seats h_Com : Int) (ps : Ro Jc), pre [[.l kQ.xs, .l k_Ws.xs, .i k_Lo, .i k_Hi], [.i h_Rows, .i h_Seats, .i h_Com], [.l ps.xs]] -> ∀ Q : DS -> Prop, Q (res [[.l kQ.xs, .l k_Ws.xs, .i k_Lo, .i k_Hi], [.i h_Rows, .i h_Seats, .i h_Com], [.l ps.xs]]) -> Xce kQ k_Ws k_Lo k_Hi h_Rows h_Seats h_Com ps Q) : PureOk Try.prog 33 Xbi [(false, [.int .i64]), (false, [.int .i64])] pre res :=
 PureOk.of' (fun W => @TT W) (fun W => @Xc W) Xa T45 1000 50 fun W kQ k_Ws k_Lo k_Hi h_Rows h_Seats h_Com ps hp =>
  (Xg5 W kQ k_Ws k_Lo k_Hi h_Rows h_Seats h_Com ps (fun o => o = res [[.l kQ.xs, .l k_Ws.xs, .i k_Lo, .i k_Hi], [.i h_Rows, .i h_Seats, .i h_Com], [.l ps.xs]])).mpr (hyp_ W kQ k_Ws k_Lo k_Hi h_Rows h_Seats h_Com ps hp _ rfl)
theorem Xit : PureOk Try.prog 33 Xbi [(false, [.int .i64]), (false, [.int .i64])] (fun _ => True) Xb2 :=
 Xh5 fun W qs ws lo hi r S c ps hp Q h => by
  unfold Xce;delta Zi Zbm Zk;simp only [Xb2, Sp.accI, Sp.accE] at h;refine vifd (fun e => ?_) (fun e => vifn (fun _ => ?_) (fun e2 => absurd e2 e))
  ·have e2 := Sp.hallE_iff.1 e;rw [if_pos e, if_pos e] at h;refine ⟨⟨e2.1, e2.1.bk, Sp.memo_nil, e2.2, rfl, rfl, by omega, by omega⟩, vif (fun f => ?_) (fun f => ?_)⟩
   ·rw [if_pos (show Sp.accB qs.xs ws.xs lo hi S c ps.xs = true from f), if_pos (show Sp.accB qs.xs ws.xs lo hi S c ps.xs = true from f)] at h; exact h
   ·have f2 : ¬ Sp.accB qs.xs ws.xs lo hi S c ps.xs = true := by rw [show Sp.accB qs.xs ws.xs lo hi S c ps.xs = false from f]; decide
    rw [if_neg f2, if_neg f2] at h; exact h
  ·rw [if_neg e, if_neg e] at h; exact h
noncomputable def Xhb : PC Try.prog := ⟨33, Xbi, [(false, [.int .i64]), (false, [.int .i64])], fun _ => True, Xb2, Xit⟩
namespace Sp
def pickP (rs : Dt) (n : Int) (k : Nat) : Dt := (cel rs ((n + k).tmod rs.length).toNat 0).lst
def fitF (rs ps : Dt) (S c seat n : Int) (k : Nat) : Bool := apP ps (pickP rs n k) S seat c
def fitB (rs ps : Dt) (S c seat n : Int) (k : Nat) : Bool := anyF (fitF rs ps S c seat n) k (rs.length - k)
def fitR (rs ps : Dt) (S c seat n : Int) (k : Nat) : Dt := ps ++ [[.l (pickP rs n (fstF (fitF rs ps S c seat n) k (rs.length - k)))]]
structure Dw where
 ok : Bool
 ps : Dt
def drw (rs nums : Dt) (S c : Int) : Nat -> Nat -> Dt -> Dw
 | _, 0, ps => ⟨true, ps⟩
 | i, m + 1, ps => if fitB rs ps S c i (cel nums i 0).int 0 = true then drw rs nums S c (i + 1) m (fitR rs ps S c i (cel nums i 0).int 0) else ⟨false, []⟩
structure RsOk (rs : Dt) : Prop where
 n1 : 1 <= rs.length
 n2 : rs.length <= 65536
 nod : ∀ i, i < rs.length -> NoD (cel rs i 0).lst
 few : ∀ i, i < rs.length -> (cel rs i 0).lst.length <= 16
structure NuOk (nums : Dt) : Prop where
 few : nums.length <= 30
 ok : ∀ i, i < nums.length -> 0 <= (cel nums i 0).int /\ (cel nums i 0).int <= 1000000000
theorem tmod_in {n : Int} {m : Nat} (h : 0 <= n) (h1 : 1 <= m) : 0 <= n.tmod m /\ n.tmod m < m := by
 rw [Int.tmod_eq_emod_of_nonneg h];exact ⟨Int.emod_nonneg _ (by omega), Int.emod_lt_of_pos _ (by omega)⟩
theorem rs_ok {qs ws : Dt} {lo hi : Int} (bv : BankV qs ws lo hi) (h : total qs ws lo hi ≠ 0) : RsOk (papD qs ws lo hi) := by
 have hl := length_papD qs ws lo hi;have b2 : 0 <= total qs ws lo hi /\ total qs ws lo hi <= 65536 := cnt_16 bv.n2 0 (v0 ws);refine ⟨by omega, by omega, fun i hi' => ?_, fun i hi' => ?_⟩
 ·rw [cel_papD hi'];exact isP_nod (paps_is bv (by simpa [papD] using hi'))
 ·have := ((paps_in bv).ok i hi').few;have := bv.n2;omega
def drawE (qs ws : Dt) (lo hi r S c : Int) (nums : Dt) : Int := if hallE qs ws lo hi r S c nums.length = 0 then (if out 0 1000000000 nums = true then 7 else (if total qs ws lo hi = 0 then 4 else (if (drw (papD qs ws lo hi) nums S c 0 nums.length []).ok = true then 0 else 9))) else hallE qs ws lo hi r S c nums.length
def drawL (qs ws : Dt) (lo hi r S c : Int) (nums : Dt) : Dt := if drawE qs ws lo hi r S c nums = 0 then (drw (papD qs ws lo hi) nums S c 0 nums.length []).ps else []
theorem drawL_no {qs ws : Dt} {lo hi r S c : Int} {nums : Dt} (h : drawE qs ws lo hi r S c nums ≠ 0) : drawL qs ws lo hi r S c nums = [] := by unfold drawL; rw [if_neg h]
theorem drawL_ok {qs ws : Dt} {lo hi r S c : Int} {nums : Dt} (h : drawE qs ws lo hi r S c nums = 0) : drawL qs ws lo hi r S c nums = (drw (papD qs ws lo hi) nums S c 0 nums.length []).ps := by unfold drawL; rw [if_pos h]
theorem outs_no {lo hi : Int} {xs : Dt} : ∀ {n i : Nat}, outs lo hi xs i n = false -> ∀ k, i <= k -> k < i + n -> inr (cel xs k 0).int lo hi = true
 | 0, i, _, k, a, b => by omega
 | n + 1, i, h, k, a, b => by
  simp only [outs, Bool.or_eq_false_iff, Bool.not_eq_false'] at h;rcases Nat.eq_or_lt_of_le a with e | e
  ·exact e ▸ h.1
  ·exact outs_no h.2 k (by omega) (by omega)
theorem nu_ok {nums : Dt} (h : out 0 1000000000 nums = false) (h30 : nums.length <= 30) : NuOk nums := ⟨h30, fun i hi => by
 have := outs_no h i (Nat.zero_le _) (by omega);rw [inr_iff] at this;exact this⟩
end Sp
abbrev Xba (ds : DS) : DS := match ds with | [[.l qs, .l ws, .i lo, .i hi], [.i r, .i S, .i c], [.l nums]] => [[.l (Sp.drawL qs ws lo hi r S c nums)], [.i (Sp.drawE qs ws lo hi r S c nums)]] | _ => []
noncomputable def T52 : Tab Try.prog := ⟨[Xen], [], [ceOf Xm Xgb]⟩
def Xff [InW] (e : List Ed) (K : Nat -> List Ed -> Prop) : Prop := match e with
  | [.i many, .i seat, .i n, .ro _ nums, .i z, .i j, .i m2, .i k, .i r, .i S, .i c, .ro _ qs, .ro _ ws, .i lo, .i hi, .l w, .l xs, .l ps] => Pre (Sp.BankV qs.xs ws.xs lo hi /\ Sp.BkOk qs.xs ws.xs lo hi w /\ Sp.MemoOk qs.xs lo hi xs /\ Sp.RsOk (Sp.papD qs.xs ws.xs lo hi) /\ many = Sp.total qs.xs ws.xs lo hi /\ m2 = many /\ 1 <= S /\ S <= 6 /\ 0 <= seat /\ seat <= 30 /\ ps.length = seat /\ 0 <= n /\ n <= 1000000000 /\ 0 <= k /\ k <= many)
     (Vif (Sp.fitB (Sp.papD qs.xs ws.xs lo hi) ps S c seat n k.toNat) (Sp.FaM (Sp.MemoOk qs.xs lo hi) fun ys => K 0 [.i many, .ro _ nums, .i z, .i j, .i r, .i S, .i c, .ro _ qs, .ro _ ws, .i lo, .i hi, .l w, .l ys, .l (Sp.fitR (Sp.papD qs.xs ws.xs lo hi) ps S c seat n k.toNat)]) (K 1 []))
  | _ => False
noncomputable def Xfv : LC where
 len := 65
 T := [(4, (.ptr 13 0)), (6, (.row 15)), (8, (.ptr 4 0)), (9, .int .i64), (10, .int .i64), (11, .int .i64), (35, .rs Jb), (36, .int .i64), (37, .int .i64), (42, .int .i64), (43, .int .i64)]
 H := [(13, .blk 44 [.int .i64, .int .i64, .int .i64]), (4, .blk 82 [.rs Ja, .rs Jb, .int .i64, .int .i64, (.row 7), (.mp 10)]), (7, .arr 3 Jb), (10, .mpP), (15, .nst 23 [.sl Jb])]
 W := ([12, 13] ++ rg 44 19)
 outs := [⟨.exit 2, [(4, (.ptr 13 0)), (6, (.row 6)), (8, (.ptr 4 0)), (9, .int .i64), (35, .rs Jb), (36, .int .i64), (37, .int .i64)], [(13, .blk 44 [.int .i64, .int .i64, .int .i64]), (4, .blk 82 [.rs Ja, .rs Jb, .int .i64, .int .i64, (.row 7), (.mp 10)]), (7, .arr 3 Jb), (10, .mpP), (6, .nst 23 [.sl Jb])], (rg 10 4 ++ rg 42 21)⟩, ⟨.exit 3, [], [], ([4, 6] ++ rg 8 6 ++ [35, 36, 37] ++ rg 42 21)⟩]
 spec := Xff
def Xe4 [W : InW] (many seat n : Int) (nums : Ro Jb) (z j m2 k r s c : Int) (qs : Ro Ja) (ws : Ro Jb) (lo hi : Int) (w xs ps : Dt) (A : List Ed -> Prop) (K : Nat -> List Ed -> Prop) : Prop :=
 Vif (decide (k < m2)) (Ar .i64 (n + k) fun z_1 => Need (!decide (many = 0)) (Pre (Sp.BkOk qs.xs ws.xs lo hi w /\ Sp.StOk qs.xs Zk Zk (Sp.v0 ws.xs) /\ Sp.MemoOk qs.xs lo hi xs /\ 0 <= z_1.tmod many /\ z_1.tmod many < Sp.cnt qs.xs lo hi (qs.xs.length) Zk (Sp.v0 ws.xs)) (Sp.FaM (Sp.MemoOk qs.xs lo hi) fun ys => Pre (Sp.ApOk s seat ps (Sp.nthD qs.xs lo hi (qs.xs.length) Zk (Sp.v0 ws.xs) (z_1.tmod many)) /\ seat <= 65536) (Vif (Sp.apP ps (Sp.nthD qs.xs lo hi (qs.xs.length) Zk (Sp.v0 ws.xs) (z_1.tmod many)) s seat c) (Need (decide ((ps.length + [[Cl.l (Sp.nthD qs.xs lo hi (qs.xs.length) Zk (Sp.v0 ws.xs) (z_1.tmod many))]].length) * 24 <= 140737488355328)) (K 0 [.i many, .ro _ nums, .i z, .i j, .i r, .i s, .i c, .ro _ qs, .ro _ ws, .i lo, .i hi, .l w, .l ys, .l (ps ++ [[Cl.l (Sp.nthD qs.xs lo hi (qs.xs.length) Zk (Sp.v0 ws.xs) (z_1.tmod many))]])])) (Ar .i64 (k + 1) fun z_2 => A [.i many, .i seat, .i n, .ro _ nums, .i z, .i j, .i m2, .i z_2, .i r, .i s, .i c, .ro _ qs, .ro _ ws, .i lo, .i hi, .l w, .l ys, .l ps]))))) (K (0+1) [])
theorem Xid (W : InW) (many seat n nums z j m2 k r s c qs ws lo hi w xs ps A K) : Yff { cxT Try.prog TT T52 1000 50 with fn := 30 } 1000 (Yob Try.prog 30 14) (Yd6 65 [(4, .ptr 13 0), (6, .rw 15), (8, .ptr 4 0), (9, .si .i64 many), (10, .si .i64 seat), (11, .si .i64 n), (35, .rs _ nums), (36, .si .i64 z), (37, .si .i64 j), (42, .si .i64 m2), (43, .si .i64 k)] ([12, 13] ++ rg 44 19)) [(13, .blk 44 [.si .i64 r, .si .i64 s, .si .i64 c]), (4, .blk 82 [.rs _ qs, .rs _ ws, .si .i64 lo, .si .i64 hi, .rw 7, .mp 10]), (7, .arr 3 Jb w), (10, .obj (.mpP xs)), (15, .nst 23 [.sl Jb] ps)] (Yut Xfv A K) = Xe4 many seat n nums z j m2 k r s c qs ws lo hi w xs ps A K := by kernel_rfl
def Xeq : Prop := ∀ (W : InW) (body a : Code), (Try.prog.funcs[30]?).bind (·.body) = some body -> a ∈ Yy body -> Yf0 a = 14 -> @Yms W Try.prog a (@Ytz W Xfv)
theorem Xiu (meas : [InW] -> List Ed -> Nat) (hyp_ : ∀ (W : InW) many seat n nums z j m2 k r s c qs ws lo hi w xs ps K, Xff [.i many, .i seat, .i n, .ro _ nums, .i z, .i j, .i m2, .i k, .i r, .i s, .i c, .ro _ qs, .ro _ ws, .i lo, .i hi, .l w, .l xs, .l ps] K -> ∀ A : List Ed -> Prop, (∀ e, meas e < meas [.i many, .i seat, .i n, .ro _ nums, .i z, .i j, .i m2, .i k, .i r, .i s, .i c, .ro _ qs, .ro _ ws, .i lo, .i hi, .l w, .l xs, .l ps] -> Xff e K -> A e) -> Xe4 many seat n nums z j m2 k r s c qs ws lo hi w xs ps A K) : Xeq :=
 LE.okOf' (fun W => @TT W) (fun W => @Xc W) Xa T52 1000 50 (by kernel_rfl) Xfv (fun W => @meas W) fun W many seat n nums z j m2 k r s c qs ws lo hi w xs ps K hs =>
  (Xid W many seat n nums z j m2 k r s c qs ws lo hi w xs ps (fun e => meas e < meas [.i many, .i seat, .i n, .ro _ nums, .i z, .i j, .i m2, .i k, .i r, .i s, .i c, .ro _ qs, .ro _ ws, .i lo, .i hi, .l w, .l xs, .l ps] /\ Xff e K) K).mpr (hyp_ W many seat n nums z j m2 k r s c qs ws lo hi w xs ps K hs _ fun e h1 h2 => ⟨h1, h2⟩)
theorem okLpk : Xeq := Xiu (fun e => match e with | [.i many, _, _, _, _, _, _, .i k, _, _, _, _, _, _, _, _, _, _] => (many - k).toNat | _ => 0) fun W many seat n nums z j m2 k r S c qs ws lo hi w xs ps K hs A hA => by
 obtain ⟨⟨bv, bk, mo, ro, hm, h2, s1, s6, t0, t1, hl, n0, n1, k0, k1⟩, hk⟩ := hs;unfold Xe4;delta Zk;have hlp := Sp.length_papD qs.xs ws.xs lo hi;have hn1 := ro.n1;have hn2 := ro.n2;have hlm : ((Sp.papD qs.xs ws.xs lo hi).length : Int) = many := by omega
 by_cases hi' : k < m2
 ·have lt : (many - (k + 1)).toNat < (many - k).toNat := by omega
  have ht := Sp.tmod_in (n := n + k) (m := (Sp.papD qs.xs ws.xs lo hi).length) (by omega) hn1;rw [hlm] at ht;have ep : (cel (Sp.papD qs.xs ws.xs lo hi) ((n + k).tmod many).toNat 0).lst = Sp.nthD qs.xs lo hi qs.xs.length 0 (Sp.v0 ws.xs) ((n + k).tmod many) := Sp.cel_papD (by omega);have ek : Sp.pickP (Sp.papD qs.xs ws.xs lo hi) n k.toNat = Sp.nthD qs.xs lo hi qs.xs.length 0 (Sp.v0 ws.xs) ((n + k).tmod many) := by
   unfold Sp.pickP;rw [Int.toNat_of_nonneg k0, hlm, ep]
  have hnd := ro.nod ((n + k).tmod many).toNat (by omega);rw [ep] at hnd;have hct : Sp.cnt qs.xs lo hi qs.xs.length 0 (Sp.v0 ws.xs) = many := hm.symm;unfold Sp.fitB Sp.fitR at hk;rw [show (Sp.papD qs.xs ws.xs lo hi).length - k.toNat = ((Sp.papD qs.xs ws.xs lo hi).length - (k + 1).toNat) + 1 by omega] at hk;obtain ⟨g1, g2⟩ := Xef (K1 := fun q => Sp.FaM (Sp.MemoOk qs.xs lo hi) fun ys => K 0 [.i many, .ro _ nums, .i z, .i j, .i r, .i S, .i c, .ro _ qs, .ro _ ws, .i lo, .i hi, .l w, .l ys, .l (ps ++ [[.l (Sp.pickP (Sp.papD qs.xs ws.xs lo hi) n q)]])]) hk;rw [show k.toNat + 1 = (k + 1).toNat by omega] at g2;simp only [ek] at g1;rw [show Sp.fitF (Sp.papD qs.xs ws.xs lo hi) ps S c seat n k.toNat = Sp.apP ps (Sp.nthD qs.xs lo hi qs.xs.length 0 (Sp.v0 ws.xs) ((n + k).tmod many)) S seat c by unfold Sp.fitF; rw [ek]] at g1 g2;refine vifd (fun _ => ?_) (fun h => absurd hi' h);refine ar64 (by omega) (ned (by rw [decide_eq_false (by omega)]; rfl) ⟨⟨bk, bv.st, mo, by omega, by omega⟩, ⟨fun ys hy => ⟨⟨⟨s1, s6, t0, by omega, hnd⟩, by omega⟩, vif (fun e => ?_) (fun e => ?_)⟩⟩⟩)
  ·obtain ⟨g1⟩ := g1 e;exact nedd (by simp; omega) (g1 ys hy)
  ·exact ar64 (by omega) (hA _ lt ⟨⟨bv, bk, hy, ro, hm, h2, s1, s6, t0, t1, hl, n0, n1, by omega, by omega⟩, g2 e⟩)
 ·refine vifd (fun h => absurd h hi') (fun _ => ?_);unfold Sp.fitB at hk;rw [show (Sp.papD qs.xs ws.xs lo hi).length - k.toNat = 0 by omega] at hk;exact hk.2 rfl
noncomputable def le_pk : LE Try.prog := ⟨30, 14, fun W => @Ytz W Xfv, okLpk⟩
noncomputable def T53 : Tab Try.prog := ⟨[], [le_pk], []⟩
def Xfg [InW] (e : List Ed) (K : Nat -> List Ed -> Prop) : Prop := match e with
  | [.i many, .ro _ nums, .i z, .i j, .i r, .i S, .i c, .ro _ qs, .ro _ ws, .i lo, .i hi, .l w, .l xs, .l ps] => Pre (Sp.BankV qs.xs ws.xs lo hi /\ Sp.BkOk qs.xs ws.xs lo hi w /\ Sp.MemoOk qs.xs lo hi xs /\ Sp.RsOk (Sp.papD qs.xs ws.xs lo hi) /\ Sp.NuOk nums.xs /\ many = Sp.total qs.xs ws.xs lo hi /\ 1 <= S /\ S <= 6 /\ z = nums.xs.length /\ 0 <= j /\ j <= z /\ ps.length = j)
     (Vif (Sp.drw (Sp.papD qs.xs ws.xs lo hi) nums.xs S c j.toNat (nums.xs.length - j.toNat) ps).ok (K 0 [.l (Sp.drw (Sp.papD qs.xs ws.xs lo hi) nums.xs S c j.toNat (nums.xs.length - j.toNat) ps).ps]) (K 1 []))
  | _ => False
noncomputable def Xfw : LC where
 len := 65
 T := [(4, (.ptr 13 0)), (6, (.row 15)), (8, (.ptr 4 0)), (9, .int .i64), (35, .rs Jb), (36, .int .i64), (37, .int .i64)]
 H := [(13, .blk 44 [.int .i64, .int .i64, .int .i64]), (4, .blk 82 [.rs Ja, .rs Jb, .int .i64, .int .i64, (.row 7), (.mp 10)]), (7, .arr 3 Jb), (10, .mpP), (15, .nst 23 [.sl Jb])]
 W := ([7] ++ rg 10 4 ++ rg 38 26)
 outs := [⟨.exit 1, [(6, (.row 6))], [(6, .nst 23 [.sl Jb])], ([4] ++ rg 7 7 ++ rg 35 29)⟩, ⟨.ret, [(6, (.lit (.slice none 0 0))), (7, (.lit (.int .i64 9)))], [], ([4] ++ rg 8 6 ++ rg 35 29)⟩]
 spec := Xfg
def Xe5 [W : InW] (many : Int) (nums : Ro Jb) (z j r s c : Int) (qs : Ro Ja) (ws : Ro Jb) (lo hi : Int) (w xs ps : Dt) (A : List Ed -> Prop) (K : Nat -> List Ed -> Prop) : Prop :=
 Vif (decide (j < z)) (Need (decide (0 <= j) && decide (j < (↑(nums.xs.length) : Int))) (Need (decide (j.toNat < nums.xs.length)) (Pre (Sp.BankV qs.xs ws.xs lo hi /\ Sp.BkOk qs.xs ws.xs lo hi w /\ Sp.MemoOk qs.xs lo hi xs /\ Sp.RsOk (Sp.papD qs.xs ws.xs lo hi) /\ many = Sp.total qs.xs ws.xs lo hi /\ many = many /\ 1 <= s /\ s <= 6 /\ 0 <= j /\ j <= 30 /\ (↑(ps.length) : Int) = j /\ (0 : Int) <= (cel nums.xs j.toNat Zbc).int /\ (cel nums.xs j.toNat Zbc).int <= 1000000000 /\ (0 : Int) <= 0 /\ 0 <= many) (Vif (Sp.fitB (Sp.papD qs.xs ws.xs lo hi) ps s c j (cel nums.xs j.toNat Zbc).int Zi) (Sp.FaM (Sp.MemoOk qs.xs lo hi) fun ys => Ar .i64 (j + 1) fun z_1 => A [.i many, .ro _ nums, .i z, .i z_1, .i r, .i s, .i c, .ro _ qs, .ro _ ws, .i lo, .i hi, .l w, .l ys, .l (Sp.fitR (Sp.papD qs.xs ws.xs lo hi) ps s c j (cel nums.xs j.toNat Zbc).int Zi)]) (K (0+1) []))))) (K 0 [.l ps])
theorem Xie (W : InW) (many nums z j r s c qs ws lo hi w xs ps A K) : Yff { cxT Try.prog TT T53 1000 50 with fn := 30 } 1000 (Yob Try.prog 30 11) (Yd6 65 [(4, .ptr 13 0), (6, .rw 15), (8, .ptr 4 0), (9, .si .i64 many), (35, .rs _ nums), (36, .si .i64 z), (37, .si .i64 j)] ([7] ++ rg 10 4 ++ rg 38 26)) [(13, .blk 44 [.si .i64 r, .si .i64 s, .si .i64 c]), (4, .blk 82 [.rs _ qs, .rs _ ws, .si .i64 lo, .si .i64 hi, .rw 7, .mp 10]), (7, .arr 3 Jb w), (10, .obj (.mpP xs)), (15, .nst 23 [.sl Jb] ps)] (Yut Xfw A K) = Xe5 many nums z j r s c qs ws lo hi w xs ps A K := by kernel_rfl
def Xer : Prop := ∀ (W : InW) (body a : Code), (Try.prog.funcs[30]?).bind (·.body) = some body -> a ∈ Yy body -> Yf0 a = 11 -> @Yms W Try.prog a (@Ytz W Xfw)
theorem Xiv (meas : [InW] -> List Ed -> Nat) (hyp_ : ∀ (W : InW) many nums z j r s c qs ws lo hi w xs ps K, Xfg [.i many, .ro _ nums, .i z, .i j, .i r, .i s, .i c, .ro _ qs, .ro _ ws, .i lo, .i hi, .l w, .l xs, .l ps] K -> ∀ A : List Ed -> Prop, (∀ e, meas e < meas [.i many, .ro _ nums, .i z, .i j, .i r, .i s, .i c, .ro _ qs, .ro _ ws, .i lo, .i hi, .l w, .l xs, .l ps] -> Xfg e K -> A e) -> Xe5 many nums z j r s c qs ws lo hi w xs ps A K) : Xer :=
 LE.okOf' (fun W => @TT W) (fun W => @Xc W) Xa T53 1000 50 (by kernel_rfl) Xfw (fun W => @meas W) fun W many nums z j r s c qs ws lo hi w xs ps K hs =>
  (Xie W many nums z j r s c qs ws lo hi w xs ps (fun e => meas e < meas [.i many, .ro _ nums, .i z, .i j, .i r, .i s, .i c, .ro _ qs, .ro _ ws, .i lo, .i hi, .l w, .l xs, .l ps] /\ Xfg e K) K).mpr (hyp_ W many nums z j r s c qs ws lo hi w xs ps K hs _ fun e h1 h2 => ⟨h1, h2⟩)
theorem okLpd : Xer := Xiv (fun e => match e with | _ :: _ :: .i z :: .i j :: _ => (z - j).toNat | _ => 0) fun W many nums z j r S c qs ws lo hi w xs ps K hs A hA => by
 obtain ⟨⟨bv, bk, mo, ro, nu, hm, s1, s6, hz, h0, h1, hl⟩, hk⟩ := hs;unfold Xe5;delta Zi Zk Zbc;have hf := nu.few;have hn1 := ro.n1;have hlp := Sp.length_papD qs.xs ws.xs lo hi
 by_cases hi' : j < z
 ·have lt : (z - (j + 1)).toNat < (z - j).toNat := by omega
  have hn := nu.ok j.toNat (by omega);rw [show nums.xs.length - j.toNat = (nums.xs.length - (j + 1).toNat) + 1 by omega] at hk;simp only [Sp.drw, Int.toNat_of_nonneg h0, show j.toNat + 1 = (j + 1).toNat by omega] at hk;refine vifd (fun _ => ?_) (fun h => absurd hi' h);refine ned (by simp; omega) (nedd (by omega) ⟨⟨bv, bk, mo, ro, hm, rfl, s1, s6, h0, by omega, hl, hn.1, hn.2, by omega, by omega⟩, vif (fun e => ⟨fun ys hy => ?_⟩) (fun e => ?_)⟩)
  ·rw [if_pos (show Sp.fitB (Sp.papD qs.xs ws.xs lo hi) ps S c j (cel nums.xs j.toNat 0).int 0 = true from e)] at hk;refine ar64 (by omega) (hA _ lt ⟨⟨bv, bk, hy, ro, nu, hm, s1, s6, hz, by omega, by omega, ?_⟩, hk⟩);unfold Sp.fitR;rw [List.length_append]; simp; omega
  ·rw [if_neg (Bool.eq_false_iff.1 (show Sp.fitB (Sp.papD qs.xs ws.xs lo hi) ps S c j (cel nums.xs j.toNat 0).int 0 = false from e))] at hk;exact hk.2 rfl
 ·refine vifd (fun h => absurd h hi') (fun _ => ?_);rw [show nums.xs.length - j.toNat = 0 by omega] at hk;exact hk.1 rfl
noncomputable def le_pd : LE Try.prog := ⟨30, 11, fun W => @Ytz W Xfw, okLpd⟩
noncomputable def T54 : Tab Try.prog := ⟨[Xh], [le_pd], [ceOf Xo Xgd, ceOf Xe Xr, ceOf (Xf 17) (Xi 17)]⟩
def Zbn [W : InW] (nums : Ro Jb) := (↑(nums.xs.length) : Int)
def Xbl [W : InW] (kQ : Ro Ja) (k_Ws : Ro Jb) (k_Lo k_Hi h_Rows h_Seats h_Com : Int) (nums : Ro Jb) (Q : DS -> Prop) : Prop :=
 Vif (decide (Sp.hallE kQ.xs k_Ws.xs k_Lo k_Hi h_Rows h_Seats h_Com (Zbn nums) = 0)) (Pre True (Vif (Sp.out Zk (1000000000 : Int) nums.xs) (Q [[Cl.l []], [Cl.i 7]]) (Pre (Sp.BkOk kQ.xs k_Ws.xs k_Lo k_Hi (Sp.wts kQ.xs (kQ.xs.length)) /\ Sp.StOk kQ.xs Zk Zk { a := (cel k_Ws.xs Zbc Zbc).int, b := (cel k_Ws.xs (1 : Nat) Zbc).int, c := (cel k_Ws.xs (2 : Nat) Zbc).int, d := (cel k_Ws.xs (3 : Nat) Zbc).int } /\ Sp.MemoOk kQ.xs k_Lo k_Hi [] /\ kQ.xs.length - Int.toNat Zk < 17) (Sp.FaM (Sp.MemoOk kQ.xs k_Lo k_Hi) fun ys => Vif (decide (Sp.cnt kQ.xs k_Lo k_Hi (kQ.xs.length - Int.toNat Zk) Zk { a := (cel k_Ws.xs Zbc Zbc).int, b := (cel k_Ws.xs (1 : Nat) Zbc).int, c := (cel k_Ws.xs (2 : Nat) Zbc).int, d := (cel k_Ws.xs (3 : Nat) Zbc).int } = Zk)) (Q [[Cl.l []], [Cl.i 4]]) (Pre (Sp.BankV kQ.xs k_Ws.xs k_Lo k_Hi /\ Sp.BkOk kQ.xs k_Ws.xs k_Lo k_Hi (Sp.wts kQ.xs (kQ.xs.length)) /\ Sp.MemoOk kQ.xs k_Lo k_Hi ys /\ Sp.RsOk (Sp.papD kQ.xs k_Ws.xs k_Lo k_Hi) /\ Sp.NuOk nums.xs /\ Sp.cnt kQ.xs k_Lo k_Hi (kQ.xs.length - Int.toNat Zk) Zk { a := (cel k_Ws.xs Zbc Zbc).int, b := (cel k_Ws.xs (1 : Nat) Zbc).int, c := (cel k_Ws.xs (2 : Nat) Zbc).int, d := (cel k_Ws.xs (3 : Nat) Zbc).int } = Sp.total kQ.xs k_Ws.xs k_Lo k_Hi /\ 1 <= h_Seats /\ h_Seats <= 6 /\ (Zbn nums) = (Zbn nums) /\ Zk <= 0 /\ Zk <= (Zbn nums) /\ (↑Zbc : Int) = 0) (Vif (Sp.drw (Sp.papD kQ.xs k_Ws.xs k_Lo k_Hi) nums.xs h_Seats h_Com Zl (nums.xs.length - Int.toNat Zk) []).ok (Q [[Cl.l (Sp.drw (Sp.papD kQ.xs k_Ws.xs k_Lo k_Hi) nums.xs h_Seats h_Com Zl (nums.xs.length - Int.toNat Zk) []).ps], [Cl.i 0]]) (Q [[Cl.l []], [Cl.i 9]]))))))) (Vif (!decide (Sp.hallE kQ.xs k_Ws.xs k_Lo k_Hi h_Rows h_Seats h_Com (Zbn nums) = 0)) (Q [[Cl.l []], [Cl.i (Sp.hallE kQ.xs k_Ws.xs k_Lo k_Hi h_Rows h_Seats h_Com (Zbn nums))]]) (Pre True (Vif (Sp.out Zk (1000000000 : Int) nums.xs) (Q [[Cl.l []], [Cl.i 7]]) ((16 : Nat) = 16 + 1))))
theorem Xfc (W : InW) (kQ k_Ws k_Lo k_Hi h_Rows h_Seats h_Com nums Q) : Yw5 (cxT Try.prog TT T54 1000 50) 1000 30 [.agg [.rs _ kQ, .rs _ k_Ws, .si .i64 k_Lo, .si .i64 k_Hi], .agg [.si .i64 h_Rows, .si .i64 h_Seats, .si .i64 h_Com], .rs _ nums] [] 0 (Y1i [(false, [.nst 23 [.sl Jb]]), (false, [.int .i64])] Q) (fun _ _ _ _ => Stuck 421) = Xbl kQ k_Ws k_Lo k_Hi h_Rows h_Seats h_Com nums Q := by kernel_rfl
abbrev X0 : List AT := [.agg [.sl Ja, .sl Jb, .int .i64, .int .i64], .agg [.int .i64, .int .i64, .int .i64], .one (.sl Jb)]
theorem Xfs {pre : DS -> Prop} {res : DS -> DS} (hyp_ : ∀ (W : InW) (kQ : Ro Ja) (k_Ws : Ro Jb) (k_Lo k_Hi h_Rows h_Seats h_Com : Int) (nums : Ro Jb), pre [[.l kQ.xs, .l k_Ws.xs, .i k_Lo, .i k_Hi], [.i h_Rows, .i h_Seats, .i h_Com], [.l nums.xs]] -> ∀ Q : DS -> Prop, Q (res [[.l kQ.xs, .l k_Ws.xs, .i k_Lo, .i k_Hi], [.i h_Rows, .i h_Seats, .i h_Com], [.l nums.xs]]) -> Xbl kQ k_Ws k_Lo k_Hi h_Rows h_Seats h_Com nums Q) : PureOk Try.prog 30 X0 [(false, [.nst 23 [.sl Jb]]), (false, [.int .i64])] pre res :=
 PureOk.of' (fun W => @TT W) (fun W => @Xc W) Xa T54 1000 50 fun W kQ k_Ws k_Lo k_Hi h_Rows h_Seats h_Com nums hp =>
  (Xfc W kQ k_Ws k_Lo k_Hi h_Rows h_Seats h_Com nums (fun o => o = res [[.l kQ.xs, .l k_Ws.xs, .i k_Lo, .i k_Hi], [.i h_Rows, .i h_Seats, .i h_Com], [.l nums.xs]])).mpr (hyp_ W kQ k_Ws k_Lo k_Hi h_Rows h_Seats h_Com nums hp _ rfl)
theorem Xhd : PureOk Try.prog 30 X0 [(false, [.nst 23 [.sl Jb]]), (false, [.int .i64])] (fun _ => True) Xba :=
 Xfs fun W qs ws lo hi r S c nums hp Q h => by
  unfold Xbl;delta Zl Zk Zbn Zbc;simp only [Xba] at h;refine vifd (fun e => ?_) (fun e => vifn (fun _ => ?_) (fun e2 => absurd e2 e))
  ·obtain ⟨bv, ho⟩ := Sp.hallE_iff.1 e;have hl := Sp.length_papD qs.xs ws.xs lo hi;have hf := ho.few;have hn := bv.n2;refine ⟨trivial, vif (fun f => ?_) (fun f => ⟨⟨bv.bk, bv.st, Sp.memo_nil, by omega⟩, ⟨fun ys hy => ?_⟩⟩)⟩
   ·have hE : Sp.drawE qs.xs ws.xs lo hi r S c nums.xs = 7 := by unfold Sp.drawE; rw [if_pos e, if_pos f]
    rw [Sp.drawL_no (by rw [hE]; decide), hE] at h;exact h
   ·have nu := Sp.nu_ok f (by omega);have f2 := Bool.eq_false_iff.1 f
    change Vif (decide (Sp.total qs.xs ws.xs lo hi = 0)) _ _
    refine vifd (fun g => ?_) (fun g => ⟨⟨bv, bv.bk, hy, Sp.rs_ok bv g, nu, rfl, ho.s1, ho.s6, rfl, by omega, by omega, rfl⟩, vif (fun d => ?_) (fun d => ?_)⟩)
    ·have hE : Sp.drawE qs.xs ws.xs lo hi r S c nums.xs = 4 := by unfold Sp.drawE; rw [if_pos e, if_neg f2, if_pos g]
     rw [Sp.drawL_no (by rw [hE]; decide), hE] at h; exact h
    ·have hE : Sp.drawE qs.xs ws.xs lo hi r S c nums.xs = 0 := by unfold Sp.drawE; rw [if_pos e, if_neg f2, if_neg g]; exact if_pos d
     rw [Sp.drawL_ok hE, hE] at h; exact h
    ·have hE : Sp.drawE qs.xs ws.xs lo hi r S c nums.xs = 9 := by unfold Sp.drawE; rw [if_pos e, if_neg f2, if_neg g]; exact if_neg (Bool.eq_false_iff.1 d)
     rw [Sp.drawL_no (by rw [hE]; decide), hE] at h; exact h
  ·have hE : Sp.drawE qs.xs ws.xs lo hi r S c nums.xs = Sp.hallE qs.xs ws.xs lo hi r S c nums.xs.length := by unfold Sp.drawE; rw [if_neg e]
   rw [Sp.drawL_no (by rw [hE]; exact e), hE] at h;exact h
noncomputable def Xfl : PC Try.prog := ⟨30, X0, [(false, [.nst 23 [.sl Jb]]), (false, [.int .i64])], fun _ => True, Xba, Xhd⟩
end Go.Proofs.Ytilnbgpogfabaaa
