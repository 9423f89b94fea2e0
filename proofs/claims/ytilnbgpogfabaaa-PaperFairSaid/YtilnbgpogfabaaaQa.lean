/-
  A machine over abstract states, proved sound: the help of the proof of a law.
-/
import Derived.WalkKit
import Derived.Outline
import Derived.Lib.Hide
import Derived.Deep.LoopGhost
import Derived.Shelf.AbstractIn
import Derived.WalkLawsBesides
import Derived.WalkSpells
import Derived.Deep.QuietTactic
import Derived.BigQuiet
import Derived.Deep.RegionWith
import Derived.StillTailTactics
import Derived.Deep.RegionHeld3
import Derived.Deep.DeepCutAuto
import Derived.OrdersHeld
import Derived.Below
import Derived.Tactics
import Derived.OneCell
import Derived.Maps.AppendAt
import Derived.ArgAppend
import Derived.Deep.Upon
import Derived.LoopN
import Derived.Scope
import Derived.MapKept
import Derived.ChangeKeysEq
set_option linter.unusedVariables false
set_option linter.unusedSectionVars false
set_option linter.unusedSimpArgs false
namespace Go.Proofs.Ytilnbgpogfabaaa
open Go.RowKit
def Rows' (w : World) (B sz : Nat) (v : Value) (rows : List (List Value)) : Prop :=
 ∃ A c, v = .slice A rows.length c /\ rows.length <= c /\ rows.length <= 9223372036854775807 /\
  (rows ≠ [] -> ∃ b off, A = some ⟨b, off, none⟩ /\ b < B /\
   ∀ k r, rows[k]? = some r -> ∀ j u, r[j]? = some u -> w.cell? ⟨b, off + k * sz + j, none⟩ = some u)
theorem Rows'.below {w w' : World} {B sz : Nat} {v : Value} {rows : List (List Value)} (h : Rows' w B sz v rows) (hb : Below B w w') : Rows' w' B sz v rows := by
 obtain ⟨A, c, rfl, hc, hm, h⟩ := h;refine ⟨A, c, rfl, hc, hm, fun hn => ?_⟩;obtain ⟨b, off, rfl, hlt, h⟩ := h hn;exact ⟨b, off, rfl, hlt, fun k r hk j u hj => (hb.cell (p := ⟨b, off + k * sz + j, none⟩) hlt).trans (h k r hk j u hj)⟩
theorem Rows'.more {w : World} {B B' sz : Nat} {v : Value} {rows : List (List Value)} (h : Rows' w B sz v rows) (hb : B <= B') : Rows' w B' sz v rows := by
 obtain ⟨A, c, rfl, hc, hm, h⟩ := h;refine ⟨A, c, rfl, hc, hm, fun hn => ?_⟩;obtain ⟨b, off, rfl, hlt, h⟩ := h hn;exact ⟨b, off, rfl, by omega, h⟩
def Ones (w : World) (B : Nat) (v : Value) (xs : List Value) : Prop := Rows' w B 1 v (xs.map fun x => [x])
theorem Rows'.at_ {w : World} {B sz : Nat} {v : Value} {rows : List (List Value)} (h : Rows' w B sz v rows) {k : Nat} (hk : k < rows.length) :
  ∃ b off c, v = .slice (some ⟨b, off, none⟩) rows.length c /\ rows.length <= c /\ b < B /\ ∀ j u, rows[k][j]? = some u -> w.cell? ⟨b, off + k * sz + j, none⟩ = some u := by
 obtain ⟨A, c, rfl, hc, hm, h⟩ := h;obtain ⟨b, off, rfl, hlt, h⟩ := h (fun e => by subst e; simp at hk);exact ⟨b, off, c, rfl, hc, hlt, fun j u hj => h k _ (List.getElem?_eq_getElem hk) j u hj⟩
theorem Ones.at_ {w : World} {B : Nat} {v : Value} {xs : List Value} (h : Ones w B v xs) {k : Nat} (hk : k < xs.length) :
  ∃ b off c, v = .slice (some ⟨b, off, none⟩) xs.length c /\ xs.length <= c /\ b < B /\ w.cell? ⟨b, off + k, none⟩ = some xs[k] := by
 obtain ⟨b, off, c, rfl, hc, hlt, h⟩ := Rows'.at_ (k := k) h (by simpa using hk);refine ⟨b, off, c, by simp, by simpa using hc, hlt, ?_⟩;have := h 0 xs[k] (by simp);simpa using this
theorem Rows'.take {w : World} {B sz n c : Nat} {A : Option Addr} {rows : List (List Value)} (h : Rows' w B sz (.slice A n c) rows) {k : Nat} (hk : k <= rows.length) :
  Rows' w B sz (.slice A k c) (rows.take k) := by
 obtain ⟨A', c', e, hc, hm, h⟩ := h;cases e;have hl : (rows.take k).length = k := by simp; omega
 refine ⟨A, c, by rw [hl], by omega, by omega, fun hn => ?_⟩;obtain ⟨b, off, rfl, hlt, h⟩ := h (fun e => by subst e; simp at hn);refine ⟨b, off, rfl, hlt, fun i r hi j u hj => h i r ?_ j u hj⟩;rw [List.getElem?_take] at hi
 by_cases hik : i < k
 ·rwa [if_pos hik] at hi
 ·rw [if_neg hik] at hi; cases hi
theorem Ones.below {w w' : World} {B : Nat} {v : Value} {xs : List Value} (h : Ones w B v xs) (hb : Below B w w') : Ones w' B v xs := Rows'.below h hb
section
variable {P : Program} {ops : Array Oper} {Q : Exit -> Act -> World -> Prop} {n : Nat} {w0 : World}
def Ext (w w' : World) : Prop := Below w.heap.size w w'
theorem Ext.refl (w : World) : Ext w w := Below.refl _ _
theorem Ext.trans {a b c : World} (h : Ext a b) (k : Ext b c) : Ext a c := Below.trans h (Below.mono k (Below.size h))
theorem Below.ext {a b : World} (h : Below n w0 a) (hn : n <= a.heap.size) (k : Ext a b) : Below n w0 b := Below.trans h (Below.mono k hn)
def Yields1 (P : Program) (v : Value) (w1 : World) : Result Next -> Prop
 | .ok (.value u) w2 => u = v /\ Ext w1 w2
 | .ok .skip w2 => v = undef /\ Ext w1 w2
 | .ok (.enter f args) w2 => Calls P f args w2 fun e w3 => e = .returned v /\ Ext w1 w3
 | .ok (.row row args) w2 => Rows P row args w2 fun u w3 => u = v /\ Ext w1 w3
 | _ => False
theorem Yields1.upon {o : Oper} {v : Value} {w1 : World} {a : Act} {r : Result Next} (h : Yields1 P v w1 r) {K : Act -> World -> Prop} (hK : ∀ w2, Ext w1 w2 -> K (a.put o.dst v) w2) : o.upon P a K Q r := by
 cases r with
 | ok x w2 =>
  cases x <;> simp only [Yields1] at h
  case value u => obtain ⟨rfl, hb⟩ := h; exact hK _ hb
  case skip => obtain ⟨rfl, hb⟩ := h; exact hK _ hb
  case enter f args => exact Calls.mono h fun e w3 ⟨he, hb⟩ => by subst he; exact hK _ hb
  case row row args => exact Rows.mono h fun u w3 ⟨he, hb⟩ => by subst he; exact hK _ hb
 | halt x w2 => exact h.elim
def Taken (P : Program) (ops : Array Oper) (n : Nat) (w0 : World) (o : Oper) (v : Value) (a : Act) : Prop :=
 (Region.wanted o (yielded ops a.tmps) = true /\ ∀ w1, Below n w0 w1 -> n <= w1.heap.size -> Yields1 P v w1 ((execOp a.eval o).run P w1)) \/ (Region.wanted o (yielded ops a.tmps) = false /\ v = undef)
theorem Taken.wpOp {i : Nat} {o : Oper} {v : Value} {a : Act} (hi : ops[i]? = some o) (hy : Taken P ops n w0 o v a)
  {K : Act -> World -> Prop} {w : World} (hS : Below n w0 w) (hn : n <= w.heap.size) (h : ∀ w2, Ext w w2 -> K (a.put o.dst v) w2) : wpOp P ops Q i K a w := by
 unfold Go.wpOp;simp only [hi];rcases hy with ⟨hw, hv⟩ | ⟨hw, rfl⟩
 ·simp only [hw, if_true, Oper.wp]; exact .inl ((hv w hS hn).upon h)
 ·simp only [hw, Bool.false_eq_true, if_false]; exact h w (Ext.refl w)
def Y0g (ops : Array Oper) (j : Nat) : Bool :=
 match ops[j]? with
 | none => false
 | some oj => (List.range ops.size).all fun k => k == j || oj.after.any fun e => Region.binds .any e && e.on == k
def wpX (P : Program) (ops : Array Oper) (Q : Exit -> Act -> World -> Prop) (n : Nat) (w0 : World) : Nat -> Array Bool -> Act -> World -> Prop
 | 0, listed, a, w => ∀ w1, Ext w w1 -> Region.ready .any ops listed = [] /\ Q .normal a w1
 | fuel + 1, listed, a, w => ∀ w1, Ext w w1 -> (Region.ready .any ops listed = [] -> Q .normal a w1) /\
  ∀ i ∈ Region.ready .any ops listed, wpOp P ops Q i (fun a' w' => ((Below n w0 w' /\ n <= w'.heap.size) \/ Y0g ops i = true) /\ wpX P ops Q n w0 fuel (listed.setIfInBounds i true) a' w') a w1
theorem wpX.ext {fuel : Nat} {listed : Array Bool} {a : Act} {w w1 : World} (h : wpX P ops Q n w0 fuel listed a w) (he : Ext w w1) : wpX P ops Q n w0 fuel listed a w1 := by
 cases fuel with
 | zero => exact fun w2 h2 => h w2 (he.trans h2)
 | succ f => exact fun w2 h2 => h w2 (he.trans h2)
end
theorem Ym (b off j : Nat) : (⟨b, off, none⟩ : Addr).add j = ⟨b, off + j, none⟩ := by unfold Addr.add; split <;> simp_all
theorem Yip {w : World} {g k : Nat} {cs : Array Value} {e : TypeId} {v : Value} (h : w.heap[g]? = some (.cells cs e (0, 0))) (hv : cs[k]? = some v) : w.cell? ⟨g, k, none⟩ = some v := by
 rw [cell_of_row w g k cs e (0, 0) h]; exact hv
theorem Yq1 {w : World} {g : Nat} {cs : Array Value} {e : TypeId} (h : w.heap[g]? = some (.cells cs e (0, 0))) (k : Nat) : w.frozen? ⟨g, k, none⟩ = false := by
 simp [World.frozen?, h]
theorem Yhj {w : World} {g k : Nat} {cs : Array Value} {e : TypeId} {v : Value} (h : w.heap[g]? = some (.cells cs e (0, 0))) : (w.setCell ⟨g, k, none⟩ v).heap[g]? = some (.cells (cs.setIfInBounds k v) e (0, 0)) := by
 simp [World.setCell, Array.getElem?_modify, h]
theorem Yhi {w : World} {p : Addr} {v : Value} {g : Nat} (h : g ≠ p.block) : (w.setCell p v).heap[g]? = w.heap[g]? := Below.heap_setCell w p v g h
theorem Yju (w : World) (p : Addr) (v : Value) : (w.setCell p v).heap.size = w.heap.size := by simp [World.setCell]
inductive Res where
 | blk (b : Nat) (o : Obj)
 | row (v : Value) (e : TypeId) (sz n : Nat) (xs : List Value)
 | abs (own : List Nat) (fz : Nat -> Prop) (p : World -> Prop)
def Res.foot : Res -> List Nat
 | .blk b _ => [b]
 | .row v .. => v.ownBlock.toList
 | .abs own _ _ => own
def Res.frz : Res -> Nat -> Prop
 | .abs _ fz _ => fz
 | _ => fun _ => False
def Res.holds (w : World) : Res -> Prop
 | .blk b o => w.heap[b]? = some o
 | .row v e sz n xs => w.ownsRow 0 e sz v n xs
 | .abs own fz p => (∀ b, b ∈ own \/ fz b -> b < w.heap.size) /\ (∀ b ∈ own, ¬ fz b) /\ ∀ w' : World, (∀ b, b ∈ own \/ fz b -> w'.heap[b]? = w.heap[b]?) -> p w'
def Res.in_ (r : Res) (b : Nat) : Prop := b ∈ r.foot \/ r.frz b
abbrev RL := List Res
def apart (r r' : Res) : Prop := (∀ b ∈ r.foot, ¬ r'.in_ b) /\ ∀ b ∈ r'.foot, ¬ r.in_ b
theorem apart.symm {r r' : Res} (h : apart r r') : apart r' r := ⟨h.2, h.1⟩
inductive Look : RL -> Res -> Prop
 | head {r : Res} {L : RL} : Look (r :: L) r
 | tail {x r : Res} {L : RL} (h : Look L r) : Look (x :: L) r
inductive Upd : RL -> Res -> Res -> RL -> Prop
 | head {r r' : Res} {L : RL} : Upd (r :: L) r r' (r' :: L)
 | tail {x r r' : Res} {L L' : RL} (h : Upd L r r' L') : Upd (x :: L) r r' (x :: L')
inductive Take : RL -> Res -> RL -> Prop
 | head {r : Res} {L : RL} : Take (r :: L) r L
 | tail {x r : Res} {L L' : RL} (h : Take L r L') : Take (x :: L) r (x :: L')
theorem Look.mem {L : RL} {r : Res} (h : Look L r) : r ∈ L := by
 induction h with
 | head => exact List.mem_cons_self
 | tail _ ih => exact List.mem_cons_of_mem _ ih
theorem Take.perm {L L' : RL} {r : Res} (h : Take L r L') : L.Perm (r :: L') := by
 induction h with
 | head => exact List.Perm.refl _
 | tail _ ih => exact (List.Perm.cons _ ih).trans (List.Perm.swap _ _ _)
theorem Upd.look {L L' : RL} {r r' : Res} (h : Upd L r r' L') : Look L r := by
 induction h with
 | head => exact .head
 | tail _ ih => exact .tail ih
theorem Upd.perm {L L' : RL} {r r' : Res} (h : Upd L r r' L') : ∃ R, L.Perm (r :: R) /\ L'.Perm (r' :: R) := by
 induction h with
 | head => exact ⟨_, List.Perm.refl _, List.Perm.refl _⟩
 | tail _ ih =>
  obtain ⟨R, h1, h2⟩ := ih;exact ⟨_ :: R, (List.Perm.cons _ h1).trans (List.Perm.swap _ _ _), (List.Perm.cons _ h2).trans (List.Perm.swap _ _ _)⟩
theorem Res.lt2 {w : World} {r : Res} (h : r.holds w) : ∀ b, r.in_ b -> b < w.heap.size := by
 intro b hb;cases r with
 | abs own fz p => exact h.1 b hb
 | blk b' o =>
  have hb := hb.resolve_right (fun h => False.elim h);simp only [Res.foot, List.mem_singleton] at hb;subst hb;exact (Array.getElem?_eq_some_iff.1 h).1
 | row v e sz n xs =>
  have hb := hb.resolve_right (fun h => False.elim h);simp only [Res.foot, Option.mem_toList] at hb;exact (World.ownsRow.lt h b hb).2
theorem Res.lt {w : World} {r : Res} (h : r.holds w) : ∀ b ∈ r.foot, b < w.heap.size := fun b hb => Res.lt2 h b (.inl hb)
theorem Res.keep {w w' : World} {r : Res} (h : r.holds w) (hk : ∀ b, r.in_ b -> w'.heap[b]? = w.heap[b]?) : r.holds w' := by
 cases r with
 | abs own fz p =>
  refine ⟨fun b hb => ?_, h.2.1, fun w2 h2 => h.2.2 w2 fun b hb => (h2 b hb).trans (hk b hb)⟩;have h1 := h.1 b hb;have h2 := hk b hb;rcases Nat.lt_or_ge b w'.heap.size with h3 | h3
  ·exact h3
  ·rw [Array.getElem?_eq_none h3, Array.getElem?_eq_getElem h1] at h2; cases h2
 | blk b o => exact (hk b (.inl (by simp [Res.foot]))).trans h
 | row v e sz n xs =>
  refine ⟨h.1, ?_⟩;rcases h.2 with h2 | ⟨g, cap, cur, rfl, hb, hg, r⟩
  ·exact .inl h2
  ·exact .inr ⟨g, cap, cur, rfl, hb, (hk g (.inl (by simp [Res.foot, Value.ownBlock]))).trans hg, r⟩
structure Kept (n : Nat) (M : List Nat) (w w' : World) : Prop where
 os : w'.os = w.os
 tape : w'.tape = w.tape
 output : w'.output = w.output
 size : w.heap.size <= w'.heap.size
 block : ∀ k, k < n -> k ∉ M -> w'.heap[k]? = w.heap[k]?
theorem Kept.below {n : Nat} {w w' : World} (h : Kept n [] w w') : Below n w w' := ⟨h.os, h.tape, h.output, h.size, fun k hk => h.block k hk (by simp)⟩
theorem Kept.of {n : Nat} {M : List Nat} {w w' : World} (h : Below n w w') : Kept n M w w' := ⟨h.os, h.tape, h.output, h.size, fun k hk _ => h.block k hk⟩
theorem Kept.trans {n m : Nat} {M M' : List Nat} {a b c : World} (h : Kept n M a b) (h' : Kept m M' b c) (hn : n <= m) (hM : ∀ k, k < n -> k ∈ M' -> k ∈ M) : Kept n M a c :=
 ⟨h'.os.trans h.os, h'.tape.trans h.tape, h'.output.trans h.output, Nat.le_trans h.size h'.size, fun k hk hm => (h'.block k (by omega) (fun h2 => hm (hM k hk h2))).trans (h.block k hk hm)⟩
theorem Kept.belowOf {n B : Nat} {M : List Nat} {w w' : World} (h : Kept n M w w') (hB : B <= n) (hM : ∀ k ∈ M, B <= k) : Below B w w' :=
 ⟨h.os, h.tape, h.output, h.size, fun k hk => h.block k (by omega) (fun h2 => by have := hM k h2; omega)⟩
class InW where
 w : World
 B : Nat
 F : Nat -> Prop
 lt : ∀ b, F b -> b < B
variable [InW]
structure InOk (w0 : World) (M : List Nat) : Prop where
 base : InW.B <= w0.heap.size
 mine : ∀ b ∈ M, InW.B <= b
 below : Below InW.B InW.w w0
theorem InOk.sub {w0 : World} {M M' : List Nat} (h : InOk w0 M) (hM : ∀ b ∈ M', b ∈ M) : InOk w0 M' := ⟨h.base, fun b hb => h.mine b (hM b hb), h.below⟩
structure St (w0 : World) (M : List Nat) (L : RL) (w : World) : Prop where
 kept : Kept w0.heap.size M w0 w
 has : ∀ r ∈ L, r.holds w
 own : ∀ r ∈ L, ∀ b ∈ r.foot, w0.heap.size <= b \/ b ∈ M
 sep : L.Pairwise apart
 inw : InOk w0 M
 fz : ∀ r ∈ L, ∀ b, r.frz b -> w0.heap.size <= b \/ b ∈ M \/ InW.F b
section
variable {w0 w w' : World} {M : List Nat} {L L' : RL}
theorem St.start (w : World) (h : InOk w []) : St w [] [] w := ⟨Kept.of (Below.refl _ _), by simp, by simp, List.Pairwise.nil, h, by simp⟩
theorem St.size (h : St w0 M L w) : w0.heap.size <= w.heap.size := h.kept.size
theorem St.belowIn (h : St w0 M L w) : Below InW.B InW.w w := h.inw.below.trans (Kept.belowOf h.kept h.inw.base h.inw.mine)
theorem St.inNow (h : St w0 M L w) {M' : List Nat} (hM : ∀ b ∈ M', w0.heap.size <= b \/ b ∈ M) : InOk w M' :=
 ⟨Nat.le_trans h.inw.base h.kept.size, fun b hb => (hM b hb).elim (fun h1 => Nat.le_trans h.inw.base h1) (h.inw.mine b), h.belowIn⟩
theorem St.inNow0 (h : St w0 M L w) : InOk w [] := h.inNow (by simp)
theorem St.look (h : St w0 M L w) {r : Res} (hl : Look L r) : r.holds w := h.has _ hl.mem
theorem St.blk (h : St w0 M L w) {b : Nat} {o : Obj} (hl : Look L (.blk b o)) : w.heap[b]? = some o := h.has _ hl.mem
theorem St.row (h : St w0 M L w) {v : Value} {e : TypeId} {sz n : Nat} {xs : List Value} (hl : Look L (.row v e sz n xs)) : w.ownsRow 0 e sz v n xs := h.has _ hl.mem
theorem St.cell (h : St w0 M L w) {b k : Nat} {cs : Array Value} {e : TypeId} {v : Value} (hl : Look L (.blk b (.cells cs e (0, 0)))) (hv : cs[k]? = some v) : w.cell? ⟨b, k, none⟩ = some v := Yip (h.blk hl) hv
theorem St.old (h : St w0 M L w) {p : Addr} {v : Value} (hp : p.block < w0.heap.size) (hm : p.block ∉ M) (hv : w0.cell? p = some v) : w.cell? p = some v :=
 (World.cell?_of_block (h.kept.block _ hp hm)).trans hv
theorem St.perm (h : St w0 M L w) (hp : L.Perm L') : St w0 M L' w :=
 ⟨h.kept, fun r hr => h.has r (hp.mem_iff.2 hr), fun r hr => h.own r (hp.mem_iff.2 hr), (hp.pairwise_iff (fun h => apart.symm h)).1 h.sep, h.inw, fun r hr => h.fz r (hp.mem_iff.2 hr)⟩
theorem St.sub (h : St w0 M L w) (hs : L'.Sublist L) : St w0 M L' w :=
 ⟨h.kept, fun r hr => h.has r (hs.subset hr), fun r hr => h.own r (hs.subset hr), h.sep.sublist hs, h.inw, fun r hr => h.fz r (hs.subset hr)⟩
theorem St.drop {r : Res} (h : St w0 M (r :: L) w) : St w0 M L w := h.sub (List.sublist_cons_self _ _)
theorem St.one (h : St w0 M L w) {r : Res} (hl : Look L r) : St w0 M [r] w :=
 ⟨h.kept, fun x hx => by rw [List.mem_singleton] at hx; subst hx; exact h.look hl, fun x hx => by rw [List.mem_singleton] at hx; subst hx; exact h.own _ hl.mem, by simp, h.inw, fun x hx => by rw [List.mem_singleton] at hx; subst hx; exact h.fz _ hl.mem⟩
theorem St.without (h : St w0 M L w) {r : Res} (ht : Take L r L') : St w0 M L' w := (h.perm ht.perm).drop
theorem St.farF (h : St w0 M L w) {x : Res} (hx : x ∈ L) {b : Nat} (hb : b ∈ x.foot) : ¬ InW.F b := fun hf => by
 have h1 := InW.lt b hf;have h2 := h.inw.base;rcases h.own x hx b hb with h3 | h3
 ·omega
 ·have := h.inw.mine b h3; omega
theorem St.upd (h : St w0 M L w) {r r' : Res} (hu : Upd L r r' L') (hk : Kept w.heap.size r.foot w w') (hr : r'.holds w') (hf : ∀ b ∈ r'.foot, b ∈ r.foot \/ w.heap.size <= b)
  (hz : ∀ b, r'.frz b -> r.in_ b \/ w.heap.size <= b \/ InW.F b := by exact fun b hb => False.elim hb) : St w0 M L' w' := by
 obtain ⟨R, h1, h2⟩ := hu.perm;have g := h.perm h1;have hown := g.own r List.mem_cons_self;have hsep := List.pairwise_cons.1 g.sep;refine St.perm (L := r' :: R) ⟨g.kept.trans hk h.size (fun k hk' hm => (hown k hm).resolve_left (by omega)), ?_, ?_, ?_, h.inw, ?_⟩ h2.symm
 ·intro x hx;rcases List.mem_cons.1 hx with rfl | hx
  ·exact hr
  ·have hx' := g.has x (List.mem_cons_of_mem _ hx);exact Res.keep hx' fun b hb => hk.block b (Res.lt2 hx' b hb) (fun hb' => (hsep.1 x hx).1 b hb' hb)
 ·intro x hx;rcases List.mem_cons.1 hx with rfl | hx
  ·intro b hb;rcases hf b hb with h' | h'
   ·exact hown b h'
   ·exact .inl (Nat.le_trans h.size h')
  ·exact g.own x (List.mem_cons_of_mem _ hx)
 ·refine List.Pairwise.cons (fun x hx => ⟨fun b hb hb' => ?_, fun b hb hb' => ?_⟩) hsep.2
  ·rcases hf b hb with h' | h'
   ·exact (hsep.1 x hx).1 b h' hb'
   ·have := Res.lt2 (g.has x (List.mem_cons_of_mem _ hx)) b hb';omega
  ·have hlt := Res.lt (g.has x (List.mem_cons_of_mem _ hx)) b hb;rcases hb' with hb' | hb'
   ·rcases hf b hb' with h' | h'
    ·exact (hsep.1 x hx).2 b hb (.inl h')
    ·omega
   ·rcases hz b hb' with h' | h' | h'
    ·exact (hsep.1 x hx).2 b hb h'
    ·omega
    ·exact g.farF (List.mem_cons_of_mem _ hx) hb h'
 ·intro x hx b hb;rcases List.mem_cons.1 hx with rfl | hx
  ·rcases hz b hb with h' | h' | h'
   ·rcases h' with h' | h'
    ·rcases hown b h' with h2 | h2
     ·exact .inl h2
     ·exact .inr (.inl h2)
    ·exact g.fz r List.mem_cons_self b h'
   ·exact .inl (Nat.le_trans h.size h')
   ·exact .inr (.inr h')
  ·exact g.fz x (List.mem_cons_of_mem _ hx) b hb
theorem St.ext (h : St w0 M L w) (he : Ext w w') : St w0 M L w' :=
 ⟨h.kept.trans (Kept.of (M := []) he) h.size (by simp), fun r hr => Res.keep (h.has r hr) fun b hb => he.block b (Res.lt2 (h.has r hr) b hb), h.own, h.sep, h.inw, h.fz⟩
theorem St.drew (h : St w0 M L w) : St w0 M L w.drew := h.ext ((Below.refl _ _).drew)
theorem St.call (h : St w0 M (L ++ L') w) {L2 : RL} (hc : St w (L.flatMap Res.foot) L2 w') : St w0 M (L2 ++ L') w' := by
 have hsep := List.pairwise_append.1 h.sep;have hfar : ∀ x ∈ L', ∀ b, x.in_ b -> b ∉ L.flatMap Res.foot := fun x hx b hb hm => by
  obtain ⟨r, hr, hb'⟩ := List.mem_flatMap.1 hm;exact (hsep.2.2 r hr x hx).1 b hb' hb
 refine ⟨h.kept.trans hc.kept h.size (fun k hk hm => ?_), ?_, ?_, ?_, h.inw, ?_⟩
 ·obtain ⟨r, hr, hb⟩ := List.mem_flatMap.1 hm;exact (h.own r (List.mem_append_left _ hr) k hb).resolve_left (by omega)
 ·intro x hx;rcases List.mem_append.1 hx with hx | hx
  ·exact hc.has x hx
  ·have hx' := h.has x (List.mem_append_right _ hx);exact Res.keep hx' fun b hb => hc.kept.block b (Res.lt2 hx' b hb) (hfar x hx b hb)
 ·intro x hx b hb;rcases List.mem_append.1 hx with hx | hx
  ·rcases hc.own x hx b hb with h' | h'
   ·exact .inl (Nat.le_trans h.size h')
   ·obtain ⟨r, hr, hb'⟩ := List.mem_flatMap.1 h';exact h.own r (List.mem_append_left _ hr) b hb'
  ·exact h.own x (List.mem_append_right _ hx) b hb
 ·refine List.pairwise_append.2 ⟨hc.sep, hsep.2.1, fun x hx y hy => ⟨fun b hb hb' => ?_, fun b hb hb' => ?_⟩⟩
  ·rcases hc.own x hx b hb with h' | h'
   ·have := Res.lt2 (h.has y (List.mem_append_right _ hy)) b hb';omega
   ·exact hfar y hy b hb' h'
  ·have hlt := Res.lt (h.has y (List.mem_append_right _ hy)) b hb;rcases hb' with hb' | hb'
   ·rcases hc.own x hx b hb' with h' | h'
    ·omega
    ·exact hfar y hy b (.inl hb) h'
   ·rcases hc.fz x hx b hb' with h' | h' | h'
    ·omega
    ·exact hfar y hy b (.inl hb) h'
    ·exact h.farF (List.mem_append_right _ hy) hb h'
 ·intro x hx b hb;rcases List.mem_append.1 hx with hx | hx
  ·rcases hc.fz x hx b hb with h' | h' | h'
   ·exact .inl (Nat.le_trans h.size h')
   ·obtain ⟨r, hr, hb'⟩ := List.mem_flatMap.1 h';rcases h.own r (List.mem_append_left _ hr) b hb' with h2 | h2
    ·exact .inl h2
    ·exact .inr (.inl h2)
   ·exact .inr (.inr h')
  ·exact h.fz x (List.mem_append_right _ hx) b hb
theorem St.more (h : St w0 M L w) {L2 : RL} (hc : St w [] L2 w') : St w0 M (L2 ++ L) w' := St.call (L := []) (L' := L) h hc
theorem St.alloc (h : St w0 M L w) (o : Obj) : St w0 M (.blk w.heap.size o :: L) (w.alloc o) := by
 refine St.more (L2 := [.blk w.heap.size o]) h ⟨Kept.of ((Below.refl _ _).alloc (Nat.le_refl _) _), ?_, ?_, by simp, h.inNow0, ?_⟩
 ·intro r hr;rw [List.mem_singleton] at hr;subst hr;exact heap_alloc_new w o
 ·intro r hr b hb;rw [List.mem_singleton] at hr;subst hr;simp [Res.foot] at hb;exact .inl (by omega)
 ·intro r hr b hb;rw [List.mem_singleton] at hr;subst hr;exact False.elim hb
theorem St.add (h : St w0 M L w) (he : Ext w w') {r : Res} (hr : r.holds w') (hb : ∀ b ∈ r.foot, w.heap.size <= b) (hz : ∀ b, r.frz b -> w.heap.size <= b \/ InW.F b := by exact fun b hb => False.elim hb) : St w0 M (r :: L) w' :=
 St.more (L2 := [r]) h ⟨Kept.of he, by simpa using hr, fun r' hr' b hb' => by rw [List.mem_singleton] at hr'; subst hr'; exact .inl (hb b hb'), by simp, h.inNow0,
  fun r' hr' b hb' => by rw [List.mem_singleton] at hr'; subst hr'; exact (hz b hb').elim .inl fun h => .inr (.inr h)⟩
theorem St.repack {L1 R L2 : RL} (h : St w0 M (L1 ++ R) w) (hh : ∀ r ∈ L2, r.holds w) (hf : ∀ r ∈ L2, ∀ b ∈ r.foot, ∃ q ∈ L1, b ∈ q.foot) (hz : ∀ r ∈ L2, ∀ b, r.frz b -> InW.F b \/ ∃ q ∈ L1, q.in_ b) (hs : L2.Pairwise apart) : St w0 M (L2 ++ R) w := by
 have hsep := List.pairwise_append.1 h.sep;refine ⟨h.kept, ?_, ?_, ?_, h.inw, ?_⟩
 ·intro x hx;rcases List.mem_append.1 hx with hx | hx
  ·exact hh x hx
  ·exact h.has x (List.mem_append_right _ hx)
 ·intro x hx b hb;rcases List.mem_append.1 hx with hx | hx
  ·obtain ⟨q, hq, hb⟩ := hf x hx b hb;exact h.own q (List.mem_append_left _ hq) b hb
  ·exact h.own x (List.mem_append_right _ hx) b hb
 ·refine List.pairwise_append.2 ⟨hs, hsep.2.1, fun x hx y hy => ⟨fun b hb hb' => ?_, fun b hb hb' => ?_⟩⟩
  ·obtain ⟨q, hq, hb⟩ := hf x hx b hb;exact (hsep.2.2 q hq y hy).1 b hb hb'
  ·rcases hb' with hb' | hb'
   ·obtain ⟨q, hq, hb'⟩ := hf x hx b hb';exact (hsep.2.2 q hq y hy).2 b hb (.inl hb')
   ·rcases hz x hx b hb' with h' | ⟨q, hq, h'⟩
    ·exact h.farF (List.mem_append_right _ hy) hb h'
    ·exact (hsep.2.2 q hq y hy).2 b hb h'
 ·intro x hx b hb;rcases List.mem_append.1 hx with hx | hx
  ·rcases hz x hx b hb with h' | ⟨q, hq, h'⟩
   ·exact .inr (.inr h')
   ·rcases h' with h' | h'
    ·rcases h.own q (List.mem_append_left _ hq) b h' with h2 | h2
     ·exact .inl h2
     ·exact .inr (.inl h2)
    ·exact h.fz q (List.mem_append_left _ hq) b h'
  ·exact h.fz x (List.mem_append_right _ hx) b hb
end
def Yhh (P : Program) (e : TypeId) : Option (Array Value) := (P.info? e).bind fun i => i.zero.map Value.cells
def Yce (P : Program) (e : TypeId) (n : Nat) : Prop := (P.info? e).map (·.size) = some n
def Yez (P : Program) (e : TypeId) (b : Bool) : Prop := ((P.underlying e).map fun d => match d with | .struct _ | .array _ _ => true | _ => false) = some b
section
variable {P : Program} {w0 w w' : World} {M : List Nat} {L L' : RL}
theorem Ycr {e : TypeId} {b : Bool} (h : Yez P e b) (w : World) : (isAgg e).run P w = .ok b w := by
 unfold Yez at h;cases hu : P.underlying e with
 | none => simp [hu] at h
 | some d =>
  simp only [hu, Option.map_some, Option.some.injEq] at h;unfold isAgg;rw [Sem.run_bind, run_underlying hu w];cases d <;> simp_all
theorem Y8 {e : TypeId} {n : Nat} (h : Yce P e n) (w : World) : (sizeOf e).run P w = .ok n w := by
 unfold Yce at h;cases hi : P.info? e with
 | none => simp [hi] at h
 | some i =>
  simp only [hi, Option.map_some, Option.some.injEq] at h;simp [sizeOf, typeInfo, hi, h]
def Ymv (w : World) (b off : Nat) (vs : List Value) : Prop := ∀ j u, vs[j]? = some u -> w.cell? ⟨b, off + j, none⟩ = some u
theorem Yck {e : TypeId} {p : Addr} {v : Value} (ha : Yez P e false) (hc : w.cell? p = some v) : (Instr.loadAt e (.pointer (some p))).run P w = .ok v w := by
 simp [Instr.loadAt, Instr.sureAddr, loadVar, Sem.run_bind, Ycr ha, hc]
theorem Ydf {e : TypeId} {b off n : Nat} {vs : List Value} (ha : Yez P e true) (hs : Yce P e n) (hn : vs.length = n) (hc : Ymv w b off vs) : (Instr.loadAt e (.pointer (some ⟨b, off, none⟩))).run P w = .ok (.agg vs.toArray) w := by
 have hl : (loadCells ⟨b, off, none⟩ vs.length).run P w = .ok vs.toArray w :=
  run_loadCells_list (P := P) w ⟨b, off, none⟩ vs (fun j v hv => by rw [Ym]; exact hc j v hv)
 rw [hn] at hl;simp [Instr.loadAt, Instr.sureAddr, loadVar, Sem.run_bind, Ycr ha, Y8 hs, hl]
theorem Y24 {e : TypeId} {cs : Array Value} (hz : Yhh P e = some cs) : (Instr.alloc e true (.tuple #[])).run P w = .ok (.pointer (some ⟨w.heap.size, 0, none⟩)) (w.alloc (.cells cs e)) := by
 unfold Yhh at hz;cases hi : P.info? e with
 | none => simp [hi] at hz
 | some i =>
  simp only [hi, Option.bind_some, Option.map_eq_some_iff] at hz;obtain ⟨z, hz, rfl⟩ := hz;simp [Instr.alloc, zeroValue, typeInfo, hi, hz, newVar, newRow]
theorem Yxv {e : TypeId} {v : Value} : (Instr.box e v).run P w = .ok (.pointer (some ⟨w.heap.size, 0, none⟩)) (w.alloc (.cells v.cells e)) := by
 simp [Instr.box, newVar, newRow]
def nthO : List Value -> Nat -> Option Value
 | [], _ => some undef
 | x :: _, 0 => some x
 | _ :: xs, n + 1 => nthO xs n
def Yc0 (a : Act) : Operand -> Option Value
 | .tmp t => nthO a.tmps.toList t
 | .const v => some v
 | .global g => some (.pointer (some ⟨g, 0, none⟩))
 | .func f => some (.func (.func f) #[] #[])
theorem Yfv (l : List Value) : ∀ t, nthO l t = some (l.getD t undef) := by
 induction l with
 | nil => intro t; rfl
 | cons x xs ih =>
  intro t;cases t with
  | zero => rfl
  | succ t => simp only [nthO, ih, List.getD_cons_succ]
theorem Yq {a : Act} {x : Operand} {v : Value} (h : Yc0 a x = some v) : a.eval x = v := by
 cases x with
 | tmp t =>
  simp only [Yc0, Yfv, Option.some.injEq] at h;subst h;simp [Act.eval, Array.getD_eq_getD_getElem?, List.getD_eq_getElem?_getD]
 | const v' => simpa [Yc0, Act.eval] using h
 | global g => simpa [Yc0, Act.eval] using h
 | func f => simpa [Yc0, Act.eval] using h
def AllAt (cs : Array Value) (k : Nat) : List Value -> Prop
 | [] => True
 | v :: vs => nthO cs.toList k = some v /\ Nat.blt k cs.size = true /\ AllAt cs (k + 1) vs
theorem AllAt.at_ {cs : Array Value} : ∀ {vs : List Value} {k : Nat}, AllAt cs k vs -> ∀ j u, vs[j]? = some u -> cs[k + j]? = some u := by
 intro vs
 induction vs with
 | nil => intro k _ j u hj; simp at hj
 | cons v vs ih =>
  intro k h j u hj;obtain ⟨h1, h2, h3⟩ := h
  replace h2 : k < cs.size := by simpa [Nat.blt_eq] using h2
  cases j with
  | zero =>
   simp only [List.getElem?_cons_zero, Option.some.injEq] at hj;subst hj;rw [Yfv] at h1;simp [List.getD_eq_getElem?_getD, h2] at h1;simp [h2, h1]
  | succ j =>
   have := ih h3 j u (by simpa using hj);rw [show k + (j + 1) = k + 1 + j by omega];exact this
theorem Y1c {cs : Array Value} {p : Nat} {v : Value} (hv : nthO cs.toList p = some v) (hp : Nat.blt p cs.size = true) : cs[p]? = some v := by
 replace hp : p < cs.size := by simpa [Nat.blt_eq] using hp
 rw [Yfv] at hv;simpa [List.getD_eq_getElem?_getD, hp] using hv
variable {K : Act -> World -> Prop} {Q : Exit -> Act -> World -> Prop} {a : Act} {dst : Option Tmp} {type : TypeId} {pos : String} {after : Array Edge} {guard : Option (Nat × Bool)}
theorem Y0t {e : TypeId} {cs : Array Value} (h : St w0 M L w) (hz : Yhh P e = some cs) (kk : ∀ b w', St w0 M (.blk b (.cells cs e (0, 0)) :: L) w' -> K (a.put dst (.pointer (some ⟨b, 0, none⟩))) w') :
  Oper.wp P { dst, op := .alloc e, type, pos, after, guard } a w K Q := by
 unfold Oper.wp execOp;simp only [Sem.run_bind, Y24 hz, Result.andThen_ok, Sem.run_pure, Oper.upon];exact kk _ _ (h.alloc _)
def Ybz (cs : Array Value) (k : Nat) : List Value -> Array Value
 | [] => cs
 | v :: vs => Ybz (cs.setIfInBounds k v) (k + 1) vs
theorem Yfn (vs : List Value) : ∀ (cs : Array Value) (k : Nat), (Ybz cs k vs).size = cs.size := by
 induction vs with
 | nil => intro cs k; rfl
 | cons v vs ih => intro cs k; simp [Ybz, ih]
theorem Ybs {b : Nat} {e : TypeId} : ∀ (vs : List Value) (i off : Nat) (cs : Array Value) (w : World), w.heap[b]? = some (.cells cs e (0, 0)) -> off + i + vs.length <= cs.size -> (∀ v ∈ vs, v.oneCell' = true) ->
  ∃ w', (storeCells ⟨b, off, none⟩ vs i).run P w = .ok () w' /\ w'.heap[b]? = some (.cells (Ybz cs (off + i) vs) e (0, 0)) /\ w'.heap.size = w.heap.size /\ (w'.os = w.os /\ w'.tape = w.tape /\ w'.output = w.output) /\ ∀ k, k ≠ b -> w'.heap[k]? = w.heap[k]?
 | [], i, off, cs, w, hg, _, _ => ⟨w, rfl, hg, rfl, ⟨rfl, rfl, rfl⟩, fun _ _ => rfl⟩
 | v :: vs, i, off, cs, w, hg, hl, h1 => by
  have hlt : off + i < cs.size := by simp at hl; omega
  have hc : w.cell? ⟨b, off + i, none⟩ = some cs[off + i] := Yip hg (by simp [hlt]);have hf : w.frozen? ⟨b, off + i, none⟩ = false := Yq1 hg _;have hone := h1 v List.mem_cons_self;obtain ⟨w', hr, hb, hs, hm, hk⟩ := Ybs vs (i + 1) off (cs.setIfInBounds (off + i) v) (w.setCell ⟨b, off + i, none⟩ v) (Yhj hg) (by simp at hl ⊢; omega) (fun u hu => h1 u (List.mem_cons_of_mem _ hu));refine ⟨w', ?_, hb, by rw [hs, Yju], hm, fun k hk' => (hk k hk').trans (Yhi hk')⟩;have hst : ∀ (k : Sem Unit), (Sem.store .plain ⟨b, off + i, none⟩ v k).run P w = k.run P (w.setCell ⟨b, off + i, none⟩ v) := by
   intro k;cases v <;> simp [Value.oneCell'] at hone <;> simp [Sem.run, hc, hf]
  simp only [storeCells, Ym]
  show ((store ⟨b, off + i, none⟩ v).bind _).run P w = _
  simp only [store, Sem.bind];rw [hst];exact hr
def SliceOf (P : Program) (T e : TypeId) (sz by_ : Nat) (zs : Array Value) : Prop :=
 P.underlying T = some (.slice e) /\ (P.info? e).map (fun i => (i.zero.map Value.cells, i.size, i.bytes)) = some (some zs, sz, by_)
theorem SliceOf.parts {T e : TypeId} {sz by_ : Nat} {zs : Array Value} (h : SliceOf P T e sz by_ zs) : ∃ i z, P.info? e = some i /\ i.zero = some z /\ z.cells = zs /\ i.size = sz /\ i.bytes = by_ := by
 obtain ⟨_, h⟩ := h;cases hi : P.info? e with
 | none => simp [hi] at h
 | some i =>
  simp only [hi, Option.map_some, Option.some.injEq, Prod.mk.injEq, Option.map_eq_some_iff] at h;obtain ⟨⟨z, hz, hc⟩, hs, hb⟩ := h;exact ⟨i, z, rfl, hz, hc, hs, hb⟩
def setL (xs : List Value) (k : Nat) : List Value -> List Value
 | [] => xs
 | v :: vs => setL (xs.set k v) (k + 1) vs
theorem Ylt (vs : List Value) : ∀ (xs : List Value) (k : Nat), (setL xs k vs).length = xs.length := by
 induction vs with
 | nil => intro xs k; rfl
 | cons v vs ih => intro xs k; simp [setL, ih]
theorem Yjh (vs : List Value) : ∀ (cs : Array Value) (k m : Nat), k + vs.length <= m -> (Ybz cs k vs).toList.take m = setL (cs.toList.take m) k vs := by
 induction vs with
 | nil => intro cs k m _; rfl
 | cons v vs ih =>
  intro cs k m h;simp only [List.length_cons] at h;simp only [Ybz, setL];rw [ih _ _ _ (by omega)]
  congr 1
  rw [Array.toList_setIfInBounds, List.take_set]
theorem Yxp {e T : TypeId} {x y : Operand} {g k n c sz m : Nat} {xs xs' : List Value} {v : Value} (h : St w0 M L w) (hs : Yce P e m) (hx : Yc0 a x = some (.pointer (some ⟨g, k, none⟩))) (hy : Yc0 a y = some (v)) (hn : v.cells.size = m) (h1 : v.cells.toList.all (·.oneCell') = true) (hu : Upd L (.row (.slice (some ⟨g, 0, none⟩) n c) T sz n xs) (.row (.slice (some ⟨g, 0, none⟩) n c) T sz n xs') L') (hk : k + m <= xs.length) (hc : setL xs k v.cells.toList = xs') (kk : ∀ w', St w0 M L' w' -> K (a.put dst undef) w') :
  Oper.wp P { dst, op := .store e x y, type, pos, after, guard } a w K Q := by
 replace hx := Yq hx
 replace hy := Yq hy
 have hrow := h.row hu.look;rcases hrow.2 with ⟨h0, _⟩ | ⟨g', cap, cur, hv, hb, hg, hnc, hcm, hcs, ht⟩
 ·cases h0
 cases hv;have hlen : n * sz <= cur.size := by rw [hcs]; exact Nat.mul_le_mul_right _ hnc
 have hxl := hrow.1;obtain ⟨w', hr, hb', hsz, hm, hkk⟩ := Ybs (P := P) v.cells.toList 0 k cur w hg (by simp; omega) (fun u hu => List.all_eq_true.1 h1 u hu);simp only [Nat.add_zero] at hb';have hrow' : w'.ownsRow 0 T sz (.slice (some ⟨g, 0, none⟩) n c) n xs' := by
  refine ⟨by rw [<- hc, Ylt, hxl], .inr ⟨g, c, _, rfl, Nat.zero_le _, hb', hnc, hcm, by rw [Yfn, hcs], ?_⟩⟩;rw [Yjh _ _ _ _ (by simp; omega), ht, hc]
 subst hy;unfold Oper.wp execOp;simp only [hx, Instr.storeAt, Instr.sureAddr, storeVar, Sem.run_bind, Sem.run_pure, Y8 hs, hn, Result.andThen_ok, Oper.upon, ne_eq, not_true_eq_false, if_false, hr];exact kk w' (h.upd hu ⟨hm.1, hm.2.1, hm.2.2, by omega, fun k hk' hk2 => hkk k (by simpa [Res.foot, Value.ownBlock] using hk2)⟩ hrow' (fun b' hb' => .inl hb'))
theorem Yfm {T e : TypeId} {sz by_ : Nat} {zs : Array Value} {s x : Operand} {v : Value} {n m c : Nat} {xs news : List Value} {ad : Addr} {R : RL} (h : St w0 M L w) (ht : SliceOf P T e sz by_ zs) (hz : zs.size = sz) (hsz : 0 < sz) (hs : Yc0 a s = some v) (hx : Yc0 a x = some (.slice (some ad) m c)) (hu : Take L (.row v e sz n xs) R) (hl : news.length = m * sz) (hnews : ∀ j u, news[j]? = some u -> w.cell? (ad.add j) = some u) (h1 : ∀ u ∈ news, u.oneCell' = true) (h63 : n + m <= maxLen) (hbytes : (n + m) * by_ <= 140737488355328) (kk : ∀ v' w', (v' = .slice none 0 0 ↔ v = .slice none 0 0 /\ m = 0) -> St w0 M (.row v' e sz (n + m) (xs ++ news) :: R) w' -> K (a.put dst v') w') :
  Oper.wp P { dst, op := .call { callee := .builtin .append, args := #[s, x], argTypes := #[T, T] }, type, pos, after, guard } a w K Q := by
 replace hx := Yq hx
 replace hs := Yq hs
 obtain ⟨i, z, hi, hz1, hz2, his, hib⟩ := ht.parts;have hr : w.ownsRow 0 e sz v n xs := (h.perm hu.perm).has _ List.mem_cons_self;obtain ⟨v', w', hrun, h2, h3, h4, h5⟩ := run_append_own_at (P := P) w 0 T type e i z sz by_ ht.1 hi hz1 his hib (by rw [hz2, hz]) hsz v n xs hr ad m c news hl hnews h1 h63 hbytes (Nat.zero_le _);unfold Oper.wp execOp;simp only [resolve, invoke, builtin, Sem.run_bind, Sem.run_pure, Result.andThen_ok, List.map_toArray, List.map_cons, List.map_nil, hs, hx, hrun];have hk : Kept w.heap.size v.ownBlock.toList w w' := ⟨h3.os, h3.tape, h3.output, h3.size, fun k hk hm => h3.block k hk (by simpa [eq_comm] using hm)⟩;refine kk v' w' h4 (St.upd (L := .row v e sz n xs :: R) (h.perm hu.perm) .head hk h2 (fun b hb => ?_));simp only [Res.foot, Option.mem_toList] at hb ⊢;rcases h5 with h5 | h5
 ·exact .inl (by rw [<- h5]; exact hb)
 ·rw [h5] at hb; cases hb; exact .inr (Nat.le_refl _)
theorem Y21 {T e : TypeId} {sz by_ n : Nat} {zs : Array Value} {x y : Operand} {kl kc : IntKind} (h : St w0 M L w) (ht : SliceOf P T e sz by_ zs) (hx : Yc0 a x = some (.int kl (n : Int))) (hy : Yc0 a y = some (.int kc (n : Int))) (hbytes : by_ * n <= 281474976710656) (h63 : n <= maxLen) (kk : ∀ g w', St w0 M (.row (.slice (some ⟨g, 0, none⟩) n n) e sz n (madeCells zs (n * sz)).toList :: L) w' -> K (a.put dst (.slice (some ⟨g, 0, none⟩) n n)) w') :
  Oper.wp P { dst, op := .makeSlice T x y, type, pos, after, guard } a w K Q := by
 replace hx := Yq hx
 replace hy := Yq hy
 obtain ⟨i, z, hi, hz1, hz2, his, hib⟩ := ht.parts;obtain ⟨w', hr, h2, h3⟩ := run_make_full (P := P) w 0 T e i z sz ht.1 hi hz1 his kl kc n (by rw [hib]; exact hbytes) h63 (Nat.zero_le _);unfold Oper.wp execOp;simp only [hx, hy, Sem.run_bind, hr, Result.andThen_ok, Sem.run_pure, Oper.upon];refine kk w.heap.size w' ?_;rw [hz2] at h2;exact h.add ⟨h3.os, h3.tape, h3.output, h3.size, fun k hk => h3.block k hk (by simp)⟩ h2 (fun b hb => by simp [Res.foot, Value.ownBlock] at hb; omega)
theorem Yph {T e : TypeId} {sz by_ len : Nat} {zs cs : Array Value} {parts : Array (Nat × Operand)} {ps : List (Nat × Value)} (h : St w0 M L w) (ht : SliceOf P T e sz by_ zs) (hp : (parts.map fun (i, x) => (i, a.eval x)).toList = ps) (hlen : len * sz <= 16777216) (hf : Instr.fill (fun i => some (i * sz, sz)) ((Array.range (len * sz)).map (zs[· % zs.size]!)) ps = some cs) (kk : ∀ b w', St w0 M (.blk b (.cells cs e (0, 0)) :: L) w' -> K (a.put dst (.slice (some ⟨b, 0, none⟩) len len)) w') :
  Oper.wp P { dst, op := .buildSlice T len parts, type, pos, after, guard } a w K Q := by
 obtain ⟨i, z, hi, hz1, hz2, his, hib⟩ := ht.parts;subst his;have hr : (Instr.buildSlice T len (parts.map fun (i, x) => (i, a.eval x))).run P w = .ok (.slice (some ⟨w.heap.size, 0, none⟩) len len) (w.alloc (.cells cs e)) := by
  subst hp;have h24 : ¬ (len * i.size > 2 ^ 24) := by omega
  by_cases h0 : len * i.size = 0
  ·have e0 : ∀ f : Nat -> Value, (Array.range 0).map f = #[] := fun f => by simp [Array.range]
   rw [h0, e0] at hf;simp only [Instr.buildSlice, Sem.run_bind, run_underlying ht.1 w, sizeOf, typeInfo, run_program, hi, Sem.run_pure, Result.andThen_ok, h0, if_true, e0, hf];simp [newRow]
  ·simp only [Instr.buildSlice, Sem.run_bind, run_underlying ht.1 w, sizeOf, typeInfo, run_program, hi, Sem.run_pure, Result.andThen_ok, h24, h0, if_false, zeroValue, hz1, hz2, hf];simp [newRow]
 unfold Oper.wp execOp;simp only [Sem.run_bind, hr, Result.andThen_ok, Sem.run_pure, Oper.upon];exact kk _ _ (h.alloc _)
theorem St.toRow {b n : Nat} {cs : Array Value} {e sz : Nat} (h : St w0 M L w) (hu : Upd L (.blk b (.cells cs e (0, 0))) (.row (.slice (some ⟨b, 0, none⟩) n n) e sz n cs.toList) L') (hm : n <= maxLen) (hs : cs.size = n * sz) : St w0 M L' w := by
 have hb := h.blk hu.look;exact h.upd hu (Kept.of (Below.refl _ _)) ⟨by simpa using hs, .inr ⟨b, n, cs, rfl, Nat.zero_le _, hb, Nat.le_refl _, hm, hs, by rw [<- hs]; exact List.take_of_length_le (by simp)⟩⟩ (fun b' hb' => .inl (by simpa [Res.foot, Value.ownBlock] using hb'))
inductive ResV (P : Program) (w : World) (tmps : Array Value) : ResultVar -> Value -> Prop
 | tmp {t : Tmp} {v : Value} (h : nthO tmps.toList t = some v) : ResV P w tmps (.tmp t) v
 | cell {p : Tmp} {e : TypeId} {ad : Addr} {v : Value} (h : nthO tmps.toList p = some (.pointer (some ad))) (hl : (loadVar e ad).run P w = .ok v w) : ResV P w tmps (.cell p e) v
theorem Yrj {tmps : Array Value} {t : Nat} {v : Value} (h : nthO tmps.toList t = some v) : tmps.getD t undef = v := by
 rw [Yfv] at h;simpa [Array.getD_eq_getD_getElem?, List.getD_eq_getElem?_getD] using h
def resM (tmps : Array Value) : ResultVar -> Sem Value
 | .tmp t => pure (tmps.getD t undef)
 | .cell a t => do loadVar t (<- asAddr (tmps.getD a undef))
theorem ResV.run {tmps : Array Value} {r : ResultVar} {v : Value} (h : ResV P w tmps r v) : (resM tmps r).run P w = .ok v w := by
 cases h with
 | tmp h => simp only [resM, Yrj h]; rfl
 | cell h hl => simp only [resM, Yrj h, asAddr, Sem.run_bind, Sem.run_pure, Result.andThen_ok, hl]
theorem Yq8 (fn : Func) (tmps : Array Value) : results fn tmps = (fn.results.mapM (resM tmps) >>= fun vs => pure (if h : vs.size = 1 then vs[0] else .tuple vs)) := by
 unfold results
 congr 1
theorem Yod {e : TypeId} {ad : Addr} {v : Value} (h : (Instr.loadAt e (.pointer (some ad))).run P w = .ok v w) : (loadVar e ad).run P w = .ok v w := by
 simpa [Instr.loadAt, Instr.sureAddr, Sem.run_bind] using h
section
variable {fn : Func} {R : Ending -> World -> Prop} {r1 r2 r3 r4 : ResultVar} {v1 v2 v3 v4 : Value}
end
end
end Go.Proofs.Ytilnbgpogfabaaa
namespace Go.Proofs.Ytilnbgpogfabaaa
open Go.RowKit
variable [InW]
def Yha (P : Program) (T : TypeId) (i off : Nat) : Prop :=
 ((P.underlying T).bind fun d => match d with | .struct fs => (fs[i]?).bind fun f => (P.info? f.type).map fun j => (f.offset, j.size == 0) | _ => none) = some (off, false)
section
variable {P : Program} {K : Act -> World -> Prop} {Q : Exit -> Act -> World -> Prop} {a : Act} {w : World} {dst : Option Tmp} {type : TypeId} {pos : String} {after : Array Edge} {guard : Option (Nat × Bool)}
theorem Y4l {x : Operand} {v : Value} (hx : Yc0 a x = some v) (kk : K (a.put dst v) w) : Oper.wp P { dst, op := .move x, type, pos, after, guard } a w K Q := by
 rw [<- Yq hx] at kk;exact BigFrame.wp_move x rfl kk
theorem Y04 {x : Operand} {v : Value} (hx : Yc0 a x = some v) (kk : K (a.put dst v) w) : Oper.wp P { dst, op := .assign x, type, pos, after, guard } a w K Q := by
 rw [<- Yq hx] at kk;exact BigFrame.wp_assign x rfl kk
theorem Ytq {T : TypeId} {x : Operand} {i off b k k' : Nat} (hf : Yha P T i off) (hx : Yc0 a x = some (.pointer (some ⟨b, k, none⟩))) (hk : k + off = k') (kk : K (a.put dst (.pointer (some ⟨b, k', none⟩))) w) :
  Oper.wp P { dst, op := .fieldAddr T x i, type, pos, after, guard } a w K Q := by
 subst hk
 replace hx := Yq hx
 unfold Yha at hf;cases hu : P.underlying T with
 | none => simp [hu] at hf
 | some d =>
  cases d <;> simp only [hu, Option.bind_some, reduceCtorEq] at hf
  case struct fs =>
   cases hi : fs[i]? with
   | none => simp [hi] at hf
   | some f =>
    simp only [hi, Option.bind_some, Option.map_eq_some_iff, Prod.mk.injEq, beq_eq_false_iff_ne, ne_eq] at hf;obtain ⟨j, hj, h1, h2⟩ := hf;unfold Oper.wp execOp;simp only [Instr.fieldAt, Sem.run_bind, run_underlying hu w, Result.andThen_ok, hi, hx, Instr.sureAddr, Sem.run_pure, fieldPlace, sizeOf, typeInfo, run_program, hj, h2, if_false, Ym, h1, Oper.upon];exact kk
theorem Ypn {T e : TypeId} {x ix : Operand} {sz by_ b off n c k : Nat} {zs : Array Value} {kd : IntKind} {i : Int} (ht : SliceOf P T e sz by_ zs) (hx : Yc0 a x = some (.slice (some ⟨b, off, none⟩) n c)) (hi : Yc0 a ix = some (.int kd i)) (h0 : 0 <= i) (h1 : i < (n : Int)) (hk : off + i.toNat * sz = k)
  (kk : K (a.put dst (.pointer (some ⟨b, k, none⟩))) w) : Oper.wp P { dst, op := .indexAddr T x ix, type, pos, after, guard } a w K Q := by
 subst hk
 replace hx := Yq hx
 replace hi := Yq hi
 obtain ⟨j, z, hj, hz1, hz2, his, hib⟩ := ht.parts;subst his;unfold Oper.wp execOp;simp only [Instr.indexAt, hx, hi, asIntOf, Sem.run_bind, Sem.run_pure, Result.andThen_ok, run_underlying ht.1 w, h0, h1, and_self, if_true, sizeOf, typeInfo, run_program, hj, Ym, Oper.upon];exact kk
theorem Y4m {T e : TypeId} {sz by_ : Nat} {zs : Array Value} {x : Operand} {A : Option Addr} {n c : Nat} (ht : SliceOf P T e sz by_ zs) (hx : Yc0 a x = some (.slice A n c)) (kk : K (a.put dst (.int .i64 (n : Int))) w) :
  Oper.wp P { dst, op := .call { callee := .builtin .len, args := #[x], argTypes := #[T] }, type, pos, after, guard } a w K Q := by
 replace hx := Yq hx
 unfold Oper.wp execOp;simp only [resolve, invoke, builtin, Sem.run_bind, Sem.run_pure, Result.andThen_ok, List.map_toArray, List.map_cons, List.map_nil, hx];have : (Builtin.len_ #[T] type #[.slice A n c]).run P w = .ok (.int .i64 (n : Int)) w := by
  simp [Builtin.len_, Sem.run_bind, run_underlying ht.1 w, goInt]
 simp only [this, Result.andThen_ok, Oper.upon];exact kk
theorem Yx5 {t : Operand} {i : Nat} {vs : Array Value} {v : Value} (hx : Yc0 a t = some (.tuple vs)) (hv : nthO vs.toList i = some v) (hi : Nat.blt i vs.size = true) (kk : K (a.put dst v) w) :
  Oper.wp P { dst, op := .extract t i, type, pos, after, guard } a w K Q := by
 replace hx := Yq hx
 have := Y1c hv hi;unfold Oper.wp execOp;simp only [Instr.extract, hx, this, Sem.run_bind, Sem.run_pure, Result.andThen_ok, Oper.upon];exact kk
theorem Y2k {c x y : Operand} {b : Bool} {v : Value} (hc : Yc0 a c = some (.bool b)) (hv : Yc0 a (if b then x else y) = some v) (kk : K (a.put dst v) w) :
  Oper.wp P { dst, op := .pick c x y, type, pos, after, guard } a w K Q := by
 replace hc := Yq hc
 replace hv := Yq hv
 unfold Oper.wp execOp;simp only [hc, asBool, Sem.run_bind, Sem.run_pure, Result.andThen_ok, Oper.upon];have e : (if b = true then a.eval x else a.eval y) = v := by rw [<- hv]; split <;> rfl
 rw [e];exact kk
section
variable {T T' : TypeId} {x y : Operand} {m n : Int} {kd : IntKind}
theorem Y2e {op : BinOp} {v : Value} {u t : Value} (hx : Yc0 a x = some u) (hy : Yc0 a y = some t) (hr : (do eqGuard op T x y u t; binOp op T u t : Sem Value).run P w = .ok v w) (kk : K (a.put dst v) w) :
  Oper.wp P { dst, op := .binOp op T x y T', type, pos, after, guard } a w K Q := by
 replace hx := Yq hx
 replace hy := Yq hy
 unfold Oper.wp execOp;simp only [hx, hy];rw [Sem.run_bind, hr];simp only [Result.andThen_ok, Sem.run_pure, Oper.upon];exact kk
end
theorem no {c : Prop} [Decidable c] (h : ¬ c) : decide c = false := decide_eq_false h
variable {ops : Array Oper} {o : Oper} {rest : List Oper}
def Y0q (l : List Value) (d : Nat) : Option Bool :=
 match nthO l d with
 | some (.bool b) => some b
 | _ => none
def Yp0 : List Oper -> Nat -> Option Tmp
 | [], _ => none
 | o :: _, 0 => o.dst
 | _ :: l, n + 1 => Yp0 l n
theorem Yvi (l : List Oper) : ∀ j, Yp0 l j = (l[j]?).bind (·.dst) := by
 induction l with
 | nil => intro j; rfl
 | cons o l ih =>
  intro j;cases j with
  | zero => rfl
  | succ j => simp [Yp0, ih]
theorem Yna {ol : List Oper} {a : Act} {j d : Nat} (hj : Yp0 ol j = some d) : yielded ol.toArray a.tmps j = Y0q a.tmps.toList d := by
 rw [Yvi] at hj;simp only [yielded, List.getElem?_toArray, hj, Option.bind_some, Y0q, Yfv];rw [List.getD_eq_getElem?_getD];cases h : a.tmps.toList[d]? with
 | none => simp at h; simp [h]; rfl
 | some v => simp at h; simp [h]; cases v <;> rfl
theorem Yp8 {ol : List Oper} {j d : Nat} {b c r : Bool} {op : Op} (hj : Yp0 ol j = some d) (hb : nthO a.tmps.toList d = some (.bool c)) (hc : (c == b) = r) :
  Region.wanted { dst, op, type, pos, after, guard := some (j, b) } (yielded ol.toArray a.tmps) = r := by
 simp only [Region.wanted, Yna hj, Y0q, hb, <- hc];cases c <;> cases b <;> rfl
theorem Ysv {ol : List Oper} {j d : Nat} {b : Bool} {vs : Array Value} {op : Op} (hj : Yp0 ol j = some d) (hb : nthO a.tmps.toList d = some (.tuple vs)) :
  Region.wanted { dst, op, type, pos, after, guard := some (j, b) } (yielded ol.toArray a.tmps) = false := by
 simp only [Region.wanted, Yna hj, Y0q, hb];cases b <;> rfl
variable {ol : List Oper}
end
end Go.Proofs.Ytilnbgpogfabaaa
namespace Go.Proofs.Ytilnbgpogfabaaa
open Go.RowKit
variable [InW]
section
variable {P : Program} {ops : Array Oper} {n : Nat} {w0 : World} {Q : Exit -> Act -> World -> Prop} {R : Act -> Prop} {o : Oper} {rest : List Oper} {a : Act} {d : Tmp} {v : Value}
end
section
variable {P : Program} {w0 w w' : World} {M : List Nat} {L L' : RL} {K : Act -> World -> Prop} {Q : Exit -> Act -> World -> Prop} {a : Act} {dst : Option Tmp} {type : TypeId} {pos : String} {after : Array Edge} {guard : Option (Nat × Bool)}
theorem Take.look {L R : RL} {r x : Res} (h : Take L r R) (hl : Look R x) : Look L x := by
 induction h with
 | head => exact .tail hl
 | tail _ ih =>
  cases hl with
  | head => exact .head
  | tail hl => exact .tail (ih hl)
theorem Yh9 (vs : List Value) : ∀ (cs : Array Value) (off j : Nat), (vs.zipIdx j).foldl (fun cs x => cs.setIfInBounds (off + x.2) x.1) cs = Ybz cs (off + j) vs := by
 induction vs with
 | nil => intro cs off j; rfl
 | cons v vs ih =>
  intro cs off j;simp only [List.zipIdx_cons, List.foldl_cons, Ybz];rw [ih, Nat.add_assoc]
theorem Ycf (vs : List Value) : ∀ (cs : Array Value) (k : Nat), k + vs.length <= cs.size -> (Ybz cs k vs).toList = cs.toList.take k ++ vs ++ cs.toList.drop (k + vs.length) := by
 induction vs with
 | nil => intro cs k _; simp [Ybz]
 | cons v vs ih =>
  intro cs k h;simp only [List.length_cons] at h;rw [Ybz, ih _ _ (by simp; omega), Array.toList_setIfInBounds, List.take_add_one, List.take_set_of_le (Nat.le_refl _), List.getElem?_set_self (by simp; omega), List.drop_set_of_lt (by omega)];simp [show k + 1 + vs.length = k + (vs.length + 1) by omega]
theorem Yr8 (sz : Nat) : ∀ (vs : List Value) (k : Nat) (cells : Array Value), (∀ v ∈ vs, v.cells.size = sz) -> cells.size = (k + vs.length) * sz ->
  Instr.fill (fun i => some (i * sz, sz)) cells ((List.range' k vs.length).zip vs) = some (cells.toList.take (k * sz) ++ (vs.map fun v => v.cells.toList).flatten).toArray
 | [], k, cells, _, h => by
  simp only [List.length_nil, Nat.add_zero] at h;simp only [Instr.fill, List.map_nil, List.flatten_nil, List.append_nil, <- h];rw [List.take_of_length_le (by simp), Array.toArray_toList];rfl
 | v :: vs, k, cells, h1, h => by
  have hv := h1 v List.mem_cons_self;have hle : k * sz + sz <= cells.size := by
   rw [h, List.length_cons, show k + (vs.length + 1) = (k + 1) + vs.length by omega, Nat.add_mul, Nat.succ_mul];omega
  simp only [List.length_cons, List.range'_succ, List.zip_cons_cons, Instr.fill];rw [if_neg (by rw [hv]; simp; omega)];have e : v.cells.zipIdx.foldl (fun cs x => cs.setIfInBounds (k * sz + x.2) x.1) cells = Ybz cells (k * sz) v.cells.toList := by
   have := Yh9 v.cells.toList cells (k * sz) 0;rw [Nat.add_zero] at this;rw [<- this, <- Array.foldl_toList, Array.toList_zipIdx]
  rw [e, Yr8 sz vs (k + 1) _ (fun u hu => h1 u (List.mem_cons_of_mem _ hu)) (by rw [Yfn, h, List.length_cons]; congr 1; omega), Ycf _ _ _ (by simpa [hv] using hle)]
  congr 2
  rw [Nat.succ_mul, List.take_append_of_le_length (by simp [hv]; omega), List.take_of_length_le (by simp [hv]; omega)];simp [List.append_assoc]
def AllParts (a : Act) (sz : Nat) : Nat -> List (Nat × Operand) -> List Value -> Prop
 | _, [], [] => True
 | k, (i, x) :: ps, v :: vs => i = k /\ Yc0 a x = some v /\ v.cells.size = sz /\ AllParts a sz (k + 1) ps vs
 | _, _, _ => False
theorem AllParts.zip {a : Act} {sz : Nat} : ∀ {ps : List (Nat × Operand)} {vs : List Value} {k : Nat}, AllParts a sz k ps vs -> (ps.map fun (i, x) => (i, a.eval x)) = (List.range' k vs.length).zip vs /\ ∀ v ∈ vs, v.cells.size = sz
 | [], [], k, _ => by simp
 | [], _ :: _, k, h => h.elim
 | _ :: _, [], k, h => h.elim
 | (i, x) :: ps, v :: vs, k, h => by
  obtain ⟨rfl, h1, h2, h3⟩ := h;obtain ⟨e, h4⟩ := AllParts.zip h3;refine ⟨?_, fun u hu => ?_⟩
  ·simp only [List.map_cons, List.length_cons, List.range'_succ, List.zip_cons_cons, e, Yq h1]
  ·rcases List.mem_cons.1 hu with rfl | hu
   ·exact h2
   ·exact h4 u hu
theorem Y4e {T e : TypeId} {sz by_ len : Nat} {zs : Array Value} {parts : List (Nat × Operand)} {vs : List Value} (h : St w0 M L w) (ht : SliceOf P T e sz by_ zs) (hp : AllParts a sz 0 parts vs) (hl : vs.length = len) (hlen : Nat.ble (len * sz) 16777216 = true)
  (kk : ∀ b w', St w0 M (.blk b (.cells ((vs.map fun v => v.cells.toList).flatten).toArray e (0, 0)) :: L) w' -> K (a.put dst (.slice (some ⟨b, 0, none⟩) len len)) w') :
  Oper.wp P { dst, op := .buildSlice T len parts.toArray, type, pos, after, guard } a w K Q := by
 obtain ⟨e1, e2⟩ := hp.zip;refine Yph h ht (ps := (List.range' 0 vs.length).zip vs) (by simpa using e1) (by simpa using hlen) ?_ kk;rw [Yr8 sz vs 0 _ e2 (by simp [hl])];simp
end
end Go.Proofs.Ytilnbgpogfabaaa
namespace Go.Proofs.Ytilnbgpogfabaaa
open Go.RowKit
inductive Ty where
 | int (k : IntKind)
 | bool
 | str
 | sl (ts : List Ty)
inductive Cl where
 | z
 | i (n : Int)
 | b (x : Bool)
 | s (x : ByteArray)
 | l (xs : List (List Cl))
abbrev Dt := List (List Cl)
def Cl.int : Cl -> Int
 | .i n => n
 | _ => 0
def Cl.bool : Cl -> Bool
 | .b x => x
 | _ => false
def Cl.str : Cl -> ByteArray
 | .s x => x
 | _ => ByteArray.empty
def Cl.lst : Cl -> Dt
 | .l xs => xs
 | _ => []
@[simp] theorem Cl.int_i (n : Int) : (Cl.i n).int = n := rfl
@[simp] theorem Cl.bool_b (x : Bool) : (Cl.b x).bool = x := rfl
@[simp] theorem Cl.str_s (x : ByteArray) : (Cl.s x).str = x := rfl
@[simp] theorem Cl.lst_l (x : Dt) : (Cl.l x).lst = x := rfl
def cel (xs : Dt) (i k : Nat) : Cl := (xs.getD i []).getD k .z
def Ty.zeroV : Ty -> Value
 | .int k => .int k 0
 | .bool => .bool false
 | .str => .string ByteArray.empty
 | .sl _ => .slice none 0 0
def Ty.val : Ty -> Cl -> Value
 | .int k, c => .int k c.int
 | .bool, c => .bool c.bool
 | .str, c => .string c.str
 | .sl _, _ => .slice none 0 0
noncomputable def tyAt (ts : List Ty) (k : Nat) : Ty := List.rec (motive := fun _ => Nat -> Ty) (fun _ => .bool) (fun t _ ih k => Nat.rec (motive := fun _ => Ty) t (fun m _ => ih m) k) ts k
theorem Ye1 : ∀ (ts : List Ty) (k : Nat), tyAt ts k = ts.getD k .bool
 | [], _ => rfl
 | _ :: _, 0 => rfl
 | _ :: ts, k + 1 => by
  exact (Ye1 ts k).trans (by simp)
section
variable [InW]
inductive RdV : Ty -> Value -> Cl -> Prop
 | int (k : IntKind) (c : Cl) : RdV (.int k) (.int k c.int) c
 | bool (c : Cl) : RdV .bool (.bool c.bool) c
 | str (c : Cl) : RdV .str (.string c.str) c
 | sl (ts : List Ty) (A : Option Addr) (c : Nat) (d : Cl) (u : Nat -> Nat -> Value) (hc : d.lst.length <= c) (hm : d.lst.length <= maxLen)
   (ha : d.lst ≠ [] -> ∃ b off, A = some ⟨b, off, none⟩ /\ InW.F b /\ ∀ i k, i < d.lst.length -> k < ts.length -> InW.w.cell? ⟨b, off + i * ts.length + k, none⟩ = some (u i k))
   (h : ∀ i k t, i < d.lst.length -> ts[k]? = some t -> RdV t (u i k) (cel d.lst i k)) : RdV (.sl ts) (.slice A d.lst.length c) d
theorem RdV.lst {ts : List Ty} {v : Value} {c : Cl} (h : RdV (.sl ts) v c) : RdV (.sl ts) v (.l c.lst) := by
 cases h with
 | sl _ A cp d u hc hm ha h => exact .sl ts A cp (.l c.lst) u hc hm ha h
theorem RdV.nil {ts : List Ty} {c : Cl} (h : c.lst = []) : RdV (.sl ts) (.slice none 0 0) c := by
 have := RdV.sl ts none 0 c (fun _ _ => undef) (by simp [h]) (by simp [h]) (fun hn => absurd h hn) (fun i k t hi => by simp [h] at hi);rwa [h] at this
def Ro (ts : List Ty) : Type := { p : Value × Dt // RdV (.sl ts) p.1 (.l p.2) }
variable {ts : List Ty}
def Ro.v (r : Ro ts) : Value := r.1.1
def Ro.xs (r : Ro ts) : Dt := r.1.2
def Ro.nil (ts : List Ty) : Ro ts := ⟨(.slice none 0 0, []), RdV.nil rfl⟩
theorem Ro.inv (r : Ro ts) : ∃ A c, r.v = .slice A r.xs.length c /\ r.xs.length <= c /\ r.xs.length <= maxLen /\ ∃ u : Nat -> Nat -> Value,
  (r.xs ≠ [] -> ∃ b off, A = some ⟨b, off, none⟩ /\ InW.F b /\ ∀ i k, i < r.xs.length -> k < ts.length -> InW.w.cell? ⟨b, off + i * ts.length + k, none⟩ = some (u i k)) /\ ∀ i k t, i < r.xs.length -> ts[k]? = some t -> RdV t (u i k) (cel r.xs i k) := by
 obtain ⟨⟨v, xs⟩, h⟩ := r;unfold Ro.v Ro.xs;dsimp only at h ⊢;cases h with
 | sl _ A c d u hc hm ha h => exact ⟨A, c, rfl, hc, hm, u, ha, h⟩
def Ycn (v : Value) (k : Nat) : Addr := match v with | .slice (some a) _ _ => ⟨a.block, a.off + k, none⟩ | _ => ⟨0, k, none⟩
noncomputable def Ro.val (r : Ro ts) (i k : Nat) : Value := if i < r.xs.length /\ k < ts.length then (InW.w.cell? (Ycn r.v (i * ts.length + k))).getD undef else (tyAt ts k).val (cel r.xs i k)
theorem Ro.cell (r : Ro ts) {i k : Nat} (hi : i < r.xs.length) (hk : k < ts.length) : InW.w.cell? (Ycn r.v (i * ts.length + k)) = some (r.val i k) /\ (Ycn r.v (i * ts.length + k)).block < InW.B := by
 obtain ⟨A, c, hv, _, _, u, h1, h2⟩ := r.inv;obtain ⟨b, off, rfl, hb, h3⟩ := h1 (fun e => by rw [e] at hi; simp at hi);have h4 := h3 i k hi hk;rw [Nat.add_assoc] at h4;unfold Ro.val;rw [if_pos ⟨hi, hk⟩, hv];simp only [Ycn, h4, Option.getD_some, true_and];exact InW.lt _ hb
theorem Ro.ok (r : Ro ts) (i k : Nat) : RdV (tyAt ts k) (r.val i k) (cel r.xs i k) := by
 by_cases h : i < r.xs.length /\ k < ts.length
 ·obtain ⟨A, c, hv, _, _, u, h1, h2⟩ := r.inv;obtain ⟨b, off, rfl, hb, h3⟩ := h1 (fun e => by rw [e] at h; simp at h);have h4 := h3 i k h.1 h.2;rw [Nat.add_assoc] at h4;have e : r.val i k = u i k := by
   unfold Ro.val;rw [if_pos h, hv];simp only [Ycn, h4, Option.getD_some]
  rw [e, Ye1];exact h2 i k _ h.1 (by rw [List.getD_eq_getElem?_getD, List.getElem?_eq_getElem h.2]; rfl)
 ·have e : r.val i k = (tyAt ts k).val (cel r.xs i k) := by unfold Ro.val; rw [if_neg h]
  rw [e];cases ht : tyAt ts k with
  | int kd => exact .int _ _
  | bool => exact .bool _
  | str => exact .str _
  | sl ts' =>
   refine .nil ?_;have hk : k < ts.length := by
    rcases Nat.lt_or_ge k ts.length with h1 | h1
    ·exact h1
    ·rw [Ye1, List.getD_eq_getElem?_getD, List.getElem?_eq_none h1] at ht; cases ht
   unfold cel;rw [List.getD_eq_getElem?_getD (l := r.xs), List.getElem?_eq_none (by have : ¬ i < r.xs.length := fun hi => h ⟨hi, hk⟩; omega)];rfl
noncomputable def Ro.sub (r : Ro ts) (ts' : List Ty) (i k : Nat) (h : RdV (.sl ts') (r.val i k) (cel r.xs i k)) : Ro ts' := ⟨(r.val i k, (cel r.xs i k).lst), h.lst⟩
theorem RdV.isInt {k : IntKind} {v : Value} {c : Cl} (h : RdV (.int k) v c) : v = .int k c.int := by cases h; rfl
theorem RdV.isBool {v : Value} {c : Cl} (h : RdV .bool v c) : v = .bool c.bool := by cases h <;> rfl
theorem RdV.isStr {v : Value} {c : Cl} (h : RdV .str v c) : v = .string c.str := by cases h <;> rfl
theorem Ro.len (r : Ro ts) : r.xs.length <= maxLen := by
 obtain ⟨A, c, _, _, h2, _⟩ := r.inv;exact h2
theorem Yjc (v : Value) (k m : Nat) : Ycn v (k + m) = ⟨(Ycn v k).block, (Ycn v k).off + m, none⟩ := by
 unfold Ycn
 split <;> simp [Nat.add_assoc]
theorem Ymr (v : Value) (k : Nat) : Ycn v k = ⟨(Ycn v k).block, (Ycn v k).off, none⟩ := Yjc v k 0
def zeroV (v : Value) : Value := match v with | .slice A _ _ => .slice A 0 0 | v => v
def capV (v : Value) : Nat := match v with | .slice _ _ c => c | _ => 0
theorem Ro.zero_ok (r : Ro ts) : RdV (.sl ts) (zeroV r.v) (.l []) := by
 obtain ⟨A, c, hv, _⟩ := r.inv;rw [hv];exact .sl ts A 0 (.l []) (fun _ _ => undef) (by simp) (by simp) (fun hn => absurd rfl hn) (fun i k t hi => by simp at hi)
def Ro.zero (r : Ro ts) : Ro ts := ⟨(zeroV r.v, []), r.zero_ok⟩
theorem Ro.zero_v (r : Ro ts) : r.zero.v = zeroV r.v := rfl
def Ro.cutV (v : Value) (sz l h : Nat) : Value := match v with | .slice A _ c => .slice (if c = l then A else A.map (·.add (l * sz))) (h - l) (c - l) | v => v
theorem Ro.cut_ok (r : Ro ts) (l h : Nat) (hl : l <= h) (hh : h <= r.xs.length) : RdV (.sl ts) (Ro.cutV r.v ts.length l h) (.l ((r.xs.take h).drop l)) := by
 obtain ⟨A, c, hv, hc, hm, u, h1, h2⟩ := r.inv;rw [hv];unfold Ro.cutV;dsimp only;have hlen : ((r.xs.take h).drop l).length = h - l := by simp; omega
 have hget : ∀ i, i < h - l -> ((r.xs.take h).drop l).getD i [] = r.xs.getD (l + i) [] := fun i hi => by
  rw [List.getD_eq_getElem?_getD, List.getD_eq_getElem?_getD, List.getElem?_drop, List.getElem?_take, if_pos (by omega)]
 rw [<- hlen];refine .sl ts _ (c - l) (.l ((r.xs.take h).drop l)) (fun i k => u (l + i) k) (by simp only [Cl.lst]; omega) (by simp only [Cl.lst]; omega) (fun hne => ?_) (fun i k t hi ht => ?_)
 ·simp only [Cl.lst] at hne ⊢;have hpos : 0 < h - l := by
   rcases Nat.eq_zero_or_pos (h - l) with e | e
   ·exact absurd (List.length_eq_zero_iff.1 (hlen.trans e)) hne
   ·exact e
  obtain ⟨b, off, rfl, hb, h3⟩ := h1 (fun e => by rw [e] at hh; simp only [List.length_nil] at hh; omega);refine ⟨b, off + l * ts.length, by rw [if_neg (by omega), Option.map_some, Ym], hb, fun i k hi hk => ?_⟩;rw [hlen] at hi;rw [<- h3 (l + i) k (by omega) hk]
  congr 2
  rw [Nat.add_mul]; omega
 ·simp only [Cl.lst] at hi ⊢;rw [hlen] at hi;have e : cel ((r.xs.take h).drop l) i k = cel r.xs (l + i) k := by unfold cel; rw [hget i hi]
  rw [e];exact h2 (l + i) k t (by omega) ht
theorem Y32 (xs : Dt) (l h : Nat) : (xs.take (min h xs.length)).drop (min l (min h xs.length)) = (xs.take h).drop l := by
 have e1 : xs.take (min h xs.length) = xs.take h := by
  rcases Nat.le_total h xs.length with h1 | h1
  ·rw [Nat.min_eq_left h1]
  ·rw [Nat.min_eq_right h1, List.take_of_length_le (Nat.le_refl _), List.take_of_length_le h1]
 rw [e1];rcases Nat.le_total l (min h xs.length) with h1 | h1
 ·rw [Nat.min_eq_left h1]
 ·rw [Nat.min_eq_right h1, List.drop_eq_nil_of_le (by simp), List.drop_eq_nil_of_le (by simp; omega)]
def Ro.cut (r : Ro ts) (l h : Nat) : Ro ts := ⟨(Ro.cutV r.v ts.length (min l (min h r.xs.length)) (min h r.xs.length), (r.xs.take h).drop l), by
 have := r.cut_ok (min l (min h r.xs.length)) (min h r.xs.length) (Nat.min_le_right _ _) (Nat.min_le_right _ _);rwa [Y32] at this⟩
theorem Ro.cut_v (r : Ro ts) (l h : Nat) (hl : l <= h) (hh : h <= r.xs.length) : (r.cut l h).v = Ro.cutV r.v ts.length l h := by
 show Ro.cutV r.v ts.length (min l (min h r.xs.length)) (min h r.xs.length) = _
 rw [Nat.min_eq_left hh, Nat.min_eq_left hl]
end
theorem RdV.mono2 {W1 W2 : InW} (hF : ∀ b, W1.F b -> W2.F b) (hw : ∀ b, W1.F b -> W2.w.heap[b]? = W1.w.heap[b]?) {t : Ty} {v : Value} {c : Cl} (h : @RdV W1 t v c) : @RdV W2 t v c := by
 induction h with
 | int k c => exact @RdV.int W2 k c
 | bool c => exact @RdV.bool W2 c
 | str c => exact @RdV.str W2 c
 | sl ts A c d u hc hm ha h ih =>
  refine @RdV.sl W2 ts A c d u hc hm (fun hne => ?_) ih;obtain ⟨b, off, h1, h2, h3⟩ := ha hne;exact ⟨b, off, h1, hF b h2, fun i k hi hk => (World.cell?_of_block (show W2.w.heap[(⟨b, off + i * ts.length + k, none⟩ : Addr).block]? = W1.w.heap[(⟨b, off + i * ts.length + k, none⟩ : Addr).block]? from hw b h2)).trans (h3 i k hi hk)⟩
@[reducible] def atF (w : World) (F : Nat -> Prop) : InW := ⟨w, w.heap.size, fun b => b < w.heap.size /\ F b, fun _ h => h.1⟩
theorem RdV.grow {w w' : World} {F F' : Nat -> Prop} {t : Ty} {v : Value} {c : Cl} (h : @RdV (atF w F) t v c) (hF : ∀ b, b < w.heap.size -> F b -> b < w'.heap.size /\ F' b) (hw : ∀ b, b < w.heap.size -> F b -> w'.heap[b]? = w.heap[b]?) : @RdV (atF w' F') t v c :=
 RdV.mono2 (W1 := atF w F) (W2 := atF w' F') (fun b hb => hF b hb.1 hb.2) (fun b hb => hw b hb.1 hb.2) h
def froP (v : Value) (ts : List Ty) (xs : Dt) (F : Nat -> Prop) (w : World) : Prop := @RdV (atF w F) (.sl ts) v (.l xs)
def RowsRd (w : World) (F : Nat -> Prop) (ts : List Ty) (vs : List Value) (xs : Dt) : Prop := ∀ i k t, i < xs.length -> ts[k]? = some t -> ∃ u, vs[i * ts.length + k]? = some u /\ @RdV (atF w F) t u (cel xs i k)
def nstP (v : Value) (e : TypeId) (ts : List Ty) (n : Nat) (xs : Dt) (F : Nat -> Prop) (w : World) : Prop := xs.length = n /\ ∃ vs, w.ownsRow 0 e ts.length v n vs /\ RowsRd w F ts vs xs
def Res.fro (v : Value) (ts : List Ty) (xs : Dt) (F : Nat -> Prop) : Res := .abs [] F (froP v ts xs F)
def Res.nst (v : Value) (e : TypeId) (ts : List Ty) (n : Nat) (xs : Dt) (F : Nat -> Prop) : Res := .abs v.ownBlock.toList F (nstP v e ts n xs F)
theorem Yfo {w w' : World} {b : Nat} (hb : b < w.heap.size) (h : w'.heap[b]? = w.heap[b]?) : b < w'.heap.size := by
 rcases Nat.lt_or_ge b w'.heap.size with h3 | h3
 ·exact h3
 ·rw [Array.getElem?_eq_none h3, Array.getElem?_eq_getElem hb] at h; cases h
theorem RowsRd.grow {w w' : World} {F F' : Nat -> Prop} {ts : List Ty} {vs : List Value} {xs : Dt} (h : RowsRd w F ts vs xs) (hF : ∀ b, b < w.heap.size -> F b -> b < w'.heap.size /\ F' b) (hw : ∀ b, b < w.heap.size -> F b -> w'.heap[b]? = w.heap[b]?) : RowsRd w' F' ts vs xs :=
 fun i k t hi ht => by
  obtain ⟨u, h1, h2⟩ := h i k t hi ht;exact ⟨u, h1, h2.grow hF hw⟩
theorem Yl5 {v : Value} {ts : List Ty} {xs : Dt} {F : Nat -> Prop} {w : World} (hb : ∀ b, F b -> b < w.heap.size) (h : froP v ts xs F w) : (Res.fro v ts xs F).holds w :=
 ⟨fun b h => hb b (h.resolve_left (by simp)), by simp, fun w' hk => h.grow (fun b h1 h2 => ⟨Yfo h1 (hk b (.inr h2)), h2⟩) fun b _ h2 => hk b (.inr h2)⟩
theorem Yy8 {v : Value} {ts : List Ty} {xs : Dt} {F : Nat -> Prop} {w : World} (h : (Res.fro v ts xs F).holds w) : froP v ts xs F w := h.2.2 w fun _ _ => rfl
theorem Yhv {v : Value} {e : TypeId} {ts : List Ty} {n : Nat} {xs : Dt} {F : Nat -> Prop} {w : World} (hb : ∀ b, F b -> b < w.heap.size) (hn : ∀ b ∈ v.ownBlock.toList, ¬ F b) (h : nstP v e ts n xs F w) : (Res.nst v e ts n xs F).holds w := by
 obtain ⟨h1, vs, h2, h3⟩ := h;have hr : (Res.row v e ts.length n vs).holds w := h2;refine ⟨fun b h => h.elim (fun h => Res.lt hr b h) (hb b), hn, fun w' hk => ⟨h1, vs, ?_, h3.grow (fun b h1 h2 => ⟨Yfo h1 (hk b (.inr h2)), h2⟩) fun b _ h2 => hk b (.inr h2)⟩⟩;exact Res.keep hr fun b hb => hk b (.inl (hb.resolve_right fun h => False.elim h))
theorem Y4p {v : Value} {e : TypeId} {ts : List Ty} {n : Nat} {xs : Dt} {F : Nat -> Prop} {w : World} (h : (Res.nst v e ts n xs F).holds w) : nstP v e ts n xs F w := h.2.2 w fun _ _ => rfl
def Yv : List Ty -> List Cl -> List Value
 | [], _ => []
 | t :: ts, l => t.val (l.headD .z) :: Yv ts l.tail
def Yi (ts : List Ty) : Dt -> List Value
 | [] => []
 | l :: xs => Yv ts l ++ Yi ts xs
theorem Ybn : ∀ (ts : List Ty) (l : List Cl), (Yv ts l).length = ts.length
 | [], _ => rfl
 | t :: ts, l => by simp [Yv, Ybn ts]
theorem Yn (ts : List Ty) : ∀ xs : Dt, (Yi ts xs).length = xs.length * ts.length
 | [] => by simp [Yi]
 | l :: xs => by simp only [Yi, List.length_append, Ybn, Yn ts xs, List.length_cons, Nat.succ_mul]; omega
theorem Ynf : ∀ (ts : List Ty) (l : List Cl) (k : Nat), (Yv ts l)[k]? = (ts[k]?).map fun t => t.val (l.getD k .z)
 | [], _, _ => by simp [Yv]
 | t :: ts, l, 0 => by cases l <;> simp [Yv]
 | t :: ts, l, k + 1 => by
  simp only [Yv, List.getElem?_cons_succ, Ynf ts l.tail k];cases l <;> simp
theorem Yia (ts : List Ty) : ∀ (xs : Dt) (i k : Nat), i < xs.length -> k < ts.length -> (Yi ts xs)[i * ts.length + k]? = (ts[k]?).map fun t => t.val (cel xs i k)
 | [], i, k, hi, _ => by simp at hi
 | l :: xs, 0, k, _, hk => by
  simp only [Yi, Nat.zero_mul, Nat.zero_add];rw [List.getElem?_append_left (by rw [Ybn]; exact hk), Ynf];rfl
 | l :: xs, i + 1, k, hi, hk => by
  simp only [Yi];rw [List.getElem?_append_right (by rw [Ybn, Nat.succ_mul]; omega), Ybn, show (i + 1) * ts.length + k - ts.length = i * ts.length + k by rw [Nat.succ_mul]; omega,
   Yia ts xs i k (by simpa using hi) hk]
  rfl
theorem Y7 (ts : List Ty) : ∀ xs ys : Dt, Yi ts (xs ++ ys) = Yi ts xs ++ Yi ts ys
 | [], _ => rfl
 | l :: xs, ys => by simp [Yi, Y7 ts xs ys]
variable [InW]
inductive AV where
 | v (x : Value)
 | ptr (id k : Nat)
 | sl (id off lo n : Nat)
 | slc (id off n c : Nat)
 | emp (id : Nat)
 | agg (cs : List AV)
 | tup (cs : List AV)
 | fn (f : Fn) (first cap : List AV)
 | ifc (t : TypeId) (x : AV)
 | mp (id : Nat)
 | yl (id : Nat)
 | held (x : AV)
 | junk
 | si (k : IntKind) (n : Int)
 | sb (b : Bool)
 | ss (s : ByteArray)
 | rs (ts : List Ty) (r : Ro ts)
 | rp (ts : List Ty) (r : Ro ts) (i k : Nat)
 | rw (id : Nat)
 | ep (id sz i k : Nat)
 | rwp (id sz l n : Nat)
 | opq (id : Nat)
 | fp (id sz i k : Nat)
structure Hd where
 b : Nat
 nil : Bool
 c : Nat
 a : Option Addr := none
 fn : Nat := 0
 v : Value := undef
 F : Nat -> Prop := fun _ => False
abbrev Phi := Nat -> Hd
mutual
def AV.conc (φ : Phi) : AV -> Value
 | .v x => x
 | .ptr id k => .pointer (some ⟨(φ id).b, k, none⟩)
 | .sl id off lo n => .slice (if (φ id).nil then none else some ⟨(φ id).b, off, none⟩) n ((φ id).c - lo)
 | .slc id off n c => .slice (some ⟨(φ id).b, off, none⟩) n c
 | .emp id => .slice (φ id).a 0 (φ id).c
 | .agg cs => .agg (AV.concL φ cs).toArray
 | .tup cs => .tuple (AV.concL φ cs).toArray
 | .fn f a b => .func f (AV.concL φ a).toArray (AV.concL φ b).toArray
 | .ifc t x => .iface t (AV.conc φ x)
 | .mp id => .map (some (φ id).b)
 | .yl id => .func (.yield (φ id).b) #[] #[]
 | .held _ => undef
 | .junk => undef
 | .si k n => .int k n
 | .sb b => .bool b
 | .ss s => .string s
 | .rs _ r => r.v
 | .rp ts r i k => .pointer (some (Ycn r.v (i * ts.length + k)))
 | .rw id => .slice (if (φ id).nil then none else some ⟨(φ id).b, 0, none⟩) (φ id).fn (φ id).c
 | .ep id sz i k => .pointer (some ⟨(φ id).b, i * sz + k, none⟩)
 | .rwp id sz l n => .slice (if (φ id).c = l then (if (φ id).nil then none else some ⟨(φ id).b, 0, none⟩) else (if (φ id).nil then none else some ⟨(φ id).b, 0, none⟩ : Option Addr).map (·.add (l * sz))) n ((φ id).c - l)
 | .opq id => (φ id).v
 | .fp id sz i k => .pointer (some (Ycn (φ id).v (i * sz + k)))
def AV.concL (φ : Phi) : List AV -> List Value
 | [] => []
 | x :: xs => AV.conc φ x :: AV.concL φ xs
end
mutual
def AV.has (i : Nat) : AV -> Bool
 | .v _ => false
 | .ptr id _ => Nat.beq id i
 | .sl id _ _ _ => Nat.beq id i
 | .slc id _ _ _ => Nat.beq id i
 | .emp id => Nat.beq id i
 | .agg cs => AV.hasL i cs
 | .tup cs => AV.hasL i cs
 | .fn _ a b => AV.hasL i a || AV.hasL i b
 | .ifc _ x => AV.has i x
 | .mp id => Nat.beq id i
 | .yl id => Nat.beq id i
 | .held x => AV.has i x
 | .junk => false
 | .si _ _ => false
 | .sb _ => false
 | .ss _ => false
 | .rs _ _ => false
 | .rp _ _ _ _ => false
 | .rw id => Nat.beq id i
 | .ep id _ _ _ => Nat.beq id i
 | .rwp id _ _ _ => Nat.beq id i
 | .opq id => Nat.beq id i
 | .fp id _ _ _ => Nat.beq id i
def AV.hasL (i : Nat) : List AV -> Bool
 | [] => false
 | x :: xs => AV.has i x || AV.hasL i xs
end
def AV.rd : AV -> Bool
 | .junk => false
 | .held _ => false
 | _ => true
attribute [simp] AV.rd
def AV.isHeld : AV -> Bool
 | .held _ => true
 | _ => false
def AV.cut : AV -> AV
 | .held _ => .junk
 | x => x
theorem Y4i {x : AV} (h : x.cut.rd = true) : x.cut = x /\ x.rd = true := by cases x <;> simp_all [AV.cut]
theorem Yvk (x : AV) : x.cut.isHeld = false := by cases x <;> rfl
theorem Y3n {x : AV} {i : Nat} (h : x.has i = false) : x.cut.has i = false := by cases x <;> first | exact h | rfl
def Ybr : List AV -> List AV
 | [] => []
 | .held x :: xs => x :: Ybr xs
 | _ :: xs => Ybr xs
def Yci : List AV -> Nat -> AV -> List AV
 | [], _, _ => []
 | x :: xs, 0, v => (match x with | .held y => .held y | _ => v.cut) :: xs
 | x :: xs, n + 1, v => x :: Yci xs n v
theorem Yji : ∀ (tm : List AV) (d : Nat) (v : AV), (Yci tm d v).length = tm.length
 | [], _, _ => rfl
 | x :: xs, 0, v => by simp [Yci]
 | x :: xs, d + 1, v => by simp [Yci, Yji xs d v]
theorem Yj2 : ∀ (tm : List AV) {d t : Nat} (v : AV), t ≠ d -> (Yci tm d v)[t]? = tm[t]?
 | [], _, _, _, _ => rfl
 | x :: xs, 0, 0, v, h => absurd rfl h
 | x :: xs, 0, t + 1, v, _ => by simp [Yci]
 | x :: xs, d + 1, 0, v, _ => by simp [Yci]
 | x :: xs, d + 1, t + 1, v, h => by simpa [Yci] using Yj2 xs v (show t ≠ d by omega)
theorem Ypk : ∀ (tm : List AV) {d : Nat} (v : AV), (Yci tm d v)[d]? = (tm[d]?).map fun x => if x.isHeld then x else v.cut
 | [], _, _ => by simp [Yci]
 | x :: xs, 0, v => by cases x <;> simp [Yci, AV.isHeld]
 | x :: xs, d + 1, v => by simpa [Yci] using Ypk xs v
theorem Yn1 : ∀ (tm : List AV) {d e : Nat} (v u : AV), d ≠ e -> Yci (Yci tm d v) e u = Yci (Yci tm e u) d v
 | [], _, _, _, _, _ => rfl
 | x :: xs, 0, 0, v, u, h => absurd rfl h
 | x :: xs, 0, e + 1, v, u, _ => by simp [Yci]
 | x :: xs, d + 1, 0, v, u, _ => by simp [Yci]
 | x :: xs, d + 1, e + 1, v, u, h => by simp [Yci, Yn1 xs v u (show d ≠ e by omega)]
theorem Ybh (x : AV) (xs : List AV) : Ybr (x :: xs) = (match x with | .held y => [y] | _ => []) ++ Ybr xs := by cases x <;> rfl
theorem Yjp : ∀ (tm : List AV) (d : Nat) (v : AV), Ybr (Yci tm d v) = Ybr tm
 | [], _, _ => rfl
 | x :: xs, 0, v => by
  cases x <;> simp only [Yci, Ybh, List.nil_append]
  all_goals (have := Yvk v; cases hv : v.cut <;> simp_all [AV.isHeld])
 | x :: xs, d + 1, v => by simp only [Yci, Ybh, Yjp xs d v]
def Agree (ks : List Nat) (φ φ' : Phi) : Prop := ∀ i, i ∉ ks -> φ' i = φ i
theorem Agree.refl (ks : List Nat) (φ : Phi) : Agree ks φ φ := fun _ _ => rfl
mutual
theorem Yeu {ks : List Nat} {φ φ' : Phi} (h : Agree ks φ φ') : ∀ x : AV, (∀ i ∈ ks, x.has i = false) -> x.conc φ' = x.conc φ
 | .v _, _ => rfl
 | .ptr id k, hx => by
  have : id ∉ ks := fun hm => by have := hx id hm; simp [AV.has, Nat.beq_refl] at this
  simp only [AV.conc, h id this]
 | .sl id _ _ _, hx => by
  have : id ∉ ks := fun hm => by have := hx id hm; simp [AV.has, Nat.beq_refl] at this
  simp only [AV.conc, h id this]
 | .slc id _ _ _, hx => by
  have : id ∉ ks := fun hm => by have := hx id hm; simp [AV.has, Nat.beq_refl] at this
  simp only [AV.conc, h id this]
 | .emp id, hx => by
  have : id ∉ ks := fun hm => by have := hx id hm; simp [AV.has, Nat.beq_refl] at this
  simp only [AV.conc, h id this]
 | .agg cs, hx => by simp only [AV.conc, Y1 h cs fun i hi => by simpa [AV.has] using hx i hi]
 | .tup cs, hx => by simp only [AV.conc, Y1 h cs fun i hi => by simpa [AV.has] using hx i hi]
 | .fn f a b, hx => by
  have hx' : ∀ i ∈ ks, AV.hasL i a = false /\ AV.hasL i b = false := fun i hi => by simpa [AV.has] using hx i hi
  simp only [AV.conc, Y1 h a fun i hi => (hx' i hi).1, Y1 h b fun i hi => (hx' i hi).2]
 | .ifc t x, hx => by simp only [AV.conc, Yeu h x fun i hi => by simpa [AV.has] using hx i hi]
 | .mp id, hx => by
  have : id ∉ ks := fun hm => by have := hx id hm; simp [AV.has, Nat.beq_refl] at this
  simp only [AV.conc, h id this]
 | .yl id, hx => by
  have : id ∉ ks := fun hm => by have := hx id hm; simp [AV.has, Nat.beq_refl] at this
  simp only [AV.conc, h id this]
 | .held _, _ => rfl
 | .junk, _ => rfl
 | .si _ _, _ => rfl
 | .sb _, _ => rfl
 | .ss _, _ => rfl
 | .rs _ _, _ => rfl
 | .rp _ _ _ _, _ => rfl
 | .rw id, hx => by
  have : id ∉ ks := fun hm => by have := hx id hm; simp [AV.has, Nat.beq_refl] at this
  simp only [AV.conc, h id this]
 | .ep id _ _ _, hx => by
  have : id ∉ ks := fun hm => by have := hx id hm; simp [AV.has, Nat.beq_refl] at this
  simp only [AV.conc, h id this]
 | .rwp id _ _ _, hx => by
  have : id ∉ ks := fun hm => by have := hx id hm; simp [AV.has, Nat.beq_refl] at this
  simp only [AV.conc, h id this]
 | .opq id, hx => by
  have : id ∉ ks := fun hm => by have := hx id hm; simp [AV.has, Nat.beq_refl] at this
  simp only [AV.conc, h id this]
 | .fp id _ _ _, hx => by
  have : id ∉ ks := fun hm => by have := hx id hm; simp [AV.has, Nat.beq_refl] at this
  simp only [AV.conc, h id this]
theorem Y1 {ks : List Nat} {φ φ' : Phi} (h : Agree ks φ φ') : ∀ xs : List AV, (∀ i ∈ ks, AV.hasL i xs = false) -> AV.concL φ' xs = AV.concL φ xs
 | [], _ => rfl
 | x :: xs, hx => by
  have hx' : ∀ i ∈ ks, x.has i = false /\ AV.hasL i xs = false := fun i hi => by simpa [AV.hasL] using hx i hi
  simp only [AV.concL, Yeu h x fun i hi => (hx' i hi).1, Y1 h xs fun i hi => (hx' i hi).2]
end
theorem Yx (φ : Phi) : ∀ xs : List AV, AV.concL φ xs = xs.map (AV.conc φ)
 | [] => rfl
 | x :: xs => by simp [AV.concL, Yx φ xs]
theorem Yp (i : Nat) : ∀ xs : List AV, AV.hasL i xs = xs.any (AV.has i)
 | [] => rfl
 | x :: xs => by simp [AV.hasL, Yp i xs]
theorem Yh7 {i : Nat} {xs : List AV} (h : AV.hasL i xs = false) {x : AV} (hx : x ∈ xs) : x.has i = false := by
 rw [Yp, List.any_eq_false] at h;simpa using h x hx
def entI : Nat -> List (Int × Int) -> List MapEntry
 | _, [] => []
 | n, p :: es => ⟨.int .i64 p.1, .int .i64 p.2, n⟩ :: entI (n + 1) es
def entP : Nat -> Dt -> List MapEntry
 | _, [] => []
 | n, r :: es => ⟨.agg #[.int .i64 (r.getD 0 .z).int, .int .i64 (r.getD 1 .z).int, .int .i64 (r.getD 2 .z).int, .int .i64 (r.getD 3 .z).int, .int .i64 (r.getD 4 .z).int, .int .i64 (r.getD 5 .z).int], .int .i64 (r.getD 6 .z).int, n⟩ :: entP (n + 1) es
inductive OI where
 | sit (s : ByteArray) (pos : Nat)
 | mpV (es : List MapEntry) (clock : Nat)
 | dfb (open_ : Bool)
 | mpI (es : List (Int × Int))
 | mpP (xs : Dt)
def OI.obj : OI -> Obj
 | .sit s pos => .stringIter s pos
 | .mpV es clock => .map es.toArray clock
 | .dfb true => .deferred (some [])
 | .dfb false => .deferred none
 | .mpI es => .map (entI 0 es).toArray es.length
 | .mpP xs => .map (entP 0 xs).toArray xs.length
structure LI where
 st : LoopState
 pend : Option Code
 ps : Array Tmp
 assign : Code
 body : Code
def defB : List Value -> Nat
 | .map (some b) :: _ => b
 | _ => 0
def LI.obj (L : LI) (fn : Nat) (vs : List Value) : Obj := .loop { state := L.st, pending := L.pend, fn := fn, tmps := vs.tail.toArray, params := L.ps, assign := L.assign, body := L.body, defers := defB vs }
inductive It where
 | blk (T : TypeId) (cs : List AV)
 | row (T sz n : Nat) (cs : List AV)
 | rowV (T sz n : Nat) (xs : List Value)
 | obj (x : OI)
 | lp (L : LI) (cs : List AV)
 | dead
 | arr (T : Nat) (ts : List Ty) (xs : Dt)
 | bk (T : Nat) (ts : List Ty) (xs : Dt) (j : Nat)
 | bkv (T sz n : Nat) (cs : List AV) (j : Nat)
 | nst (T : Nat) (ts : List Ty) (xs : Dt)
 | fro (ts : List Ty) (xs : Dt)
def Yt0 (h h' : Hd) (T : Nat) (ts : List Ty) (xs : Dt) : Res :=
 if h.nil = false /\ h'.nil = false /\ h.b = h'.b then (if h.c = h'.c /\ h.fn = xs.length /\ h.fn <= h.c then .row (.slice none 0 0) 0 0 0 [] else .row (.slice none 0 0) 0 0 1 [])
 else .row (.slice (if h.nil then none else some ⟨h.b, 0, none⟩) h.fn h.c) T ts.length h.fn (Yi ts xs)
def Ywp (h h' : Hd) (T sz n : Nat) (xs : List Value) : Res :=
 if h.nil = false /\ h'.nil = false /\ h.b = h'.b then (if h.c = h'.c /\ n <= h.c then .row (.slice none 0 0) 0 0 0 [] else .row (.slice none 0 0) 0 0 1 [])
 else .row (.slice (if h.nil then none else some ⟨h.b, 0, none⟩) n h.c) T sz n xs
def It.conc (φ : Phi) (id : Nat) : It -> Res
 | .blk T cs => .blk (φ id).b (.cells (AV.concL φ cs).toArray T (0, 0))
 | .row T sz n cs => .row (.slice (if (φ id).nil then none else some ⟨(φ id).b, 0, none⟩) n (φ id).c) T sz n (AV.concL φ cs)
 | .rowV T sz n xs => .row (.slice (if (φ id).nil then none else some ⟨(φ id).b, 0, none⟩) n (φ id).c) T sz n xs
 | .obj x => .blk (φ id).b x.obj
 | .lp L cs => .blk (φ id).b (L.obj (φ id).fn (AV.concL φ cs))
 | .dead => .row (.slice none 0 0) 0 0 0 []
 | .arr T ts xs => .row (.slice (if (φ id).nil then none else some ⟨(φ id).b, 0, none⟩) (φ id).fn (φ id).c) T ts.length (φ id).fn (Yi ts xs)
 | .bk T ts xs j => Yt0 (φ id) (φ j) T ts xs
 | .bkv T sz n cs j => Ywp (φ id) (φ j) T sz n (AV.concL φ cs)
 | .nst T ts xs => .nst (.slice (if (φ id).nil then none else some ⟨(φ id).b, 0, none⟩) (φ id).fn (φ id).c) T ts (φ id).fn xs (φ id).F
 | .fro ts xs => .fro (φ id).v ts xs (φ id).F
def It.has (i : Nat) : It -> Bool
 | .blk _ cs => AV.hasL i cs
 | .row _ _ _ cs => AV.hasL i cs
 | .rowV .. => false
 | .obj _ => false
 | .lp _ cs => AV.hasL i cs
 | .dead => false
 | .arr .. => false
 | .bk _ _ _ j => Nat.beq j i
 | .bkv _ _ _ cs j => Nat.beq j i || AV.hasL i cs
 | .nst .. => false
 | .fro .. => false
abbrev Heap := List (Nat × It)
def keys (h : Heap) : List Nat := h.map (·.1)
def Yb (φ : Phi) (h : Heap) : RL := h.map fun p => p.2.conc φ p.1
theorem Ygk {ks : List Nat} {φ φ' : Phi} (h : Agree ks φ φ') {id : Nat} (hid : id ∉ ks) : ∀ x : It, (∀ i ∈ ks, x.has i = false) -> x.conc φ' id = x.conc φ id
 | .blk T cs, hx => by simp only [It.conc, h id hid, Y1 h cs fun i hi => by simpa [It.has] using hx i hi]
 | .row T sz n cs, hx => by simp only [It.conc, h id hid, Y1 h cs fun i hi => by simpa [It.has] using hx i hi]
 | .rowV .., hx => by simp only [It.conc, h id hid]
 | .obj _, hx => by simp only [It.conc, h id hid]
 | .lp L cs, hx => by simp only [It.conc, h id hid, Y1 h cs fun i hi => by simpa [It.has] using hx i hi]
 | .dead, hx => rfl
 | .arr .., hx => by simp only [It.conc, h id hid]
 | .bk _ _ _ j, hx => by
  have : j ∉ ks := fun hm => by have := hx j hm; simp [It.has, Nat.beq_refl] at this
  simp only [It.conc, h id hid, h j this]
 | .nst .., hx => by simp only [It.conc, h id hid]
 | .fro .., hx => by simp only [It.conc, h id hid]
 | .bkv _ _ _ cs j, hx => by
  have : j ∉ ks := fun hm => by have := hx j hm; simp [It.has, Nat.beq_refl] at this
  simp only [It.conc, h id hid, h j this, Y1 h cs fun i hi => by have := hx i hi; simp only [It.has, Bool.or_eq_false_iff] at this; exact this.2]
def hasH (i : Nat) : Heap -> Bool
 | [] => false
 | p :: h => Nat.beq p.1 i || p.2.has i || hasH i h
theorem Yu {i : Nat} {h : Heap} (hh : hasH i h = false) {p : Nat × It} (hp : p ∈ h) : p.1 ≠ i /\ p.2.has i = false := by
 induction h with
 | nil => cases hp
 | cons q h ih =>
  simp only [hasH, Bool.or_eq_false_iff] at hh;rcases List.mem_cons.1 hp with rfl | hp
  ·exact ⟨fun e => by rw [e, Nat.beq_refl] at hh; simp at hh, hh.1.2⟩
  ·exact ih hh.2 hp
theorem Yf6 {i : Nat} {h : Heap} (hh : ∀ p ∈ h, p.1 ≠ i /\ p.2.has i = false) : hasH i h = false := by
 induction h with
 | nil => rfl
 | cons q h ih =>
  have h1 := hh q List.mem_cons_self;simp only [hasH, Bool.or_eq_false_iff];refine ⟨⟨?_, h1.2⟩, ih fun p hp => hh p (List.mem_cons_of_mem _ hp)⟩;cases hb : Nat.beq q.1 i with
  | false => rfl
  | true => exact absurd (Nat.eq_of_beq_eq_true hb) h1.1
theorem Ybw {ks : List Nat} {φ φ' : Phi} (h : Agree ks φ φ') {hp : Heap} (hx : ∀ i ∈ ks, hasH i hp = false) : Yb φ' hp = Yb φ hp := by
 unfold Yb;refine List.map_congr_left fun p hp' => Ygk h (fun hm => (Yu (hx _ hm) hp').1 rfl) _ fun i hi => (Yu (hx i hi) hp').2
theorem Yo (φ : Phi) (a b : Heap) : Yb φ (a ++ b) = Yb φ a ++ Yb φ b := by simp [Yb]
def look : Heap -> Nat -> Option It
 | [], _ => none
 | p :: h, i => match Nat.beq p.1 i with | true => some p.2 | false => look h i
def upd : Heap -> Nat -> It -> Heap
 | [], _, _ => []
 | p :: h, i, x => match Nat.beq p.1 i with | true => (p.1, x) :: h | false => p :: upd h i x
def ins : Heap -> Nat -> It -> Heap
 | [], i, x => [(i, x)]
 | p :: h, i, x => match Nat.ble p.1 i with | true => p :: ins h i x | false => (i, x) :: p :: h
def Yh (h : Heap) : Heap -> Heap
 | [] => h
 | p :: us => Yh (upd h p.1 p.2) us
def Y9 (h : Heap) : Heap -> Heap
 | [] => h
 | p :: us => Y9 (ins h p.1 p.2) us
theorem Yd {a b : Nat} : Nat.beq a b = true ↔ a = b := ⟨Nat.eq_of_beq_eq_true, fun h => by rw [h, Nat.beq_refl]⟩
theorem Y3 {a b : Nat} : Nat.beq a b = false ↔ a ≠ b := by
 rw [<- Bool.not_eq_true, ne_eq, Yd]
theorem Yr (p : Nat × It) (h : Heap) (i : Nat) : look (p :: h) i = if p.1 = i then some p.2 else look h i := by
 by_cases e : p.1 = i
 ·simp only [look, Yd.2 e, if_pos e]
 ·simp only [look, Y3.2 e, if_neg e]
theorem Ypr (h : Heap) (i : Nat) (x : It) (k : Nat) : look (upd h i x) k = if k = i /\ (look h i).isSome then some x else look h k := by
 induction h with
 | nil => simp [upd, look]
 | cons p h ih =>
  unfold upd
  by_cases e : p.1 = i
  ·rw [Yd.2 e];simp only [Yr, e]
   by_cases ek : i = k
   ·subst ek; simp
   ·simp [ek, show ¬ k = i from fun h => ek h.symm]
  ·rw [Y3.2 e];simp only [Yr, ih, e, if_false]
   by_cases ek : p.1 = k
   ·subst ek; simp [e]
   ·simp [ek]
theorem Yj8 (h : Heap) (i : Nat) (x : It) : keys (upd h i x) = keys h := by
 induction h with
 | nil => rfl
 | cons p h ih =>
  unfold upd;cases Nat.beq p.1 i <;> simp_all [keys]
theorem Y1f (h : Heap) (i : Nat) (x : It) (k : Nat) (hn : look h i = none) : look (ins h i x) k = if k = i then some x else look h k := by
 induction h with
 | nil => simp only [ins, Yr, look]; by_cases e : i = k <;> simp [e, eq_comm]
 | cons p h ih =>
  have hp : p.1 ≠ i := fun e => by simp [Yr, e] at hn
  have hn' : look h i = none := by simpa [Yr, hp] using hn
  unfold ins;cases Nat.ble p.1 i with
  | true =>
   simp only [Yr, ih hn']
   by_cases ek : p.1 = k
   ·subst ek; simp [hp]
   ·simp [ek]
  | false =>
   simp only [Yr]
   by_cases ek : i = k
   ·subst ek; simp
   ·simp [ek, show ¬ k = i from fun h => ek h.symm]
theorem Yva (h : Heap) (i : Nat) (x : It) : (keys (ins h i x)).Perm (i :: keys h) := by
 induction h with
 | nil => exact List.Perm.refl _
 | cons p h ih =>
  unfold ins;cases Nat.ble p.1 i with
  | true => exact (List.Perm.cons _ ih).trans (List.Perm.swap _ _ _)
  | false => exact List.Perm.refl _
theorem Ybm {h : Heap} {i : Nat} (hh : i ∉ keys h) : look h i = none := by
 induction h with
 | nil => rfl
 | cons p h ih =>
  simp only [keys, List.map_cons, List.mem_cons, not_or] at hh;rw [Yr, if_neg (Ne.symm hh.1)];exact ih hh.2
theorem Ych {h : Heap} {i : Nat} {x : It} (hl : look h i = some x) : i ∈ keys h := by
 cases Classical.em (i ∈ keys h) with
 | inl h => exact h
 | inr hh => rw [Ybm hh] at hl; cases hl
theorem Yba {h : Heap} {i : Nat} {x : It} (hl : look h i = some x) : (i, x) ∈ h := by
 induction h with
 | nil => simp [look] at hl
 | cons p h ih =>
  rw [Yr] at hl
  split at hl
  ·rename_i e;cases hl;rw [<- e];exact List.mem_cons_self
  ·exact List.mem_cons_of_mem _ (ih hl)
theorem Ybv {h : Heap} (hn : (keys h).Nodup) {p : Nat × It} (hm : p ∈ h) : look h p.1 = some p.2 := by
 induction h with
 | nil => cases hm
 | cons q h ih =>
  simp only [keys, List.map_cons, List.nodup_cons] at hn;rw [Yr];rcases List.mem_cons.1 hm with rfl | hm
  ·simp
  ·rw [if_neg (fun e => hn.1 (by rw [e]; exact List.mem_map_of_mem hm))];exact ih hn.2 hm
theorem Yhw {h : Heap} (hn : (keys h).Nodup) : h.Nodup := by
 induction h with
 | nil => exact List.nodup_nil
 | cons q h ih =>
  simp only [keys, List.map_cons, List.nodup_cons] at hn;exact List.nodup_cons.2 ⟨fun hm => hn.1 (List.mem_map_of_mem hm), ih hn.2⟩
theorem Yfr {h k : Heap} (hn : (keys h).Nodup) (kn : (keys k).Nodup) (e : ∀ i, look h i = look k i) : h.Perm k := by
 refine (List.perm_ext_iff_of_nodup (Yhw hn) (Yhw kn)).2 fun p => ⟨fun hm => ?_, fun hm => ?_⟩
 ·exact Yba ((e _).symm.trans (Ybv hn hm))
 ·exact Yba ((e _).trans (Ybv kn hm))
theorem Yd0 : ∀ (us h : Heap), keys (Yh h us) = keys h
 | [], h => rfl
 | p :: us, h => by rw [Yh, Yd0 us, Yj8]
theorem Yh3 (a b : Heap) (i : Nat) : look (a ++ b) i = (look a i).or (look b i) := by
 induction a with
 | nil => rfl
 | cons p a ih =>
  rw [List.cons_append, Yr, Yr, ih]
  split <;> rfl
theorem Ybk (a b : Heap) : keys (a ++ b) = keys a ++ keys b := by simp [keys]
theorem Yg7 : ∀ (us h : Heap), (keys us).Nodup -> (∀ i ∈ keys us, i ∉ keys h) -> ∀ k, look (Y9 h us) k = (look us k).or (look h k)
 | [], h, _, _, k => rfl
 | p :: us, h, hn, hf, k => by
  simp only [keys, List.map_cons, List.nodup_cons, List.mem_cons, forall_eq_or_imp] at hn hf;rw [Y9, Yg7 us _ hn.2 (fun i hi hm => ?_) k, Y1f _ _ _ _ (Ybm hf.1), Yr]
  ·by_cases e : k = p.1
   ·subst e; simp [Ybm hn.1]
   ·simp [e, show ¬ p.1 = k from fun h => e h.symm]
  ·rcases List.mem_cons.1 ((Yva h p.1 p.2).mem_iff.1 hm) with e | hm
   ·exact hn.1 (e ▸ hi)
   ·exact hf.2 i hi hm
theorem Yg8 : ∀ (us h : Heap), (keys (Y9 h us)).Perm (keys us ++ keys h)
 | [], h => List.Perm.refl _
 | p :: us, h => by
  rw [Y9];refine (Yg8 us _).trans ?_;refine ((List.Perm.refl _).append (Yva h p.1 p.2)).trans ?_;simp only [keys, List.map_cons, List.cons_append];exact List.perm_middle
end Go.Proofs.Ytilnbgpogfabaaa
namespace Go.Proofs.Ytilnbgpogfabaaa
open Go.RowKit
variable [InW]
def rg : Nat -> Nat -> List Nat
 | _, 0 => []
 | a, n + 1 => a :: rg (a + 1) n
def Stuck (n : Nat) : Prop := n = n + 1
theorem Stuck.elim {n : Nat} {α : Prop} (h : Stuck n) : α := absurd h (by unfold Stuck; omega)
attribute [irreducible] Stuck
def vcIf (b : Bool) (A B : Prop) : Prop := match b with | true => A | false => B
def Yyn (b : Bool) : Prop := b = false /\ False
def Yc (b : Bool) (A : Prop) : Prop := match b with | true => A | false => Yyn b
def Y5 (n : Nat) (K : Nat -> Prop) : Prop := match n with | 0 => K 0 | m + 1 => K (m + 1)
def Y2p (n : Int) (K : Int -> Prop) : Prop := match n with | .ofNat m => Y5 m fun m => K (.ofNat m) | .negSucc m => Y5 m fun m => K (.negSucc m)
theorem Yfh {b : Bool} {A B : Prop} (h : vcIf b A B) : (b = true /\ A) \/ (b = false /\ B) := by cases b <;> simp_all [vcIf]
theorem Ya {b : Bool} {A : Prop} (h : Yc b A) : b = true /\ A := by cases b <;> simp_all [Yc, Yyn]
theorem Yj {n : Nat} {K : Nat -> Prop} : Y5 n K ↔ K n := by cases n <;> exact Iff.rfl
theorem Ywv {n : Int} {K : Int -> Prop} : Y2p n K ↔ K n := by
 cases n with
 | ofNat m => exact Yj (K := fun m => K (.ofNat m))
 | negSucc m => exact Yj (K := fun m => K (.negSucc m))
inductive Vif (b : Bool) (A B : Prop) : Prop where
 | mk (h1 : b = true -> A) (h2 : b = false -> B)
inductive Need (b : Bool) (A : Prop) : Prop where
 | mk (h : b = true) (a : A)
inductive Ar (k : IntKind) (n : Int) (K : Int -> Prop) : Prop where
 | mk (h : K (k.wrap n))
theorem Vif.spec {b : Bool} {A B : Prop} (h : Vif b A B) : (b = true /\ A) \/ (b = false /\ B) := by
 obtain ⟨h1, h2⟩ := h;cases b
 ·exact .inr ⟨rfl, h2 rfl⟩
 ·exact .inl ⟨rfl, h1 rfl⟩
theorem Vif_iff {b : Bool} {A B : Prop} : Vif b A B ↔ (b = true -> A) /\ (b = false -> B) := ⟨fun ⟨a, b⟩ => ⟨a, b⟩, fun ⟨a, b⟩ => ⟨a, b⟩⟩
theorem Y19 {b : Bool} {A : Prop} : Need b A ↔ b = true /\ A := ⟨fun ⟨a, b⟩ => ⟨a, b⟩, fun ⟨a, b⟩ => ⟨a, b⟩⟩
section
variable {α : Type}
def getK (l : List α) : Nat -> (α -> Prop) -> Prop :=
 List.rec (motive := fun _ => Nat -> (α -> Prop) -> Prop) (fun _ _ => Stuck 2) (fun x _ ih n K => Nat.rec (motive := fun _ => Prop) (K x) (fun m _ => ih m K) n) l
def Yjx : List α -> Nat -> (List α -> Prop) -> Prop
 | l, 0, K => K l
 | [], _ + 1, _ => Stuck 4
 | _ :: xs, n + 1, K => Yjx xs n K
def Yjt : List α -> Nat -> (List α -> Prop) -> Prop
 | _, 0, K => K []
 | [], _ + 1, _ => Stuck 5
 | x :: xs, n + 1, K => Yjt xs n fun r => K (x :: r)
def Y05 : List α -> List α -> (List α -> Prop) -> Prop
 | l, [], K => K l
 | [], _ :: _, _ => Stuck 6
 | _ :: xs, v :: vs, K => Y05 xs vs fun r => K (v :: r)
def Yq9 : List α -> Nat -> List α -> (List α -> Prop) -> Prop
 | l, 0, vs, K => Y05 l vs K
 | [], _ + 1, _, _ => Stuck 7
 | x :: xs, n + 1, vs, K => Yq9 xs n vs fun r => K (x :: r)
def appK : List α -> List α -> (List α -> Prop) -> Prop
 | [], m, K => K m
 | x :: xs, m, K => appK xs m fun r => K (x :: r)
theorem Ybo {K : α -> Prop} : ∀ {l : List α} {n : Nat}, getK l n K -> ∃ x, l[n]? = some x /\ K x
 | [], _, h => h.elim
 | x :: xs, 0, h => ⟨x, rfl, h⟩
 | x :: xs, n + 1, h => by simpa using Ybo (l := xs) h
theorem Ycc {K : List α -> Prop} : ∀ {l : List α} {n : Nat}, Yjx l n K -> n <= l.length /\ K (l.drop n)
 | l, 0, h => ⟨Nat.zero_le _, by simpa [Yjx] using h⟩
 | [], _ + 1, h => h.elim
 | x :: xs, n + 1, h => by simpa using Ycc (l := xs) h
theorem Yca : ∀ {l : List α} {n : Nat} {K : List α -> Prop}, Yjt l n K -> n <= l.length /\ K (l.take n)
 | l, 0, _, h => ⟨Nat.zero_le _, by simpa [Yjt] using h⟩
 | [], _ + 1, _, h => h.elim
 | x :: xs, n + 1, K, h => by simpa using Yca (l := xs) h
theorem Yn5 : ∀ {l vs : List α} {K : List α -> Prop}, Y05 l vs K -> vs.length <= l.length /\ K (vs ++ l.drop vs.length)
 | l, [], _, h => ⟨Nat.zero_le _, by simpa [Y05] using h⟩
 | [], _ :: _, _, h => h.elim
 | x :: xs, v :: vs, K, h => by simpa using Yn5 (l := xs) h
theorem Yen {vs : List α} : ∀ {l : List α} {k : Nat} {K : List α -> Prop}, Yq9 l k vs K -> k + vs.length <= l.length /\ K (l.take k ++ vs ++ l.drop (k + vs.length))
 | l, 0, K, h => by simpa [Yq9] using Yn5 (by simpa [Yq9] using h)
 | [], _ + 1, _, h => h.elim
 | x :: xs, n + 1, K, h => by
  have := Yen (l := xs) h;simp only [List.length_cons, List.take_succ_cons, List.cons_append, show n + 1 + vs.length = n + vs.length + 1 by omega, List.drop_succ_cons];exact ⟨by omega, this.2⟩
theorem Ydo : ∀ {l m : List α} {K : List α -> Prop}, appK l m K ↔ K (l ++ m)
 | [], m, K => Iff.rfl
 | x :: xs, m, K => by simpa [appK] using Ydo (l := xs)
end
def Y0 : Heap -> Nat -> (It -> Prop) -> Prop
 | [], _, _ => Stuck 8
 | p :: h, i, K => match Nat.beq p.1 i with | true => K p.2 | false => Y0 h i K
def updK : Heap -> Nat -> It -> (Heap -> Prop) -> Prop
 | [], _, _, K => K []
 | p :: h, i, x, K => match Nat.beq p.1 i with | true => K ((p.1, x) :: h) | false => updK h i x fun r => K (p :: r)
def insK : Heap -> Nat -> It -> (Heap -> Prop) -> Prop
 | [], i, x, K => K [(i, x)]
 | p :: h, i, x, K => match Nat.ble p.1 i with | true => insK h i x fun r => K (p :: r) | false => K ((i, x) :: p :: h)
def Yfj : Heap -> Heap -> (Heap -> Prop) -> Prop
 | h, [], K => K h
 | h, p :: us, K => updK h p.1 p.2 fun h => Yfj h us K
def Yfa : Heap -> Heap -> (Heap -> Prop) -> Prop
 | h, [], K => K h
 | h, p :: us, K => insK h p.1 p.2 fun h => Yfa h us K
theorem Ye {K : It -> Prop} : ∀ {h : Heap} {i : Nat}, Y0 h i K -> ∃ x, look h i = some x /\ K x
 | [], _, h => h.elim
 | p :: h, i, hk => by
  unfold Y0 at hk;unfold look;cases hb : Nat.beq p.1 i with
  | true => rw [hb] at hk; exact ⟨_, rfl, hk⟩
  | false => rw [hb] at hk; exact Ye hk
theorem Yd9 : ∀ {h : Heap} {i : Nat} {x : It} {K : Heap -> Prop}, updK h i x K ↔ K (upd h i x)
 | [], _, _, _ => Iff.rfl
 | p :: h, i, x, K => by
  unfold updK upd;cases hb : Nat.beq p.1 i with
  | true => exact Iff.rfl
  | false => exact Yd9 (h := h)
theorem Yvb : ∀ {h : Heap} {i : Nat} {x : It} {K : Heap -> Prop}, insK h i x K ↔ K (ins h i x)
 | [], _, _, _ => Iff.rfl
 | p :: h, i, x, K => by
  unfold insK ins;cases hb : Nat.ble p.1 i with
  | true => exact Yvb (h := h)
  | false => exact Iff.rfl
theorem Ydv : ∀ {us h : Heap} {K : Heap -> Prop}, Yfj h us K ↔ K (Yh h us)
 | [], _, _ => Iff.rfl
 | p :: us, h, K => by simp only [Yfj, Yh, Yd9, Ydv (us := us)]
theorem Yc8 : ∀ {us h : Heap} {K : Heap -> Prop}, Yfa h us K ↔ K (Y9 h us)
 | [], _, _ => Iff.rfl
 | p :: us, h, K => by simp only [Yfa, Y9, Yvb, Yc8 (us := us)]
structure TI where
 agg : Option Bool
 size : Option Nat
 zero : Option (List AV)
 fields : List (Option (Nat × Nat))
 slice : Option (Nat × Nat × Nat × List AV)
 arr : Option (Nat × Nat × Bool)
def mkTI (P : Program) (T : TypeId) : TI :=
  { agg := (P.underlying T).map fun d => match d with | .struct _ | .array _ _ => true | _ => false
    size := (P.info? T).map (·.size)
    zero := (Yhh P T).map fun zs => zs.toList.map AV.v
    fields := match P.underlying T with | some (.struct fs) => fs.toList.map (fun f => (P.info? f.type).map fun j => (f.offset, j.size)) | _ => []
    slice := match P.underlying T with | some (.slice e) => (P.info? e).bind fun i => i.zero.map fun z => (e, i.size, i.bytes, z.cells.toList.map AV.v) | _ => none
    arr := match P.underlying T with | some (.array n e) => (P.info? e).bind fun i => (P.underlying e).map fun d => (n, i.size, match d with | .struct _ | .array _ _ => true | _ => false) | _ => none }
inductive Tr (α : Type) where
 | nil
 | node (l : Tr α) (x : α) (r : Tr α)
def Tr.at {α : Type} : Tr α -> Nat -> Option α
 | .nil, _ => none
 | .node l x r, n => match n with | 0 => some x | n + 1 => (match Nat.beq (n % 2) 0 with | true => l.at (n / 2) | false => r.at (n / 2))
def trK {α : Type} : Tr α -> Nat -> (α -> Prop) -> Prop
 | .nil, _, _ => Stuck 8
 | .node l x r, n, K => match n with | 0 => K x | n + 1 => (match Nat.beq (n % 2) 0 with | true => trK l (n / 2) K | false => trK r (n / 2) K)
theorem Yo2 {α : Type} : ∀ {t : Tr α} {n : Nat} {K : α -> Prop}, trK t n K -> ∃ x, t.at n = some x /\ K x
 | .nil, _, _, h => h.elim
 | .node l x r, n, K, h => by
  cases n with
  | zero => exact ⟨x, rfl, h⟩
  | succ n =>
   simp only [trK, Tr.at] at h ⊢;cases hb : Nat.beq (n % 2) 0 with
   | true => rw [hb] at h; exact Yo2 h
   | false => rw [hb] at h; exact Yo2 h
def Yvr {α : Type} : Nat -> (Nat -> α) -> Tr α
 | 0, _ => .nil
 | d + 1, f => .node (Yvr d fun n => f (2 * n + 1)) (f 0) (Yvr d fun n => f (2 * n + 2))
theorem Yo1 {α : Type} : ∀ (d : Nat) (f : Nat -> α) (n : Nat) (x : α), (Yvr d f).at n = some x -> x = f n
 | 0, _, _, _, h => by cases h
 | d + 1, f, n, x, h => by
  cases n with
  | zero => simp only [Yvr, Tr.at, Option.some.injEq] at h; exact h.symm
  | succ n =>
   simp only [Yvr, Tr.at] at h;cases hb : Nat.beq (n % 2) 0 with
   | true =>
    rw [hb] at h;rw [Yo1 d _ _ x h];have := Nat.eq_of_beq_eq_true hb
    congr 1
    omega
   | false =>
    rw [hb] at h;rw [Yo1 d _ _ x h];have : n % 2 ≠ 0 := fun e => by rw [e] at hb; cases hb
    congr 1
    omega
def TabOk (P : Program) (tt : Tr TI) : Prop := ∀ T ti, tt.at T = some ti -> ti = mkTI P T
theorem TabOk.of {P : Program} {tt : Tr TI} (d : Nat) (h : tt = Yvr d (mkTI P)) : TabOk P tt := fun T ti ht => by
 rw [h] at ht;exact Yo1 d _ T ti ht
section
variable {P : Program} {tt : Tr TI} {T : TypeId}
theorem Ycg {b : Bool} (h : (mkTI P T).agg = some b) : Yez P T b := h
theorem Ycu {n : Nat} (h : (mkTI P T).size = some n) : Yce P T n := h
theorem Yhz {zs : List AV} (h : (mkTI P T).zero = some zs) (φ : Phi) : Yhh P T = some (AV.concL φ zs).toArray /\ ∀ i, AV.hasL i zs = false := by
 simp only [mkTI, Option.map_eq_some_iff] at h;obtain ⟨a, h1, rfl⟩ := h;refine ⟨by rw [h1, Yx]; simp [Function.comp_def, AV.conc], fun i => by simp [Yp, AV.has]⟩
theorem Yiy {i off n : Nat} (h : (mkTI P T).fields[i]? = some (some (off, n + 1))) : Yha P T i off := by
 simp only [mkTI] at h;unfold Yha;cases hu : P.underlying T with
 | none => simp [hu] at h
 | some d =>
  cases d <;> simp only [hu, List.getElem?_nil, reduceCtorEq] at h
  case struct fs =>
   simp only [List.getElem?_map, Array.getElem?_toList, Option.map_eq_some_iff] at h;obtain ⟨f, hf, j, hj, h2⟩ := h;simp only [Prod.mk.injEq] at h2;simp [hf, hj, h2]
theorem Yl {e sz by_ : Nat} {zs : List AV} (h : (mkTI P T).slice = some (e, sz, by_, zs)) (φ : Phi) : SliceOf P T e sz by_ (AV.concL φ zs).toArray /\ ∀ i, AV.hasL i zs = false := by
 simp only [mkTI] at h;cases hu : P.underlying T with
 | none => simp [hu] at h
 | some d =>
  cases d <;> simp only [hu, reduceCtorEq] at h
  case slice e' =>
   simp only [Option.bind_eq_some_iff, Option.map_eq_some_iff, Prod.mk.injEq] at h;obtain ⟨i, hi, z, hz, rfl, rfl, rfl, rfl⟩ := h;refine ⟨⟨hu, ?_⟩, fun i => by simp [Yp, AV.has]⟩;rw [hi, Yx];simp [hz, Function.comp_def, AV.conc]
end
theorem Ye4 {P : Program} {T : TypeId} {n sz : Nat} {b : Bool} (h : (mkTI P T).arr = some (n, sz, b)) : ∃ e, P.underlying T = some (.array n e) /\ Yce P e sz /\ Yez P e b := by
 simp only [mkTI] at h;cases hu : P.underlying T with
 | none => simp [hu] at h
 | some d =>
  cases d <;> simp only [hu, reduceCtorEq] at h
  case array n' e =>
   simp only [Option.bind_eq_some_iff, Option.map_eq_some_iff, Prod.mk.injEq] at h;obtain ⟨i, hi, d, hd, rfl, rfl, rfl⟩ := h;exact ⟨e, rfl, by simp [Yce, hi], by unfold Yez; rw [hd]; cases d <;> rfl⟩
def tiK (tt : Tr TI) (T : TypeId) (K : TI -> Prop) : Prop := trK tt T K
theorem Yk {P : Program} {tt : Tr TI} {T : TypeId} {K : TI -> Prop} (ht : TabOk P tt) (h : tiK tt T K) : K (mkTI P T) := by
 obtain ⟨ti, h1, h2⟩ := Yo2 h;rwa [<- ht T ti h1]
def Yu1 (x : AV) (K : AV -> Prop) : Prop := match x with | .junk => Stuck 9 | .held _ => Stuck 74 | y => K y
theorem Yg4 {x : AV} {K : AV -> Prop} (h : Yu1 x K) : x.rd = true /\ K x := by
 cases x <;> first | exact h.elim | exact ⟨rfl, h⟩
def At (tm : List AV) (x : Operand) (v : AV) : Prop :=
 match x with | .tmp t => tm[t]? = some v | .const c => v = .v c | .global _ => False | .func f => v = .fn (.func f) [] []
def evK (tm : List AV) (x : Operand) (K : AV -> Prop) : Prop :=
 match x with | .tmp t => getK tm t fun v => Yu1 v K | .const c => K (.v c) | .global _ => Stuck 11 | .func f => K (.fn (.func f) [] [])
theorem Yf {tm : List AV} {x : Operand} {K : AV -> Prop} (h : evK tm x K) : ∃ v, v.rd = true /\ At tm x v /\ K v := by
 cases x with
 | tmp t =>
  obtain ⟨v, h1, h2⟩ := Ybo h;have := Yg4 h2;exact ⟨v, this.1, h1, this.2⟩
 | const c => exact ⟨_, by simp, rfl, h⟩
 | global g => exact h.elim
 | func f => exact ⟨_, by simp, rfl, h⟩
def evsK (tm : List AV) : List Operand -> (List AV -> Prop) -> Prop
 | [], K => K []
 | x :: xs, K => evK tm x fun v => evsK tm xs fun vs => K (v :: vs)
inductive Ats (tm : List AV) : List Operand -> List AV -> Prop
 | nil : Ats tm [] []
 | cons {x : Operand} {v : AV} {xs : List Operand} {vs : List AV} (hj : v.rd = true) (h : At tm x v) (t : Ats tm xs vs) : Ats tm (x :: xs) (v :: vs)
theorem Yf8 {tm : List AV} : ∀ {xs : List Operand} {K : List AV -> Prop}, evsK tm xs K -> ∃ vs, Ats tm xs vs /\ K vs
 | [], K, h => ⟨[], .nil, h⟩
 | x :: xs, K, h => by
  obtain ⟨v, hj, h1, h2⟩ := Yf h;obtain ⟨vs, h3, h4⟩ := Yf8 (xs := xs) h2;exact ⟨v :: vs, .cons hj h1 h3, h4⟩
def Yfb (φ : Phi) (x : AV) : Deferred := match x.conc φ with | .func fn first cap => { target := .fn fn cap, args := first } | .map (some b) => { target := .collected b, args := #[] } | _ => { target := .nil, args := #[] }
structure RepT (φ : Phi) (tm : List AV) (a : Act) : Prop where
 size : ∀ (t : Nat) (v : AV), tm[t]? = some v -> v.isHeld = false -> t < a.tmps.size
 held : ∀ (t : Nat) (v : AV), tm[t]? = some v -> v.isHeld = true -> a.tmps.size <= t
 slot : ∀ (t : Nat) (v : AV), tm[t]? = some v -> v.rd = true -> a.tmps[t]? = some (v.conc φ)
 df : a.defers = ((Ybr tm).map (Yfb φ)).reverse
 len : a.tmps.size <= tm.length
def OpsAt (φ : Phi) (tm : List AV) (a : Act) (op : Op) : Prop := ∀ x ∈ op.operands, ∀ v, At tm x v -> v.rd = true -> a.eval x = v.conc φ
theorem RepT.ev {φ : Phi} {tm : List AV} {a : Act} (h : RepT φ tm a) {x : Operand} {v : AV} (hx : At tm x v) (hj : v.rd = true) : a.eval x = v.conc φ := by
 cases x with
 | tmp t => simp [Act.eval, Array.getD_eq_getD_getElem?, h.slot t v hx hj]
 | const c => have hx' : v = .v c := hx; subst hx'; rfl
 | global g => exact hx.elim
 | func f => have hx' : v = .fn (.func f) [] [] := hx; subst hx'; rfl
theorem RepT.ops {φ : Phi} {tm : List AV} {a : Act} (h : RepT φ tm a) (op : Op) : OpsAt φ tm a op := fun x _ v hx hj => h.ev hx hj
theorem Ycl (a : Act) (x : Operand) : Yc0 a x = some (a.eval x) := by
 cases x with
 | tmp t => simp [Yc0, Yfv, Act.eval, Array.getD_eq_getD_getElem?, List.getD_eq_getElem?_getD]
 | const v => rfl
 | global g => rfl
 | func f => rfl
theorem OpsAt.ev {φ : Phi} {tm : List AV} {a : Act} {op : Op} (h : OpsAt φ tm a op) {x : Operand} (hm : x ∈ op.operands) {v : AV} (hx : At tm x v) (hj : v.rd = true) : Yc0 a x = some (v.conc φ) := by
 rw [Ycl, h x hm v hx hj]
def NewFor (ks : List Nat) (tm : List AV) (hs : Heap) : Prop := ∀ i ∈ ks, AV.hasL i tm = false /\ hasH i hs = false
def Does (P : Program) (o : Oper) (tm : List AV) (hs : Heap) (val : AV) (us nw : Heap) : Prop :=
 ∀ (φ : Phi) (w0 : World) (M : List Nat) (R : RL) (a : Act) (w : World) (K : Act -> World -> Prop) (Q : Exit -> Act -> World -> Prop),
  OpsAt φ tm a o.op -> NewFor (keys nw) tm hs -> St w0 M (Yb φ hs ++ R) w ->
  (∀ φ' w', Agree (keys nw) φ φ' -> St w0 M (Yb φ' (Yh hs us ++ nw) ++ R) w' -> K (a.put o.dst (val.conc φ')) w') -> o.wp P a w K Q
theorem At.new {tm : List AV} {x : Operand} {v : AV} (h : At tm x v) {i : Nat} (hn : AV.hasL i tm = false) : v.has i = false := by
 cases x with
 | tmp t => exact Yh7 hn (List.mem_of_getElem? h)
 | const c => have h' : v = .v c := h; subst h'; rfl
 | global g => exact h.elim
 | func f => have h' : v = .fn (.func f) [] [] := h; subst h'; rfl
theorem Ats.new {tm : List AV} {xs : List Operand} {vs : List AV} (h : Ats tm xs vs) {i : Nat} (hn : AV.hasL i tm = false) : AV.hasL i vs = false := by
 induction h with
 | nil => rfl
 | cons hj h _ ih => simp only [AV.hasL, At.new h hn, ih, Bool.or_self]
theorem Does.pure {P : Program} {o : Oper} {tm : List AV} {hs : Heap} {val : AV} (h : ∀ (φ : Phi) (a : Act), OpsAt φ tm a o.op -> ∀ w, (execOp a.eval o).run P w = .ok (.value (val.conc φ)) w) : Does P o tm hs val [] [] :=
 fun φ w0 M R a w K Q ho _ hS kk => by
  unfold Oper.wp;rw [h φ a ho w];exact kk φ w (Agree.refl _ _) (by simpa [Yh] using hS)
end Go.Proofs.Ytilnbgpogfabaaa
namespace Go.Proofs.Ytilnbgpogfabaaa
open Go.RowKit
variable [InW]
attribute [local irreducible] Go.Oper.wp
section
variable {P : Program} {tm : List AV} {dst : Option Tmp} {type : TypeId} {pos : String} {after : Array Edge} {guard : Option (Nat × Bool)}
theorem Yg (φ : Phi) (xs : List AV) : (AV.concL φ xs).length = xs.length := by rw [Yx, List.length_map]
theorem Yb9 (φ : Phi) (xs : List AV) (k : Nat) : (AV.concL φ xs)[k]? = (xs[k]?).map (AV.conc φ) := by rw [Yx, List.getElem?_map]
theorem Yby (φ : Phi) (xs ys : List AV) : AV.concL φ (xs ++ ys) = AV.concL φ xs ++ AV.concL φ ys := by simp only [Yx, List.map_append]
theorem Yev (φ : Phi) (xs : List AV) (n : Nat) : AV.concL φ (xs.take n) = (AV.concL φ xs).take n := by simp only [Yx, List.map_take]
theorem Yew (φ : Phi) (xs : List AV) (n : Nat) : AV.concL φ (xs.drop n) = (AV.concL φ xs).drop n := by simp only [Yx, List.map_drop]
def Ypq : List Value -> (List AV -> Prop) -> Prop
 | [], K => K []
 | x :: xs, K => Ypq xs fun r => K (.v x :: r)
theorem Ydy : ∀ {xs : List Value} {K : List AV -> Prop}, Ypq xs K ↔ K (xs.map .v)
 | [], K => Iff.rfl
 | x :: xs, K => by simpa [Ypq] using Ydy (xs := xs)
def Yjr (x : AV) (K : List AV -> Prop) : Prop :=
 match x with
 | .agg cs => K cs
 | .tup _ => Stuck 12
 | .junk => Stuck 13
 | .held _ => Stuck 13
 | .opq _ => Stuck 13
 | .v (.agg cs) => Ypq cs.toList K
 | y => K [y]
theorem Yd4 {x : AV} {K : List AV -> Prop} (h : Yjr x K) : ∃ cs, K cs /\ (∀ φ, (x.conc φ).cells = (AV.concL φ cs).toArray) /\ ∀ i, x.has i = false -> AV.hasL i cs = false := by
 cases x with
 | agg cs => exact ⟨cs, h, fun φ => rfl, fun i hi => by simpa [AV.has] using hi⟩
 | tup _ => exact h.elim
 | junk => exact h.elim
 | held _ => exact h.elim
 | opq _ => exact h.elim
 | v y =>
  cases y with
  | agg cs => exact ⟨_, Ydy.1 h, fun φ => by simp [AV.conc, Value.cells, Yx, Function.comp_def], fun i _ => by simp [Yp, AV.has]⟩
  | _ => exact ⟨_, h, fun φ => rfl, fun i hi => by simp [AV.hasL, AV.has]⟩
 | ptr _ _ => exact ⟨_, h, fun φ => rfl, fun i hi => by simp [AV.hasL, hi]⟩
 | sl _ _ _ _ => exact ⟨_, h, fun φ => rfl, fun i hi => by simp [AV.hasL, hi]⟩
 | slc _ _ _ _ => exact ⟨_, h, fun φ => rfl, fun i hi => by simp [AV.hasL, hi]⟩
 | emp _ => exact ⟨_, h, fun φ => rfl, fun i hi => by simp [AV.hasL, hi]⟩
 | fn _ _ _ => exact ⟨_, h, fun φ => rfl, fun i hi => by simp [AV.hasL, hi]⟩
 | ifc _ _ => exact ⟨_, h, fun φ => rfl, fun i hi => by simp [AV.hasL, hi]⟩
 | mp _ => exact ⟨_, h, fun φ => rfl, fun i hi => by simp [AV.hasL, hi]⟩
 | yl _ => exact ⟨_, h, fun φ => rfl, fun i hi => by simp [AV.hasL, hi]⟩
 | si _ _ => exact ⟨_, h, fun φ => rfl, fun i hi => by simp [AV.hasL, hi]⟩
 | sb _ => exact ⟨_, h, fun φ => rfl, fun i hi => by simp [AV.hasL, hi]⟩
 | ss _ => exact ⟨_, h, fun φ => rfl, fun i hi => by simp [AV.hasL, hi]⟩
 | rs ts r =>
  refine ⟨_, h, fun φ => ?_, fun i hi => by simp [AV.hasL, hi]⟩;obtain ⟨A, c, hv, _⟩ := r.inv;simp only [AV.conc, AV.concL, hv];rfl
 | rp _ _ _ _ => exact ⟨_, h, fun φ => rfl, fun i hi => by simp [AV.hasL, hi]⟩
 | rw _ => exact ⟨_, h, fun φ => rfl, fun i hi => by simp [AV.hasL, hi]⟩
 | ep _ _ _ _ => exact ⟨_, h, fun φ => rfl, fun i hi => by simp [AV.hasL, hi]⟩
 | rwp _ _ _ _ => exact ⟨_, h, fun φ => rfl, fun i hi => by simp [AV.hasL, hi]⟩
 | fp _ _ _ _ => exact ⟨_, h, fun φ => rfl, fun i hi => by simp [AV.hasL, hi]⟩
def AV.one : AV -> Bool
 | .v x => x.oneCell'
 | .agg _ => false
 | .tup _ => false
 | .junk => false
 | .held _ => false
 | .opq _ => false
 | _ => true
theorem Y1b {x : AV} (h : x.one = true) (φ : Phi) : (x.conc φ).oneCell' = true := by
 cases x
 case rs ts r =>
  obtain ⟨A, c, hv, _⟩ := r.inv;simp only [AV.conc, hv];rfl
 all_goals first | exact h | rfl | (simp [AV.one] at h)
def Yg3 : List AV -> Bool
 | [] => true
 | x :: xs => match x.one with | true => Yg3 xs | false => false
theorem Yc4 : ∀ {xs : List AV}, Yg3 xs = true -> ∀ (φ : Phi), ∀ u ∈ AV.concL φ xs, u.oneCell' = true
 | [], _, φ, u, hu => by simp [AV.concL] at hu
 | x :: xs, h, φ, u, hu => by
  unfold Yg3 at h
  split at h
  ·rename_i h1;simp only [AV.concL, List.mem_cons] at hu;rcases hu with rfl | hu
   ·exact Y1b h1 φ
   ·exact Yc4 h φ u hu
  ·cases h
def It.vals (φ : Phi) : It -> List Value
 | .blk _ cs => AV.concL φ cs
 | .row _ _ _ cs => AV.concL φ cs
 | .rowV _ _ _ xs => xs
 | .obj _ => []
 | .lp _ _ => []
 | .dead => []
 | .arr _ ts xs => Yi ts xs
 | .bk .. => []
 | .bkv .. => []
 | .nst .. => []
 | .fro .. => []
theorem Yeb {w : World} {b c n sz : Nat} {nil : Bool} {T : TypeId} {xs : List Value} (h : w.ownsRow 0 T sz (.slice (if nil then none else some ⟨b, 0, none⟩) n c) n xs) {k : Nat} {v : Value} (hv : xs[k]? = some v) : w.cell? ⟨b, k, none⟩ = some v := by
 cases nil with
 | true =>
  rcases h.2 with ⟨_, h0⟩ | ⟨g, cap, cur, hg, _⟩
  ·have h1 := h.1;rw [h0, Nat.zero_mul] at h1;rw [List.length_eq_zero_iff.1 h1] at hv;simp at hv
  ·simp at hg
 | false =>
  have := h.cells rfl k v hv;rwa [Ym, Nat.zero_add] at this
theorem Ybg {w0 w : World} {M : List Nat} {R : RL} {φ : Phi} {id : Nat} {it : It} (h : St w0 M (it.conc φ id :: R) w) {k : Nat} {v : Value} (hv : (it.vals φ)[k]? = some v) : w.cell? ⟨(φ id).b, k, none⟩ = some v := by
 have hh := h.look Look.head;cases it with
 | blk T cs => exact Yip hh (by simpa [It.vals] using hv)
 | row T sz n cs => exact Yeb hh hv
 | rowV T sz n xs => exact Yeb hh hv
 | obj _ => simp [It.vals] at hv
 | lp _ _ => simp [It.vals] at hv
 | dead => simp [It.vals] at hv
 | arr T ts xs => exact Yeb hh hv
 | bk _ _ _ _ => simp [It.vals] at hv
 | bkv _ _ _ _ _ => simp [It.vals] at hv
 | nst _ _ _ => simp [It.vals] at hv
 | fro _ _ => simp [It.vals] at hv
theorem Y4y {x : Operand} {v : AV} (hx : At tm x v) (hj : v.rd = true) : Does P { dst, op := .move x, type, pos, after, guard } tm [] v [] [] :=
 fun φ w0 M R a w K Q ho _ hS kk => Y4l (ho.ev (by simp [Op.operands]) hx hj) (kk φ w (Agree.refl _ _) hS)
theorem Y12 {x : Operand} {v : AV} (hx : At tm x v) (hj : v.rd = true) : Does P { dst, op := .assign x, type, pos, after, guard } tm [] v [] [] :=
 fun φ w0 M R a w K Q ho _ hS kk => Y04 (ho.ev (by simp [Op.operands]) hx hj) (kk φ w (Agree.refl _ _) hS)
theorem Y2s {c x y : Operand} {b : Bool} {v : AV} (hc : At tm c (.v (.bool b))) (hv : At tm (if b then x else y) v) (hj : v.rd = true) : Does P { dst, op := .pick c x y, type, pos, after, guard } tm [] v [] [] :=
 fun φ w0 M R a w K Q ho _ hS kk => Y2k (ho.ev (by simp [Op.operands]) hc (by simp)) (ho.ev (by cases b <;> simp [Op.operands]) hv hj) (kk φ w (Agree.refl _ _) hS)
theorem Y3y {T : TypeId} {x : Operand} {i off id k : Nat} (hf : Yha P T i off) (hx : At tm x (.ptr id k)) : Does P { dst, op := .fieldAddr T x i, type, pos, after, guard } tm [] (.ptr id (k + off)) [] [] :=
 fun φ w0 M R a w K Q ho _ hS kk => Ytq hf (ho.ev (by simp [Op.operands]) hx (by simp)) rfl (kk φ w (Agree.refl _ _) hS)
theorem Yzv {t : Operand} {i : Nat} {cs : List AV} {v : AV} (hx : At tm t (.tup cs)) (hv : cs[i]? = some v) : Does P { dst, op := .extract t i, type, pos, after, guard } tm [] v [] [] :=
 fun φ w0 M R a w K Q ho _ hS kk => by
  have h1 : (AV.concL φ cs).toArray[i]? = some (v.conc φ) := by simp [Yb9, hv]
  have hlt : i < (AV.concL φ cs).toArray.size := (Array.getElem?_eq_some_iff.1 h1).1;refine Yx5 (ho.ev (by simp [Op.operands]) hx (by simp)) (v := v.conc φ) ?_ (by simpa [Nat.blt_eq] using hlt) (kk φ w (Agree.refl _ _) hS);rw [Yfv];simp [List.getD_eq_getElem?_getD, Yb9, hv]
theorem Ynx {w0 w : World} {M : List Nat} {R : RL} {φ : Phi} {id T sz n : Nat} {cs : List AV} (hn : 0 < n) (h : St w0 M ((It.row T sz n cs).conc φ id :: R) w) : (φ id).nil = false := by
 have hh := h.look Look.head;cases hnil : (φ id).nil with
 | false => rfl
 | true =>
  have h2 : w.ownsRow 0 T sz (.slice (if (φ id).nil then none else some ⟨(φ id).b, 0, none⟩) n (φ id).c) n (AV.concL φ cs) := hh;rw [hnil] at h2;rcases h2.2 with ⟨_, h0⟩ | ⟨g, cap, cur, hg, _⟩
  ·omega
  ·simp at hg
theorem Ytk {w0 w : World} {M : List Nat} {R : RL} {φ : Phi} {id T sz n : Nat} {cs : List Value} (hn : 0 < n) (h : St w0 M ((It.rowV T sz n cs).conc φ id :: R) w) : (φ id).nil = false := by
 have hh := h.look Look.head;cases hnil : (φ id).nil with
 | false => rfl
 | true =>
  have h2 : w.ownsRow 0 T sz (.slice (if (φ id).nil then none else some ⟨(φ id).b, 0, none⟩) n (φ id).c) n cs := hh;rw [hnil] at h2;rcases h2.2 with ⟨_, h0⟩ | ⟨g, cap, cur, hg, _⟩
  ·omega
  ·simp at hg
theorem Y3x {T : TypeId} {x : Operand} {id k : Nat} {it : It} {v : AV} (ha : Yez P T false) (hx : At tm x (.ptr id k)) (hv : ∀ φ, (it.vals φ)[k]? = some (v.conc φ)) : Does P { dst, op := .load T x, type, pos, after, guard } tm [(id, it)] v [] [] :=
 fun φ w0 M R a w K Q ho _ hS kk => by
  have h2 := Yq (ho.ev (x := x) (by simp [Op.operands]) hx (by simp));unfold Oper.wp execOp;simp only [AV.conc] at h2;simp only [h2, Sem.run_bind, Yck ha (Ybg hS (hv φ)), Result.andThen_ok, Sem.run_pure, Oper.upon];exact kk φ w (Agree.refl _ _) hS
theorem Y3v {T : TypeId} {x : Operand} {id k n : Nat} {it : It} {v : AV} (ha : Yez P T true) (hs : Yce P T n) (hx : At tm x (.ptr id k)) {vs : Phi -> List Value} (hv : ∀ φ, v.conc φ = .agg (vs φ).toArray) (hc : ∀ φ, ((it.vals φ).drop k).take n = vs φ) (hn : ∀ φ, (vs φ).length = n) : Does P { dst, op := .load T x, type, pos, after, guard } tm [(id, it)] v [] [] :=
 fun φ w0 M R a w K Q ho _ hS kk => by
  have h2 := Yq (ho.ev (x := x) (by simp [Op.operands]) hx (by simp));have hcs : Ymv w (φ id).b k (vs φ) := fun j u hj => by
   refine Ybg hS ?_;rw [<- hc φ, List.getElem?_take] at hj
   split at hj
   ·rw [List.getElem?_drop] at hj; exact hj
   ·cases hj
  unfold Oper.wp execOp;simp only [AV.conc] at h2;have h3 := kk φ w (Agree.refl _ _) hS;rw [hv φ] at h3;simp only [h2, Sem.run_bind, Ydf ha hs (hn φ) hcs, Result.andThen_ok, Sem.run_pure, Oper.upon];exact h3
theorem Yt (φ : Phi) (id : Nat) (hd : Hd) : Agree [id] φ (fun i => if i = id then hd else φ i) := fun i hi => by
 simp only [List.mem_singleton] at hi;simp [hi]
theorem Y31 {T : TypeId} {zs : List AV} {id : Nat} (hz : (mkTI P T).zero = some zs) : Does P { dst, op := .alloc T, type, pos, after, guard } tm [] (.ptr id 0) [] [(id, .blk T zs)] :=
 fun φ w0 M R a w K Q ho _ hS kk => by
  refine Y0t hS (Yhz hz φ).1 fun b w' hS' => ?_;have hag := Yt φ id ⟨b, false, 0, none, 0, undef, fun _ => False⟩;have e : AV.concL (fun i => if i = id then (⟨b, false, 0, none, 0, undef, fun _ => False⟩ : Hd) else φ i) zs = AV.concL φ zs := Y1 hag zs fun i _ => (Yhz hz φ).2 i;have := kk _ w' hag (by simpa [Yh, Yb, It.conc, e] using hS');simpa [AV.conc] using this
theorem d_box {T : TypeId} {x : Operand} {v : AV} {cs : List AV} {id : Nat} (hx : At tm x v) (hj : v.rd = true) (hc : ∀ φ, (v.conc φ).cells = (AV.concL φ cs).toArray) (hh : ∀ i, v.has i = false -> AV.hasL i cs = false) : Does P { dst, op := .box T x, type, pos, after, guard } tm [] (.ptr id 0) [] [(id, .blk T cs)] :=
 fun φ w0 M R a w K Q ho hn hS kk => by
  have h2 := Yq (ho.ev (x := x) (by simp [Op.operands]) hx hj);have hnew : AV.hasL id cs = false := hh id (hx.new (hn id (by simp [keys])).1);unfold Oper.wp execOp;simp only [Sem.run_bind, Yxv, Result.andThen_ok, Sem.run_pure, Oper.upon];have hS' := hS.alloc (.cells (a.eval x).cells T);rw [h2, hc φ] at hS' ⊢;have hag := Yt φ id ⟨w.heap.size, false, 0, none, 0, undef, fun _ => False⟩;have e : AV.concL (fun i => if i = id then (⟨w.heap.size, false, 0, none, 0, undef, fun _ => False⟩ : Hd) else φ i) cs = AV.concL φ cs := Y1 hag cs fun i hi => by rw [List.mem_singleton.1 hi]; exact hnew
  have := kk _ _ hag (by simpa [Yh, Yb, It.conc, e] using hS');simpa [AV.conc] using this
end
end Go.Proofs.Ytilnbgpogfabaaa
namespace Go.Proofs.Ytilnbgpogfabaaa
open Go.RowKit
variable [InW]
attribute [local irreducible] Go.Oper.wp
section
variable {P : Program} {tm : List AV} {dst : Option Tmp} {type : TypeId} {pos : String} {after : Array Edge} {guard : Option (Nat × Bool)}
theorem Yq0 {w0 w : World} {M : List Nat} {R : RL} {K : Act -> World -> Prop} {Q : Exit -> Act -> World -> Prop} {a : Act} {e T : TypeId} {x y : Operand} {b k n : Nat} {cs : Array Value} {v : Value} (h : St w0 M (.blk b (.cells cs T (0, 0)) :: R) w) (hs : Yce P e n)
  (hx : a.eval x = .pointer (some ⟨b, k, none⟩)) (hy : a.eval y = v) (hn : v.cells.size = n) (h1 : ∀ u ∈ v.cells.toList, u.oneCell' = true) (hk : k + n <= cs.size) (kk : ∀ w', St w0 M (.blk b (.cells (Ybz cs k v.cells.toList) T (0, 0)) :: R) w' -> K (a.put dst undef) w') :
  Oper.wp P { dst, op := .store e x y, type, pos, after, guard } a w K Q := by
 obtain ⟨w', hr, hb, hsz, hm, hkk⟩ := Ybs (P := P) v.cells.toList 0 k cs w (h.blk .head) (by simp [hn]; omega) h1;simp only [Nat.add_zero] at hb;subst hy;unfold Oper.wp execOp;simp only [hx, Instr.storeAt, Instr.sureAddr, storeVar, Sem.run_bind, Sem.run_pure, Y8 hs, hn, Result.andThen_ok, Oper.upon, ne_eq, not_true_eq_false, if_false, hr];exact kk w' (h.upd .head ⟨hm.1, hm.2.1, hm.2.2, by omega, fun k hk' hk2 => hkk k (by simpa [Res.foot] using hk2)⟩ hb (fun b' hb' => .inl hb'))
theorem Yhq (φ : Phi) (cs vs : List AV) (k : Nat) : AV.concL φ (cs.take k ++ vs ++ cs.drop (k + vs.length)) = (AV.concL φ cs).take k ++ AV.concL φ vs ++ (AV.concL φ cs).drop (k + (AV.concL φ vs).length) := by
 rw [Yby, Yby, Yev, Yew, Yg]
theorem Y1u {T T' : TypeId} {x y : Operand} {id k n : Nat} {cs vs : List AV} {v : AV} (hs : Yce P T n) (hx : At tm x (.ptr id k)) (hy : At tm y v) (hj : v.rd = true) (hc : ∀ φ, (v.conc φ).cells = (AV.concL φ vs).toArray) (hn : vs.length = n) (h1 : Yg3 vs = true) (hk : k + n <= cs.length) :
  Does P { dst, op := .store T x y, type, pos, after, guard } tm [(id, .blk T' cs)] (.v undef) [(id, .blk T' (cs.take k ++ vs ++ cs.drop (k + vs.length)))] [] :=
 fun φ w0 M R a w K Q ho _ hS kk => by
  have h2 := Yq (ho.ev (x := x) (by simp [Op.operands]) hx (by simp));have h3 := Yq (ho.ev (x := y) (by simp [Op.operands]) hy hj);refine Yq0 (v := v.conc φ) hS hs h2 h3 (by rw [hc φ]; simp [Yg, hn]) (fun u hu => Yc4 h1 φ u (by rw [hc φ] at hu; simpa using hu)) (by simp [Yg]; omega) fun w' hS' => ?_;have e : Ybz (AV.concL φ cs).toArray k (v.conc φ).cells.toList = (AV.concL φ (cs.take k ++ vs ++ cs.drop (k + vs.length))).toArray := by
   apply Array.ext';rw [Ycf _ _ _ (by rw [hc φ]; simp [Yg]; omega), hc φ, Yhq]
  rw [e] at hS';exact kk φ w' (Agree.refl _ _) (by simpa [Yh, upd, Nat.beq_refl, Yb, It.conc] using hS')
theorem Ytf : ∀ (vs xs : List Value) (k : Nat), k + vs.length <= xs.length -> setL xs k vs = xs.take k ++ vs ++ xs.drop (k + vs.length)
 | [], xs, k, _ => by simp [setL]
 | v :: vs, xs, k, h => by
  simp only [List.length_cons] at h;rw [setL, Ytf vs _ _ (by simp; omega), List.take_add_one, List.take_set_of_le (Nat.le_refl _), List.getElem?_set_self (by omega), List.drop_set_of_lt (by omega)];simp [show k + 1 + vs.length = k + (vs.length + 1) by omega]
theorem Ynl {w0 w : World} {M : List Nat} {R : RL} {K : Act -> World -> Prop} {Q : Exit -> Act -> World -> Prop} {a : Act} {e T : TypeId} {x y : Operand} {b c k n sz m : Nat} {nil : Bool} {xs : List Value} {v : Value} (h : St w0 M (.row (.slice (if nil then none else some ⟨b, 0, none⟩) n c) T sz n xs :: R) w) (hs : Yce P e m)
  (hx : a.eval x = .pointer (some ⟨b, k, none⟩)) (hy : a.eval y = v) (hn : v.cells.size = m) (hm : 0 < m) (h1 : ∀ u ∈ v.cells.toList, u.oneCell' = true) (hk : k + m <= xs.length)
  (kk : ∀ w', St w0 M (.row (.slice (if nil then none else some ⟨b, 0, none⟩) n c) T sz n (xs.take k ++ v.cells.toList ++ xs.drop (k + m)) :: R) w' -> K (a.put dst undef) w') :
  Oper.wp P { dst, op := .store e x y, type, pos, after, guard } a w K Q := by
 cases nil with
 | true =>
  have hrow := h.row .head;rcases hrow.2 with ⟨_, h0⟩ | ⟨g, cap, cur, hg, _⟩
  ·have h3 := hrow.1;rw [h0, Nat.zero_mul] at h3;omega
  ·simp at hg
 | false =>
  refine Yxp (L' := .row (.slice (some ⟨b, 0, none⟩) n c) T sz n (xs.take k ++ v.cells.toList ++ xs.drop (k + m)) :: R) h hs (by rw [Ycl, hx]) (by rw [Ycl, hy]) hn (List.all_eq_true.2 h1) .head hk ?_ kk;have hl : v.cells.toList.length = m := by simpa using hn
  rw [Ytf _ _ _ (by rw [hl]; exact hk), hl]
theorem Y1t {T T' sz n' : Nat} {x y : Operand} {id k n : Nat} {cs vs : List AV} {v : AV} (hs : Yce P T n) (hx : At tm x (.ptr id k)) (hy : At tm y v) (hj : v.rd = true) (hc : ∀ φ, (v.conc φ).cells = (AV.concL φ vs).toArray) (hn : vs.length = n) (h0 : 0 < n) (h1 : Yg3 vs = true) (hk : k + n <= cs.length) :
  Does P { dst, op := .store T x y, type, pos, after, guard } tm [(id, .row T' sz n' cs)] (.v undef) [(id, .row T' sz n' (cs.take k ++ vs ++ cs.drop (k + vs.length)))] [] :=
 fun φ w0 M R a w K Q ho _ hS kk => by
  have h2 := Yq (ho.ev (x := x) (by simp [Op.operands]) hx (by simp));have h3 := Yq (ho.ev (x := y) (by simp [Op.operands]) hy hj);refine Ynl (v := v.conc φ) hS hs h2 h3 (by rw [hc φ]; simp [Yg, hn]) h0 (fun u hu => Yc4 h1 φ u (by rw [hc φ] at hu; simpa using hu)) (by simp [Yg]; omega) fun w' hS' => ?_;rw [hc φ, show n = (AV.concL φ vs).length by rw [Yg, hn], <- Yhq] at hS';exact kk φ w' (Agree.refl _ _) (by simpa [Yh, upd, Nat.beq_refl, Yb, It.conc] using hS')
inductive Parts (tm : List AV) (sz : Nat) : Nat -> List (Nat × Operand) -> List AV -> List AV -> Prop
 | nil {k : Nat} : Parts tm sz k [] [] []
 | cons {k : Nat} {x : Operand} {v : AV} {ps : List (Nat × Operand)} {vs cs ds : List AV} (hx : At tm x v) (hj : v.rd = true) (hc : ∀ φ, (v.conc φ).cells = (AV.concL φ cs).toArray) (hn : cs.length = sz) (hh : ∀ i, v.has i = false -> AV.hasL i cs = false) (t : Parts tm sz (k + 1) ps vs ds) : Parts tm sz k ((k, x) :: ps) (v :: vs) (cs ++ ds)
theorem Parts.all {sz : Nat} {φ : Phi} {a : Act} : ∀ {k : Nat} {ps : List (Nat × Operand)} {vs cs : List AV}, Parts tm sz k ps vs cs -> (∀ p ∈ ps, ∀ v, At tm p.2 v -> v.rd = true -> a.eval p.2 = v.conc φ) ->
  AllParts a sz k ps (AV.concL φ vs) /\ ((AV.concL φ vs).map fun v => v.cells.toList).flatten = AV.concL φ cs := by
 intro k ps vs cs h
 induction h with
 | nil => intro _; exact ⟨trivial, rfl⟩
 | cons hx hj hc hn hh t ih =>
  intro ho;obtain ⟨h1, h2⟩ := ih fun p hp => ho p (List.mem_cons_of_mem _ hp);refine ⟨⟨rfl, by rw [Ycl, ho _ List.mem_cons_self _ hx hj], by rw [hc φ]; simp [Yg, hn], h1⟩, ?_⟩;rw [Yby, AV.concL, List.map_cons, List.flatten_cons, h2, hc φ]
theorem Parts.new {sz : Nat} : ∀ {k : Nat} {ps : List (Nat × Operand)} {vs cs : List AV}, Parts tm sz k ps vs cs -> ∀ {i : Nat}, AV.hasL i tm = false -> AV.hasL i cs = false := by
 intro k ps vs cs h
 induction h with
 | nil => intro i _; rfl
 | cons hx hj hc hn hh t ih =>
  intro i hi;rw [Yp, List.any_append, <- Yp, <- Yp, ih hi, hh i (hx.new hi)];rfl
theorem Parts.len {sz : Nat} : ∀ {k : Nat} {ps : List (Nat × Operand)} {vs cs : List AV}, Parts tm sz k ps vs cs -> vs.length = ps.length /\ cs.length = ps.length * sz := by
 intro k ps vs cs h
 induction h with
 | nil => simp
 | cons hx hj hc hn hh t ih =>
  simp only [List.length_cons, List.length_append, ih.1, ih.2, hn, Nat.succ_mul, true_and];omega
theorem d_lit {T e : TypeId} {sz by_ len : Nat} {zs : List AV} {parts : List (Nat × Operand)} {vs cs : List AV} {id : Nat} (ht : (mkTI P T).slice = some (e, sz, by_, zs)) (hp : Parts tm sz 0 parts vs cs) (hl : parts.length = len) (hlen : len * sz <= 16777216) (hm : len <= maxLen) :
  Does P { dst, op := .buildSlice T len parts.toArray, type, pos, after, guard } tm [] (.sl id 0 0 len) [] [(id, .row e sz len cs)] :=
 fun φ w0 M R a w K Q ho hn hS kk => by
  obtain ⟨h1, h2⟩ := hp.all (φ := φ) (a := a) fun p hp v hv hj => ho p.2 (by simp only [Op.operands, List.mem_toArray, List.mem_map]; exact ⟨p, by simpa using hp, rfl⟩) v hv hj;refine Y4e hS (Yl ht φ).1 h1 (by rw [Yg, hp.len.1, hl]) (by simpa [Nat.ble_eq] using hlen) fun b w' hS' => ?_;rw [h2] at hS';have hS2 := hS'.toRow (n := len) (sz := sz) .head hm (by simp [Yg, hp.len.2, hl]);have hag := Yt φ id ⟨b, false, len, none, 0, undef, fun _ => False⟩;have e' : AV.concL (fun i => if i = id then (⟨b, false, len, none, 0, undef, fun _ => False⟩ : Hd) else φ i) cs = AV.concL φ cs := Y1 hag cs fun i hi => by rw [List.mem_singleton.1 hi]; exact hp.new (hn id (by simp [keys])).1
  have := kk _ w' hag (by simpa [Yh, Yb, It.conc, e'] using hS2);simpa [AV.conc] using this
theorem Yus {w : World} {T sz n : Nat} {v : Value} {xs : List Value} (h : w.ownsRow 0 T sz v n xs) : ∃ hd : Hd, v = .slice (if hd.nil then none else some ⟨hd.b, 0, none⟩) n hd.c := by
 rcases h.2 with ⟨rfl, rfl⟩ | ⟨g, cap, cur, rfl, _⟩
 ·exact ⟨⟨0, true, 0, none, 0, undef, fun _ => False⟩, rfl⟩
 ·exact ⟨⟨g, false, cap, none, 0, undef, fun _ => False⟩, rfl⟩
theorem St.dead {w0 w : World} {M : List Nat} {L : RL} (h : St w0 M L w) : St w0 M (.row (.slice none 0 0) 0 0 0 [] :: L) w :=
 h.add (Ext.refl _) ⟨by simp, .inl ⟨rfl, rfl⟩⟩ (by simp [Res.foot, Value.ownBlock])
theorem Ysh {T e : TypeId} {sz by_ n m lo2 off2 id id2 id' : Nat} {zs : List AV} {s x : Operand} {cs : List AV} {it2 : It} {news : List AV} (ht : (mkTI P T).slice = some (e, sz, by_, zs)) (hz : zs.length = sz) (hsz : 0 < sz)
  (hs : At tm s (.sl id 0 0 n)) (hx : At tm x (.sl id2 off2 lo2 m)) (hne : id ≠ id2)
  (hnn : ∀ (φ : Phi) (w0 : World) (M : List Nat) (R : RL) (w : World), St w0 M (it2.conc φ id2 :: R) w -> (φ id2).nil = false)
  (hl : news.length = m * sz) (hcs : ∀ (φ : Phi) (j : Nat) (u : Value), (AV.concL φ news)[j]? = some u -> (it2.vals φ)[off2 + j]? = some u) (h1 : Yg3 news = true)
  (hnew2 : ∀ i, it2.has i = false -> AV.hasL i news = false) (h63 : n + m <= maxLen) (hb : (n + m) * by_ <= 140737488355328) :
  Does P { dst, op := .call { callee := .builtin .append, args := #[s, x], argTypes := #[T, T] }, type, pos, after, guard } tm [(id, .row e sz n cs), (id2, it2)] (.sl id' 0 0 (n + m)) [(id, .dead)] [(id', .row e sz (n + m) (cs ++ news))] :=
 fun φ w0 M R a w K Q ho hn hS kk => by
  have hS2 : St w0 M (it2.conc φ id2 :: (It.row e sz n cs).conc φ id :: R) w := hS.perm (List.Perm.swap _ _ _);have hnil := hnn φ w0 M _ w hS2;have e1 := ho.ev (x := s) (by simp [Op.operands, Call.operands]) hs (by simp);have e2 := ho.ev (x := x) (by simp [Op.operands, Call.operands]) hx (by simp);simp only [AV.conc, hnil, Bool.false_eq_true, if_false] at e2;simp only [AV.conc, Nat.sub_zero] at e1;have hnx := hn id' (by simp [keys]);have hh : hasH id' [(id, It.row e sz n cs), (id2, it2)] = false := hnx.2;have hcs' : AV.hasL id' cs = false := by have := (Yu hh (p := (id, It.row e sz n cs)) (by simp)).2; simpa [It.has] using this
  have hnw' : AV.hasL id' news = false := hnew2 id' (Yu hh (p := (id2, it2)) (by simp)).2;have hid2 : id2 ≠ id' := (Yu hh (p := (id2, it2)) (by simp)).1;have hit2 : it2.has id' = false := (Yu hh (p := (id2, it2)) (by simp)).2;refine Yfm (xs := AV.concL φ cs) (news := AV.concL φ news) hS (Yl ht φ).1 (by simp [Yg, hz]) hsz e1 e2 (.head) (by rw [Yg, hl]) (fun j u hj => ?_) (Yc4 h1 φ) h63 hb fun v' w' _ hS' => ?_
  ·rw [Ym];exact Ybg hS2 (hcs φ j u hj)
  ·obtain ⟨hd, rfl⟩ := Yus (hS'.row .head);have hag := Yt φ id' hd;have ea : AV.concL (fun i => if i = id' then hd else φ i) (cs ++ news) = AV.concL φ cs ++ AV.concL φ news := by
    rw [Y1 hag _ fun i hi => by rw [List.mem_singleton.1 hi, Yp, List.any_append, <- Yp, <- Yp, hcs', hnw']; rfl, Yby]
   have eb : it2.conc (fun i => if i = id' then hd else φ i) id2 = it2.conc φ id2 := Ygk hag (by simpa using hid2) _ fun i hi => by rw [List.mem_singleton.1 hi]; exact hit2
   have hS3 := (hS'.perm (List.Perm.swap _ _ _)).dead;have := kk _ w' hag (by
    simp only [Yh, upd, Nat.beq_refl, Yb, List.cons_append, List.nil_append, List.map_cons, List.map_nil, eb];simp only [Yb, List.map_cons, List.map_nil] at hS3;generalize it2.conc φ id2 = r2 at hS3 ⊢;simp only [It.conc, ea, if_true];exact hS3)
   simpa [AV.conc] using this
theorem Yvv {w0 w : World} {M : List Nat} {R : RL} {K : Act -> World -> Prop} {Q : Exit -> Act -> World -> Prop} {a : Act} {T e : TypeId} {sz by_ m c n : Nat} {zs : Array Value} {s x : Operand} {v : Value} {ad : Addr} {xs news : List Value} (h : St w0 M (.row v e sz n xs :: R) w) (ht : SliceOf P T e sz by_ zs) (hz : zs.size = sz) (hsz : 0 < sz)
  (hs : Yc0 a s = some v) (hx : Yc0 a x = some (.slice (some ad) m c)) (hl : news.length = m * sz) (hnews : ∀ j u, news[j]? = some u -> w.cell? (ad.add j) = some u) (h1 : ∀ u ∈ news, u.oneCell' = true) (h63 : n + m <= maxLen) (hb : (n + m) * by_ <= 140737488355328)
  (kk : ∀ v' w', (∃ g cap, v = .slice (some ⟨g, 0, none⟩) n cap /\ v' = .slice (some ⟨g, 0, none⟩) (n + m) cap /\ n <= cap /\ St w0 M (.row v' e sz (n + m) (xs ++ news) :: R) w') \/ ((v = .slice none 0 0 \/ v'.ownBlock ≠ v.ownBlock) /\ St w0 M (.row v' e sz (n + m) (xs ++ news) :: .row v e sz n xs :: R) w') -> K (a.put dst v') w') :
  Oper.wp P { dst, op := .call { callee := .builtin .append, args := #[s, x], argTypes := #[T, T] }, type, pos, after, guard } a w K Q := by
 have hrow := h.row .head;rcases hrow.2 with ⟨rfl, rfl⟩ | ⟨g, cap, cur, rfl, hbg, hg, hnc, hcm, hcs, htake⟩
 ·refine Yfm h ht hz hsz hs hx .head hl hnews h1 h63 hb fun v' w' _ hS' => kk v' w' (.inr ⟨.inl rfl, ?_⟩);have := hS'.add (Ext.refl _) (r := .row (.slice none 0 0) e sz 0 xs) ⟨hrow.1, .inl ⟨rfl, rfl⟩⟩ (by simp [Res.foot, Value.ownBlock]);exact this.perm (List.Perm.swap _ _ _)
 ·replace hs := Yq hs
  replace hx := Yq hx
  obtain ⟨i, z, hi, hz1, hz2, his, hib⟩ := ht.parts
  by_cases hroom : n + m <= cap
  ·have hfit : n * i.size + news.length <= cur.size := by rw [hl, hcs, his, <- Nat.add_mul]; exact Nat.mul_le_mul_right _ hroom
   have hr := run_append_room (P := P) w T type e i ht.1 hi g n cap cur hg ad m c news (by rw [hl, his]) hnews h1 hroom hfit;have hlen : (xs ++ news).length = (n + m) * sz := by rw [List.length_append, hrow.1, hl, Nat.add_mul]
   have hS' := h.upd (w' := w.setRow g (cur.toList.take (n * i.size) ++ news ++ cur.toList.drop (n * i.size + news.length)).toArray) (r' := .row (.slice (some ⟨g, 0, none⟩) (n + m) cap) e sz (n + m) (xs ++ news)) .head
    ⟨rfl, rfl, rfl, by simp, fun k _ hk => setRow_other w g k _ (fun e => hk (by simp [Res.foot, Value.ownBlock, e]))⟩
    ⟨hlen, .inr ⟨g, cap, _, rfl, hbg, setRow_heap w g cur _ e _ hg, hroom, hcm, by
     simp only [List.size_toArray, List.length_append, List.length_take, List.length_drop, Array.length_toList];omega, by
     rw [his, htake];simp only [];rw [<- hlen];exact List.take_left⟩⟩ (fun b' hb' => .inl (by simpa [Res.foot, Value.ownBlock] using hb'))
   have h4 := kk _ _ (.inl ⟨g, cap, rfl, rfl, hnc, hS'⟩);unfold Oper.wp execOp;simp only [resolve, invoke, builtin, Sem.run_bind, Sem.run_pure, Result.andThen_ok, List.map_toArray, List.map_cons, List.map_nil, hs, hx, hr, Oper.upon];exact h4
  ·obtain ⟨v', w', hr, ho', hgr⟩ := run_append_arg_grows (P := P) w T type e i z sz by_ ht.1 hi hz1 his hib (by rw [hz2, hz]) hsz ⟨g, 0, none⟩ n cap xs hrow.1 (hrow.cells rfl)
    ad m c news hl hnews (by omega) h63 hb
   have hext : Ext w w' := ⟨hgr.os, hgr.tape, hgr.output, hgr.size, fun k hk => hgr.block k hk (by simp)⟩;have hS' := h.add hext (r := .row v' e sz (n + m) (xs ++ news)) ⟨ho'.1, ho'.2.imp (fun h => h) fun ⟨g, cap, cur, a, _, c⟩ => ⟨g, cap, cur, a, Nat.zero_le _, c⟩⟩ (fun b hb' => by
    simp only [Res.foot, Option.mem_toList] at hb';exact (ho'.lt b hb').1)
   have h4 := kk v' w' (.inr ⟨.inr (fun e => by
    have h5 := (ho'.lt g e).1;have h6 := (hrow.lt g rfl).2;omega), hS'⟩)
   unfold Oper.wp execOp;simp only [resolve, invoke, builtin, Sem.run_bind, Sem.run_pure, Result.andThen_ok, List.map_toArray, List.map_cons, List.map_nil, hs, hx, hr, Oper.upon];exact h4
theorem Yp4 {T e : TypeId} {sz by_ n m lo2 off2 id id2 id' : Nat} {zs : List AV} {s x : Operand} {cs : List AV} {it2 : It} {news : List AV} (ht : (mkTI P T).slice = some (e, sz, by_, zs)) (hz : zs.length = sz) (hsz : 0 < sz)
  (hs : At tm s (.sl id 0 0 n)) (hx : At tm x (.sl id2 off2 lo2 m)) (hne : id ≠ id2)
  (hnn : ∀ (φ : Phi) (w0 : World) (M : List Nat) (R : RL) (w : World), St w0 M (it2.conc φ id2 :: R) w -> (φ id2).nil = false)
  (hl : news.length = m * sz) (hcs : ∀ (φ : Phi) (j : Nat) (u : Value), (AV.concL φ news)[j]? = some u -> (it2.vals φ)[off2 + j]? = some u) (h1 : Yg3 news = true)
  (hnew2 : ∀ i, it2.has i = false -> AV.hasL i news = false) (h63 : n + m <= maxLen) (hb : (n + m) * by_ <= 140737488355328) :
  Does P { dst, op := .call { callee := .builtin .append, args := #[s, x], argTypes := #[T, T] }, type, pos, after, guard } tm [(id, .row e sz n cs), (id2, it2)] (.sl id' 0 0 (n + m)) [(id, .bkv e sz n cs id')] [(id', .row e sz (n + m) (cs ++ news))] :=
 fun φ w0 M R a w K Q ho hn hS kk => by
  have hS2 : St w0 M (it2.conc φ id2 :: (It.row e sz n cs).conc φ id :: R) w := hS.perm (List.Perm.swap _ _ _);have hnil := hnn φ w0 M _ w hS2;have e1 := ho.ev (x := s) (by simp [Op.operands, Call.operands]) hs (by simp);have e2 := ho.ev (x := x) (by simp [Op.operands, Call.operands]) hx (by simp);simp only [AV.conc, hnil, Bool.false_eq_true, if_false] at e2;simp only [AV.conc, Nat.sub_zero] at e1;have hnx := hn id' (by simp [keys]);have hh : hasH id' [(id, It.row e sz n cs), (id2, it2)] = false := hnx.2;have hcs' : AV.hasL id' cs = false := by have := (Yu hh (p := (id, It.row e sz n cs)) (by simp)).2; simpa [It.has] using this
  have hid : id ≠ id' := (Yu hh (p := (id, It.row e sz n cs)) (by simp)).1;have hnw' : AV.hasL id' news = false := hnew2 id' (Yu hh (p := (id2, it2)) (by simp)).2;have hid2 : id2 ≠ id' := (Yu hh (p := (id2, it2)) (by simp)).1;have hit2 : it2.has id' = false := (Yu hh (p := (id2, it2)) (by simp)).2;have hS1 : St w0 M ((It.row e sz n cs).conc φ id :: it2.conc φ id2 :: R) w := by simpa [Yb] using hS
  refine Yvv (xs := AV.concL φ cs) (news := AV.concL φ news) hS1 (Yl ht φ).1 (by simp [Yg, hz]) hsz e1 e2 (by rw [Yg, hl]) (fun j u hj => ?_) (Yc4 h1 φ) h63 hb fun v' w' hS' => ?_
  ·rw [Ym];exact Ybg hS2 (hcs φ j u hj)
  ·obtain ⟨hd, rfl⟩ : ∃ hd : Hd, v' = .slice (if hd.nil then none else some ⟨hd.b, 0, none⟩) (n + m) hd.c := by
    rcases hS' with ⟨g, cap, _, _, _, h⟩ | ⟨_, h⟩ <;> exact Yus (h.row .head)
   have hag := Yt φ id' hd;have ea : AV.concL (fun i => if i = id' then hd else φ i) (cs ++ news) = AV.concL φ cs ++ AV.concL φ news := by
    rw [Y1 hag _ fun i hi => by rw [List.mem_singleton.1 hi, Yp, List.any_append, <- Yp, <- Yp, hcs', hnw']; rfl, Yby]
   have ec : AV.concL (fun i => if i = id' then hd else φ i) cs = AV.concL φ cs := Y1 hag _ fun i hi => by rw [List.mem_singleton.1 hi, hcs']
   have eb : it2.conc (fun i => if i = id' then hd else φ i) id2 = it2.conc φ id2 := Ygk hag (by simpa using hid2) _ fun i hi => by rw [List.mem_singleton.1 hi]; exact hit2
   have := kk _ w' hag (by
    simp only [Yh, upd, Nat.beq_refl, Yb, List.cons_append, List.nil_append, List.map_cons, List.map_nil, eb];have e5 : (It.bkv e sz n cs id').conc (fun i => if i = id' then hd else φ i) id = Ywp (φ id) hd e sz n (AV.concL φ cs) := by simp [It.conc, hid, ec]
    have e6 : (It.row e sz (n + m) (cs ++ news)).conc (fun i => if i = id' then hd else φ i) id' = .row (.slice (if hd.nil then none else some ⟨hd.b, 0, none⟩) (n + m) hd.c) e sz (n + m) (AV.concL φ cs ++ AV.concL φ news) := by simp [It.conc, ea]
    rw [e5, e6];generalize it2.conc φ id2 = r2 at hS' ⊢;rcases hS' with ⟨g, cap, q1, q2, q3, hS'⟩ | ⟨q, hS'⟩
    ·have p1 : (φ id).nil = false /\ (φ id).b = g /\ (φ id).c = cap := by
      cases hnl : (φ id).nil <;> simp_all
     have p2 : hd.nil = false /\ hd.b = g /\ hd.c = cap := by
      cases hnl : hd.nil <;> simp_all
     have e7 : Ywp (φ id) hd e sz n (AV.concL φ cs) = .row (.slice none 0 0) 0 0 0 [] := by
      unfold Ywp;rw [if_pos ⟨p1.1, p2.1, by rw [p1.2.1, p2.2.1]⟩, if_pos ⟨by rw [p1.2.2, p2.2.2], by rw [p1.2.2]; exact q3⟩]
     rw [e7];exact (hS'.perm (List.Perm.swap _ _ _)).dead
    ·have e7 : Ywp (φ id) hd e sz n (AV.concL φ cs) = .row (.slice (if (φ id).nil then none else some ⟨(φ id).b, 0, none⟩) n (φ id).c) e sz n (AV.concL φ cs) := by
      unfold Ywp;rw [if_neg];rintro ⟨c1, c2, c3⟩;rcases q with q | q
      ·simp [c1] at q
      ·exact q (by simp [c1, c2, c3, Value.ownBlock])
     rw [e7];exact hS'.perm ((List.Perm.swap _ _ _).trans ((List.Perm.swap _ _ _).cons _)))
   simpa [AV.conc] using this
theorem Does.back {o : Oper} {it it2 it' : It} {id j : Nat} {val : AV} (h : Does P o tm [(id, it')] val [] []) (hne : id ≠ j)
  (sh : ∀ (φ : Phi) (w0 : World) (M : List Nat) (R : RL) (w : World), St w0 M (it.conc φ id :: it2.conc φ j :: R) w -> St w0 M (it'.conc φ id :: It.dead.conc φ j :: R) w) : Does P o tm [(id, it), (j, it2)] val [(id, it'), (j, .dead)] [] :=
 fun φ w0 M R a w K Q ho hn hS kk => by
  refine h φ w0 M (It.dead.conc φ j :: R) a w K Q ho (fun i hi => by simp [keys] at hi) ?_ fun φ' w' hag hS' => ?_
  ·have := sh φ w0 M R w (by simpa [Yb] using hS);simpa [Yb] using this
  ·have e : φ' = φ := funext fun i => hag i (by simp [keys]);subst e;refine kk φ' w' hag ?_;have hb : Nat.beq id j = false := Y3.2 hne;simp only [Yh, upd, Nat.beq_refl, hb, Yb, List.map_cons, List.map_nil, List.append_nil, List.nil_append, List.cons_append] at hS' ⊢;exact hS'
end
end Go.Proofs.Ytilnbgpogfabaaa
namespace Go.Proofs.Ytilnbgpogfabaaa
open Go.RowKit
variable [InW]
attribute [local irreducible] Go.Oper.wp
section
variable {P : Program} {tm : List AV} {dst : Option Tmp} {type : TypeId} {pos : String} {after : Array Edge} {guard : Option (Nat × Bool)} {w : World}
def Yb1 (v : Option Value) (dflt k : Nat) : Prop := match v with | none => k = dflt | some (.int _ i) => i = (k : Int) | _ => False
theorem Ycs {v : Value} {kd : IntKind} {k y : Nat} (hv : v = .int kd (k : Int)) (hk : k <= y) (code : BoundsCode) : (Instr.sliceBound v y code).run P w = .ok k w := by
 subst hv;have h1 : (0 : Int) <= (k : Int) /\ (k : Int) <= (y : Int) := by omega
 simp only [Instr.sliceBound, asIntOf, Sem.run_bind, Sem.run_pure, Result.andThen_ok, h1, and_self, if_true, Int.toNat_natCast]
theorem Yc3 {T e : TypeId} {sz by_ : Nat} {zs : Array Value} (ht : SliceOf P T e sz by_ zs) (A : Option Addr) {n c l h : Nat} {lov hiv : Option Value} (hl : Yb1 lov 0 l) (hh : Yb1 hiv n h) (h1 : l <= h) (h2 : h <= c) :
  (Instr.sliceAt T (.slice A n c) lov hiv none).run P w = .ok (.slice (if c = l then A else A.map (·.add (l * sz))) (h - l) (c - l)) w := by
 obtain ⟨j, z, hj, hz1, hz2, his, hib⟩ := ht.parts;subst his;have e1 : (Instr.sliceBounds true n c lov hiv none).run P w = .ok (l, h, c) w := by
  unfold Instr.sliceBounds;have eh : (match hiv, (none : Option Value) with | some v, some _ => Instr.sliceBound v c .slice3B | some v, none => Instr.sliceBound v c .sliceAcap | none, none => pure n | none, some _ => stuck "Slice: max without high" : Sem Nat).run P w = .ok h w := by
   cases hiv with
   | none => simp only [Yb1] at hh; subst hh; rfl
   | some v => cases v <;> simp only [Yb1] at hh; subst hh; exact Ycs rfl h2 _
  have el : (match lov with | some v => Instr.sliceBound v h .sliceB | none => pure 0 : Sem Nat).run P w = .ok l w := by
   cases lov with
   | none => simp only [Yb1] at hl; subst hl; rfl
   | some v => cases v <;> simp only [Yb1] at hl; subst hl; exact Ycs rfl h1 _
  simp only [Sem.run_bind, Sem.run_pure, Result.andThen_ok, if_true, Option.isSome_none, Bool.false_eq_true, if_false];cases hiv <;> cases lov <;> simp_all [Sem.run_bind]
 simp only [Instr.sliceAt, Sem.run_bind, run_underlying ht.1 w, Result.andThen_ok, Instr.slice, e1, sizeOf, typeInfo, run_program, hj, Sem.run_pure]
theorem Ycb {T : TypeId} {x : Operand} {lo hi mx : Option Operand} {a : Act} {r : Value} (h : (Instr.sliceAt T (a.eval x) (lo.map a.eval) (hi.map a.eval) (mx.map a.eval)).run P w = .ok r w) :
  (execOp a.eval { dst, op := .slice T x lo hi mx, type, pos, after, guard }).run P w = .ok (.value r) w := by
 simp only [execOp, Sem.run_bind, h, Result.andThen_ok, Sem.run_pure]
def BoundA (tm : List AV) (x : Option Operand) (dflt k : Nat) : Prop := match x with | none => k = dflt | some x => ∃ kd, At tm x (.v (.int kd (k : Int)))
theorem BoundA.is {φ : Phi} {a : Act} {x : Option Operand} {dflt k : Nat} (h : BoundA tm x dflt k) (ho : ∀ y, x = some y -> ∀ v, At tm y v -> v.rd = true -> a.eval y = v.conc φ) : Yb1 (x.map a.eval) dflt k := by
 cases x with
 | none => exact h
 | some y =>
  obtain ⟨kd, hy⟩ := h;simp only [Option.map_some, ho y rfl _ hy (by simp), AV.conc, Yb1]
theorem Yis {w0 : World} {M : List Nat} {R : RL} {φ : Phi} {id T sz n : Nat} {cs : List AV} (h : St w0 M ((It.row T sz n cs).conc φ id :: R) w) : n <= (φ id).c := by
 have hh : w.ownsRow 0 T sz (.slice (if (φ id).nil then none else some ⟨(φ id).b, 0, none⟩) n (φ id).c) n (AV.concL φ cs) := h.look Look.head;rcases hh.2 with ⟨_, h0⟩ | ⟨g, cap, cur, hg, _, _, hnc, _⟩
 ·omega
 ·simp only [Value.slice.injEq] at hg; omega
theorem Y1y {T T' e sz sz' by_ off lo n h N id : Nat} {zs cs : List AV} {x : Operand} {hi lop : Option Operand} (ht : (mkTI P T).slice = some (e, sz, by_, zs)) (hx : At tm x (.sl id off lo n)) (hl : BoundA tm lop 0 0) (hh : BoundA tm hi n h) (h1 : h <= n) (hN : lo + n <= N) :
  Does P { dst, op := .slice T x lop hi none, type, pos, after, guard } tm [(id, .row T' sz' N cs)] (.sl id off lo h) [] [] :=
 fun φ w0 M R a w K Q ho _ hS kk => by
  have hc : N <= (φ id).c := Yis hS;have e1 := ho x (by simp [Op.operands]) _ hx (by simp);simp only [AV.conc] at e1;have hr := Yc3 (w := w) (Yl ht φ).1 (if (φ id).nil then none else some ⟨(φ id).b, off, none⟩) (n := n) (c := (φ id).c - lo) (l := 0) (h := h) (hl.is (φ := φ) (a := a) fun y hy => ho y (by simp [Op.operands, hy])) (hh.is (φ := φ) (a := a) fun y hy => ho y (by simp [Op.operands, hy])) (Nat.zero_le _) (by omega);rw [<- e1] at hr;unfold Oper.wp;rw [Ycb hr];have e2 : (if (φ id).c - lo = 0 then (if (φ id).nil then none else some (⟨(φ id).b, off, none⟩ : Addr)) else (if (φ id).nil then none else some (⟨(φ id).b, off, none⟩ : Addr)).map (·.add (0 * sz))) = (if (φ id).nil then none else some ⟨(φ id).b, off, none⟩) := by
   split
   ·rfl
   ·cases (φ id).nil <;> simp [Ym]
  have h3 := kk φ w (Agree.refl _ _) hS;simp only [AV.conc] at h3;simp only [Oper.upon, e2, Nat.sub_zero];exact h3
theorem Y1w {T T' e sz sz' by_ off lo n l h N id : Nat} {zs cs : List AV} {x : Operand} {hi lop : Option Operand} (ht : (mkTI P T).slice = some (e, sz, by_, zs)) (hx : At tm x (.sl id off lo n)) (hl : BoundA tm lop 0 l) (hh : BoundA tm hi n h) (h0 : l < h) (h1 : h <= n) (hN : lo + n <= N) :
  Does P { dst, op := .slice T x lop hi none, type, pos, after, guard } tm [(id, .row T' sz' N cs)] (.sl id (off + l * sz) (lo + l) (h - l)) [] [] :=
 fun φ w0 M R a w K Q ho _ hS kk => by
  have hc : N <= (φ id).c := Yis hS;have e1 := ho x (by simp [Op.operands]) _ hx (by simp);simp only [AV.conc] at e1;have hr := Yc3 (w := w) (Yl ht φ).1 (if (φ id).nil then none else some ⟨(φ id).b, off, none⟩) (n := n) (c := (φ id).c - lo) (l := l) (h := h) (hl.is (φ := φ) (a := a) fun y hy => ho y (by simp [Op.operands, hy])) (hh.is (φ := φ) (a := a) fun y hy => ho y (by simp [Op.operands, hy])) (by omega) (by omega);rw [<- e1] at hr;unfold Oper.wp;rw [Ycb hr];have h3 := kk φ w (Agree.refl _ _) hS;simp only [AV.conc] at h3;simp only [Oper.upon];rw [if_neg (by omega)];have e2 : ((if (φ id).nil then none else some (⟨(φ id).b, off, none⟩ : Addr)).map (·.add (l * sz))) = (if (φ id).nil then none else some ⟨(φ id).b, off + l * sz, none⟩) := by cases (φ id).nil <;> simp [Ym]
  rw [e2, Nat.sub_sub];exact h3
theorem Y1x {T T' e sz sz' by_ off lo n l N id id' : Nat} {zs cs : List AV} {x : Operand} {hi lop : Option Operand} (ht : (mkTI P T).slice = some (e, sz, by_, zs)) (hx : At tm x (.sl id off lo n)) (hl : BoundA tm lop 0 l) (hh : BoundA tm hi n l) (h1 : l <= n) (hN : lo + n <= N) :
  Does P { dst, op := .slice T x lop hi none, type, pos, after, guard } tm [(id, .row T' sz' N cs)] (.emp id') [] [(id', .dead)] :=
 fun φ w0 M R a w K Q ho hn hS kk => by
  have hc : N <= (φ id).c := Yis hS;have e1 := ho x (by simp [Op.operands]) _ hx (by simp);simp only [AV.conc] at e1;have hr := Yc3 (w := w) (Yl ht φ).1 (if (φ id).nil then none else some ⟨(φ id).b, off, none⟩) (n := n) (c := (φ id).c - lo) (l := l) (h := l) (hl.is (φ := φ) (a := a) fun y hy => ho y (by simp [Op.operands, hy])) (hh.is (φ := φ) (a := a) fun y hy => ho y (by simp [Op.operands, hy])) (Nat.le_refl _) (by omega);rw [<- e1] at hr;unfold Oper.wp;rw [Ycb hr];have hag := Yt φ id' ⟨0, false, (φ id).c - lo - l, if (φ id).c - lo = l then (if (φ id).nil then none else some ⟨(φ id).b, off, none⟩) else (if (φ id).nil then none else some (⟨(φ id).b, off, none⟩ : Addr)).map (·.add (l * sz)), 0, undef, fun _ => False⟩;have hx2 := hn id' (by simp [keys]);have hag2 : Yb (fun i => if i = id' then _ else φ i) [(id, It.row T' sz' N cs)] = Yb φ [(id, It.row T' sz' N cs)] := Ybw hag fun i hi => by rw [List.mem_singleton.1 hi]; exact hx2.2
  have h3 := kk _ w hag (by
   rw [Yo];simp only [Yh, hag2];have := hS.dead;exact this.perm (by simp only [Yb, List.map_cons, List.map_nil, It.conc, List.cons_append, List.nil_append]; exact List.Perm.swap _ _ _))
  simp only [AV.conc, if_true] at h3;simp only [Oper.upon, Nat.sub_self];exact h3
theorem Yq5 {T e : TypeId} {sz by_ : Nat} {zs : Array Value} (ht : SliceOf P T e sz by_ zs) (A : Option Addr) {n c h m : Nat} {hv mv : Value} {k1 k2 : IntKind} (hh : hv = .int k1 (h : Int)) (hm : mv = .int k2 (m : Int)) (h1 : h <= m) (h2 : m <= c) :
  (Instr.sliceAt T (.slice A n c) none (some hv) (some mv)).run P w = .ok (.slice (if m = 0 then A else A.map (·.add (0 * sz))) h m) w := by
 obtain ⟨j, z, hj, hz1, hz2, his, hib⟩ := ht.parts;subst his;have e1 : (Instr.sliceBounds true n c none (some hv) (some mv)).run P w = .ok (0, h, m) w := by
  simp only [Instr.sliceBounds, Sem.run_bind, if_true, Ycs hm h2, Ycs hh h1, Result.andThen_ok, Sem.run_pure]
 simp only [Instr.sliceAt, Sem.run_bind, run_underlying ht.1 w, Result.andThen_ok, Instr.slice, e1, sizeOf, typeInfo, run_program, hj, Sem.run_pure, Nat.sub_zero]
theorem Ysi {T e : TypeId} {sz by_ m lo2 off2 id2 id' : Nat} {zs : List AV} {s x : Operand} {it2 : It} {news : List AV} (ht : (mkTI P T).slice = some (e, sz, by_, zs)) (hz : zs.length = sz) (hsz : 0 < sz)
  (hs : At tm s (.v (.slice none 0 0))) (hx : At tm x (.sl id2 off2 lo2 m))
  (hnn : ∀ (φ : Phi) (w0 : World) (M : List Nat) (R : RL) (w : World), St w0 M (it2.conc φ id2 :: R) w -> (φ id2).nil = false)
  (hl : news.length = m * sz) (hcs : ∀ (φ : Phi) (j : Nat) (u : Value), (AV.concL φ news)[j]? = some u -> (it2.vals φ)[off2 + j]? = some u) (h1 : Yg3 news = true)
  (hnew2 : ∀ i, it2.has i = false -> AV.hasL i news = false) (h63 : m <= maxLen) (hb : m * by_ <= 140737488355328) :
  Does P { dst, op := .call { callee := .builtin .append, args := #[s, x], argTypes := #[T, T] }, type, pos, after, guard } tm [(id2, it2)] (.sl id' 0 0 m) [] [(id', .row e sz m news)] :=
 fun φ w0 M R a w K Q ho hn hS kk => by
  have hnil := hnn φ w0 M _ w hS;have e1 := ho.ev (x := s) (by simp [Op.operands, Call.operands]) hs (by simp);have e2 := ho.ev (x := x) (by simp [Op.operands, Call.operands]) hx (by simp);simp only [AV.conc, hnil, Bool.false_eq_true, if_false] at e2;simp only [AV.conc] at e1;have hnx := hn id' (by simp [keys]);have hnw' : AV.hasL id' news = false := hnew2 id' (Yu hnx.2 (p := (id2, it2)) (by simp)).2;have hid2 : id2 ≠ id' := (Yu hnx.2 (p := (id2, it2)) (by simp)).1;have hit2 : it2.has id' = false := (Yu hnx.2 (p := (id2, it2)) (by simp)).2;have hS2 := hS.add (Ext.refl _) (r := .row (.slice none 0 0) e sz 0 []) ⟨by simp, .inl ⟨rfl, rfl⟩⟩ (by simp [Res.foot, Value.ownBlock]);refine Yfm (n := 0) (xs := []) (news := AV.concL φ news) hS2 (Yl ht φ).1 (by simp [Yg, hz]) hsz e1 e2 (.head) (by rw [Yg, hl]) (fun j u hj => ?_) (Yc4 h1 φ) (by omega) (by simpa using hb) fun v' w' _ hS' => ?_
  ·rw [Ym];exact Ybg hS (hcs φ j u hj)
  ·rw [Nat.zero_add, List.nil_append] at hS';obtain ⟨hd, rfl⟩ := Yus (hS'.row .head);have hag := Yt φ id' hd;have ea : AV.concL (fun i => if i = id' then hd else φ i) news = AV.concL φ news := Y1 hag _ fun i hi => by rw [List.mem_singleton.1 hi]; exact hnw'
   have eb : it2.conc (fun i => if i = id' then hd else φ i) id2 = it2.conc φ id2 := Ygk hag (by simpa using hid2) _ fun i hi => by rw [List.mem_singleton.1 hi]; exact hit2
   have hS3 := hS'.perm (List.Perm.swap _ _ _);have := kk _ w' hag (by
    simp only [Yh, Yb, List.cons_append, List.nil_append, List.map_cons, List.map_nil, eb];simp only [Yb, List.map_cons, List.map_nil] at hS3;generalize it2.conc φ id2 = r2 at hS3 ⊢;simp only [It.conc, ea, if_true];exact hS3)
   simpa [AV.conc] using this
theorem Yif {T e : TypeId} {sz by_ : Nat} {zs : List AV} {s x : Operand} {sv xv : AV} {hs : Heap} (ht : (mkTI P T).slice = some (e, sz, by_, zs)) (hsv : At tm s sv) (hsj : sv.rd = true) (hxv : At tm x xv) (hxj : xv.rd = true)
  (hx : ∀ φ, ∃ A c, xv.conc φ = .slice A 0 c) (hc : ∀ (φ : Phi) (w0 : World) (M : List Nat) (R : RL) (w : World), St w0 M (Yb φ hs ++ R) w -> ∃ A n c, sv.conc φ = .slice A n c /\ n <= c) :
  Does P { dst, op := .call { callee := .builtin .append, args := #[s, x], argTypes := #[T, T] }, type, pos, after, guard } tm hs sv [] [] :=
 fun φ w0 M R a w K Q ho hn hS kk => by
  have e1 := ho s (by simp [Op.operands, Call.operands]) _ hsv hsj;have e2 := ho x (by simp [Op.operands, Call.operands]) _ hxv hxj;obtain ⟨A, n, c, h1, h2⟩ := hc φ w0 M R w hS;obtain ⟨B, d, h3⟩ := hx φ;obtain ⟨i, z, hi, hz1, hz2, his, hib⟩ := (Yl ht φ).1.parts;have hu := (Yl ht φ).1.1;have hsrc : Src P i.size T (xv.conc φ) 0 [] w := by
   rw [h3];cases B with
   | none => exact Src.ofNil w hu d
   | some b => exact Src.ofSlice w hu b 0 d [] (by simp) (by simp) (by simp)
  have hr := run_append_nothing w T T type e i hu hi A n c h2 (xv.conc φ) hsrc;have h4 := kk φ w (Agree.refl _ _) (by simpa [Yh] using hS);unfold Oper.wp execOp;simp only [resolve, invoke, builtin, Sem.run_bind, Sem.run_pure, Result.andThen_ok, List.map_toArray, List.map_cons, List.map_nil, e1, e2];rw [h1] at h4 ⊢;rw [hr];exact h4
end
end Go.Proofs.Ytilnbgpogfabaaa
namespace Go.Proofs.Ytilnbgpogfabaaa
open Go.RowKit
variable [InW]
attribute [local irreducible] Go.Oper.wp
section
variable {P : Program} {tm : List AV} {dst : Option Tmp} {type : TypeId} {pos : String} {after : Array Edge} {guard : Option (Nat × Bool)} {w : World}
theorem Ynu {r : Nat} {o : Obj} (h : w.heap[r]? = some o) (hc : ∀ a b c, o ≠ .cells a b c) : (getObj r).run P w = .ok o w := by
 unfold getObj;cases o <;> first | exact absurd rfl (hc _ _ _) | simp only [Sem.run, h]
theorem Ynt {r : Nat} {o o' : Obj} (h : w.heap[r]? = some o) (hc : ∀ a b c, o ≠ .cells a b c) : (setObj r o').run P w = .ok () { w with heap := w.heap.setIfInBounds r o' } := by
 unfold setObj;cases o <;> first | exact absurd rfl (hc _ _ _) | simp only [Sem.run, h]
theorem Yvx {w0 : World} {M : List Nat} {R : RL} {b : Nat} {o o' : Obj} (h : St w0 M (.blk b o :: R) w) : St w0 M (.blk b o' :: R) { w with heap := w.heap.setIfInBounds b o' } := by
 have hb : w.heap[b]? = some o := h.blk .head;have hlt : b < w.heap.size := (Array.getElem?_eq_some_iff.1 hb).1;refine h.upd .head ⟨rfl, rfl, rfl, by simp, fun k hk hm => ?_⟩ ?_ (fun b' hb' => .inl hb')
 ·have hne : b ≠ k := fun e => hm (by simp [Res.foot, e]);simp [Array.getElem?_setIfInBounds_ne hne]
 ·show ({ w with heap := w.heap.setIfInBounds b o' } : World).heap[b]? = some o'
  simp [hlt]
theorem Yzl {T : TypeId} {id : Nat} : Does P { dst, op := .makeMap T none, type, pos, after, guard } tm [] (.mp id) [] [(id, .obj (.mpV [] 0))] :=
 fun φ w0 M R a w K Q ho _ hS kk => by
  have hr : (Instr.makeMap T none).run P w = .ok (.map (some w.heap.size)) (w.alloc (.map #[] 0)) := by
   simp only [Instr.makeMap, Sem.run_bind, Sem.run_pure, Result.andThen_ok];rfl
  unfold Oper.wp execOp;simp only [Option.map_none, Sem.run_bind, hr, Result.andThen_ok, Sem.run_pure, Oper.upon];have hS' := hS.alloc (.map #[] 0);have hag := Yt φ id ⟨w.heap.size, false, 0, none, 0, undef, fun _ => False⟩;have := kk _ _ hag (by simpa [Yh, Yb, It.conc, OI.obj] using hS');simpa [AV.conc] using this
def Ylp (T : TypeId) (es : Array MapEntry) (index : Value) (commaOk : Bool) : Sem Value := do
 let .map key elem <- underlying T | stuck "Lookup: map type expected"
 Instr.checkKey es.isEmpty 10000 key index
 let (v, ok) <- match <- Instr.findKey key index es.toList with
  | some (_, v) => pure (v, true)
  | none => pure (<- zeroValue elem, false)
 pure (if commaOk then .tuple #[v, .bool ok] else v)
def Ykk (T : TypeId) (es : Array MapEntry) (clock : Nat) (key value : Value) : Sem (Array MapEntry × Nat) := do
 let .map keyType _ <- underlying T | stuck "MapUpdate: map type expected"
 Instr.checkKey false 10000 keyType key
 match <- Instr.findKey keyType key es.toList with
 | some (i, _) => do
  let key <- Instr.keyThatStays (((es[i]?).map (·.key)).getD key) key
  pure (es.modify i fun e => { e with key, val := value }, clock)
 | none => pure (es.push { key, val := value, born := clock }, clock + 1)
theorem Yv1 {T key elem : TypeId} {b : Nat} {es : Array MapEntry} {clock : Nat} {index v : Value} {ok : Bool} (hu : P.underlying T = some (.map key elem)) (hb : w.heap[b]? = some (.map es clock)) (h : (Ylp T es index ok).run P w = .ok v w) : (Instr.lookup T (.map (some b)) index ok).run P w = .ok v w := by
 have hg := Ynu (P := P) hb (by simp);unfold Ylp at h;unfold Instr.lookup;simp only [Sem.run_bind, run_underlying hu w, Result.andThen_ok, hg, Sem.run_pure] at h ⊢;exact h
theorem Yvz {T key elem : TypeId} {b : Nat} {es : Array MapEntry} {clock : Nat} {k v : Value} {r : Array MapEntry × Nat} (hu : P.underlying T = some (.map key elem)) (hb : w.heap[b]? = some (.map es clock)) (h : (Ykk T es clock k v).run P w = .ok r w) : (Instr.mapUpdate T (.map (some b)) k v).run P w = .ok () { w with heap := w.heap.setIfInBounds b (.map r.1 r.2) } := by
 have hg := Ynu (P := P) hb (by simp);unfold Ykk at h;unfold Instr.mapUpdate;simp only [Sem.run_bind, run_underlying hu w, Result.andThen_ok, hg, Sem.run_pure] at h ⊢;generalize (Instr.checkKey false 10000 key k).run P w = r1 at h ⊢;cases r1 with
 | halt x w' => simp [Result.andThen] at h
 | ok u w1 =>
  simp only [Result.andThen_ok] at h ⊢;generalize (Instr.findKey key k es.toList).run P w1 = r2 at h ⊢;cases r2 with
  | halt x w' => simp [Result.andThen] at h
  | ok f w2 =>
   simp only [Result.andThen_ok] at h ⊢;cases f with
   | none =>
    simp only [Sem.run_pure, Result.ok.injEq] at h;obtain ⟨rfl, rfl⟩ := h;exact Ynt hb (by simp)
   | some q =>
    simp only [Sem.run_bind] at h ⊢;generalize (Instr.keyThatStays (((es[q.1]?).map (·.key)).getD k) k).run P w2 = r3 at h ⊢;cases r3 with
    | halt x w' => simp [Result.andThen] at h
    | ok k' w3 =>
     simp only [Result.andThen_ok, Sem.run_pure, Result.ok.injEq] at h ⊢;obtain ⟨rfl, rfl⟩ := h;exact Ynt hb (by simp)
theorem Y1z {T key elem : TypeId} {x ix : Operand} {id clock : Nat} {es : List MapEntry} {iv : AV} {k v : Value} {ok : Bool} (hu : P.underlying T = some (.map key elem)) (hx : At tm x (.mp id)) (hi : At tm ix iv) (hj : iv.rd = true) (hk : ∀ φ, iv.conc φ = k) (hr : ∀ w, (Ylp T es.toArray k ok).run P w = .ok v w) :
  Does P { dst, op := .lookup T x ix ok, type, pos, after, guard } tm [(id, .obj (.mpV es clock))] (.v v) [] [] :=
 fun φ w0 M R a w K Q ho _ hS kk => by
  have e1 := ho x (by simp [Op.operands]) _ hx (by simp);have e2 := ho ix (by simp [Op.operands]) _ hi hj;rw [hk φ] at e2;have hS1 : St w0 M (.blk (φ id).b (.map es.toArray clock) :: R) w := hS;have hrun := Yv1 (ok := ok) hu (hS1.blk .head) (hr w);unfold Oper.wp execOp;simp only [e1, e2, AV.conc, Sem.run_bind, hrun, Result.andThen_ok, Sem.run_pure, Oper.upon];exact kk φ w (Agree.refl _ _) hS
theorem Y1r {T key elem : TypeId} {x ix y : Operand} {id clock : Nat} {es : List MapEntry} {iv yv : AV} {k v : Value} {r : Array MapEntry × Nat} (hu : P.underlying T = some (.map key elem)) (hx : At tm x (.mp id)) (hi : At tm ix iv) (hj : iv.rd = true) (hk : ∀ φ, iv.conc φ = k) (hy : At tm y yv) (hyj : yv.rd = true) (hyk : ∀ φ, yv.conc φ = v) (hr : ∀ w, (Ykk T es.toArray clock k v).run P w = .ok r w) :
  Does P { dst, op := .mapUpdate T x ix y, type, pos, after, guard } tm [(id, .obj (.mpV es clock))] (.v undef) [(id, .obj (.mpV r.1.toList r.2))] [] :=
 fun φ w0 M R a w K Q ho _ hS kk => by
  have e1 := ho x (by simp [Op.operands]) _ hx (by simp);have e2 := ho ix (by simp [Op.operands]) _ hi hj;have e3 := ho y (by simp [Op.operands]) _ hy hyj;rw [hk φ] at e2;rw [hyk φ] at e3;have hS1 : St w0 M (.blk (φ id).b (.map es.toArray clock) :: R) w := hS;have hrun := Yvz hu (hS1.blk .head) (hr w);have hS2 := Yvx (o' := .map r.1 r.2) hS1;unfold Oper.wp execOp;simp only [e1, e2, e3, AV.conc, Sem.run_bind, hrun, Result.andThen_ok, Sem.run_pure, Oper.upon];exact kk φ _ (Agree.refl _ _) (by simpa [Yh, upd, Nat.beq_refl, Yb, It.conc, OI.obj] using hS2)
end
end Go.Proofs.Ytilnbgpogfabaaa
namespace Go.Proofs.Ytilnbgpogfabaaa
open Go.RowKit
variable [InW]
structure RepS (φ0 φ : Phi) (w0 : World) (M : List Nat) (R : RL) (tm : List AV) (hp : Heap) (a : Act) (w : World) : Prop where
 tmps : RepT φ tm a
 st : St w0 M (Yb φ hp ++ R) w
 nd : (keys hp).Nodup
 base : ∀ x, φ (3 * x + 1) = φ0 x
structure PartOf (hs hp : Heap) : Prop where
 nd : (keys hs).Nodup
 all : ∀ p ∈ hs, look hp p.1 = some p.2
def Yrm : Heap -> List AV -> Heap -> Bool
 | [], _, _ => true
 | p :: nw, tm, hp => match AV.hasL p.1 tm with
  | true => false
  | false => match hasH p.1 hp with
   | true => false
   | false => match look nw p.1 with
    | some _ => false
    | none => match Nat.beq (p.1 % 3) 1 with
     | true => false
     | false => Yrm nw tm hp
theorem Yds : ∀ {nw : Heap} {tm : List AV} {hp : Heap}, Yrm nw tm hp = true -> NewFor (keys nw) tm hp /\ (keys nw).Nodup /\ ∀ i ∈ keys nw, i % 3 ≠ 1
 | [], tm, hp, _ => ⟨by intro i hi; simp [keys] at hi, by simp [keys], by simp [keys]⟩
 | p :: nw, tm, hp, h => by
  unfold Yrm at h
  split at h
  ·cases h
  ·rename_i h1
   split at h
   ·cases h
   ·rename_i h2
    split at h
    ·cases h
    ·rename_i h3
     split at h
     ·cases h
     ·rename_i h4;obtain ⟨a1, a2, a3⟩ := Yds h;refine ⟨fun i hi => ?_, ?_, fun i hi => ?_⟩
      ·simp only [keys, List.map_cons, List.mem_cons] at hi;rcases hi with rfl | hi
       ·exact ⟨h1, h2⟩
       ·exact a1 i hi
      ·simp only [keys, List.map_cons, List.nodup_cons];refine ⟨fun hm => ?_, a2⟩;obtain ⟨q, hq, e⟩ := List.mem_map.1 hm;have := Ybv a2 hq;rw [e, h3] at this;cases this
      ·simp only [keys, List.map_cons, List.mem_cons] at hi;rcases hi with rfl | hi
       ·exact Y3.1 h4
       ·exact a3 i hi
theorem Ygt : ∀ (us h h' : Heap) (k : Nat), look h k = look h' k -> look (Yh h us) k = look (Yh h' us) k
 | [], h, h', k, e => e
 | p :: us, h, h', k, e => by
  refine Ygt us _ _ k ?_;rw [Ypr, Ypr]
  by_cases ek : k = p.1
  ·subst ek; rw [e]
  ·simp [ek, e]
theorem Yde : ∀ (us h : Heap) (k : Nat), k ∉ keys us -> look (Yh h us) k = look h k
 | [], h, k, _ => rfl
 | p :: us, h, k, hk => by
  simp only [keys, List.map_cons, List.mem_cons, not_or] at hk;rw [Yh, Yde us _ k hk.2, Ypr, if_neg (fun h => hk.1 h.1)]
def Yb3 (hs hp : Heap) : Heap := hp.filter fun p => !(keys hs).contains p.1
theorem Ye9 {hs hp : Heap} {i : Nat} : i ∈ keys (Yb3 hs hp) ↔ i ∈ keys hp /\ i ∉ keys hs := by
 simp only [keys, Yb3, List.mem_map, List.mem_filter, Bool.not_eq_true', List.contains_eq_mem, decide_eq_false_iff_not];constructor
 ·rintro ⟨p, ⟨h1, h2⟩, rfl⟩; exact ⟨⟨p, h1, rfl⟩, h2⟩
 ·rintro ⟨⟨p, h1, rfl⟩, h2⟩; exact ⟨p, ⟨h1, h2⟩, rfl⟩
theorem Ylm {hs hp : Heap} (h : (keys hp).Nodup) : (keys (Yb3 hs hp)).Nodup := by
 unfold keys Yb3;exact (List.Nodup.sublist (List.filter_sublist.map _) h)
theorem Ylq {hs hp : Heap} (hn : (keys hp).Nodup) {i : Nat} (hi : i ∉ keys hs) : look (Yb3 hs hp) i = look hp i := by
 cases hl : look hp i with
 | some x =>
  have hm : (i, x) ∈ Yb3 hs hp := by simp only [Yb3, List.mem_filter, Bool.not_eq_true', List.contains_eq_mem, decide_eq_false_iff_not]; exact ⟨Yba hl, hi⟩
  exact Ybv (Ylm hn) hm
 | none =>
  refine Ybm fun hm => ?_;have := (Ye9.1 hm).1;obtain ⟨p, hp', rfl⟩ := List.mem_map.1 this;rw [Ybv hn hp'] at hl;cases hl
theorem PartOf.perm {hs hp : Heap} (h : PartOf hs hp) (hn : (keys hp).Nodup) : hp.Perm (hs ++ Yb3 hs hp) := by
 refine Yfr hn ?_ fun i => ?_
 ·rw [Ybk];exact List.nodup_append.2 ⟨h.nd, Ylm hn, fun a ha b hb e => (Ye9.1 hb).2 (e ▸ ha)⟩
 ·rw [Yh3]
  by_cases hi : i ∈ keys hs
  ·obtain ⟨p, hp', rfl⟩ := List.mem_map.1 hi;rw [Ybv h.nd hp', h.all p hp'];rfl
  ·rw [Ybm hi, Ylq hn hi];rfl
theorem Ys {φ : Phi} {a b : Heap} (h : a.Perm b) : (Yb φ a).Perm (Yb φ b) := h.map _
theorem Yws {hs hp us nw : Heap} (h : PartOf hs hp) (hn : (keys hp).Nodup) (hu : ∀ i ∈ keys us, i ∈ keys hs) (hw : (keys nw).Nodup) (hf : ∀ i ∈ keys nw, i ∉ keys hp) :
  (Y9 (Yh hp us) nw).Perm (Yh hs us ++ nw ++ Yb3 hs hp) /\ (keys (Y9 (Yh hp us) nw)).Nodup := by
 have hkp : ∀ i ∈ keys hs, i ∈ keys hp := fun i hi => by
  obtain ⟨p, hp', rfl⟩ := List.mem_map.1 hi;exact Ych (h.all p hp')
 have n1 : (keys (Y9 (Yh hp us) nw)).Nodup := by
  refine (Yg8 nw _).nodup_iff.2 ?_;rw [Yd0];exact List.nodup_append.2 ⟨hw, hn, fun a ha b hb e => hf a ha (e ▸ hb)⟩
 refine ⟨Yfr n1 ?_ fun i => ?_, n1⟩
 ·rw [Ybk, Ybk, Yd0];refine List.nodup_append.2 ⟨List.nodup_append.2 ⟨h.nd, hw, fun a ha b hb e => hf b hb (e ▸ hkp a ha)⟩, Ylm hn, fun a ha b hb e => ?_⟩;have hb' := Ye9.1 hb;rcases List.mem_append.1 ha with ha | ha
  ·exact hb'.2 (e ▸ ha)
  ·exact hf a ha (e ▸ hb'.1)
 ·rw [Yg7 nw _ hw (by rw [Yd0]; exact hf), Yh3, Yh3]
  by_cases hi : i ∈ keys hs
  ·obtain ⟨p, hp', rfl⟩ := List.mem_map.1 hi;have e1 : look hp p.1 = look hs p.1 := by rw [h.all p hp', Ybv h.nd hp']
   have h0 : look nw p.1 = none := Ybm fun hm => hf _ hm (hkp _ hi);have h1 : look (Yb3 hs hp) p.1 = none := Ybm fun hm => (Ye9.1 hm).2 hi;rw [Ygt us _ _ _ e1, h0, h1];simp
  ·have h2 : look (Yh hs us) i = none := by rw [Yde us _ _ (fun hm => hi (hu i hm)), Ybm hi]
   rw [Yde us _ _ (fun hm => hi (hu i hm)), h2, Ylq hn hi];simp
def putA (tm : List AV) (dst : Option Tmp) (v : AV) : List AV := match dst with | none => tm | some d => Yci tm d v
def Y01 (x : AV) (xs : List AV) (v : AV) (K : List AV -> Prop) : Prop :=
 match x with
 | .held y => K (.held y :: xs)
 | _ => (match v with | .held _ => K (.junk :: xs) | v => K (v :: xs))
def Y2j (l : List AV) : Nat -> AV -> (List AV -> Prop) -> Prop :=
 List.rec (motive := fun _ => Nat -> AV -> (List AV -> Prop) -> Prop) (fun _ _ _ => Stuck 3) (fun x xs ih n v K => Nat.rec (motive := fun _ => Prop) (Y01 x xs v K) (fun m _ => ih m v fun r => K (x :: r)) n) l
theorem Yld {v : AV} : ∀ {tm : List AV} {d : Nat} {K : List AV -> Prop}, Y2j tm d v K -> K (Yci tm d v)
 | [], _, _, h => h.elim
 | x :: xs, 0, K, h => by cases x <;> cases v <;> exact h
 | x :: xs, d + 1, K, h => Yld (tm := xs) (K := fun r => K (x :: r)) h
def putK (tm : List AV) (dst : Option Tmp) (v : AV) (K : List AV -> Prop) : Prop := match dst with | none => K tm | some d => Y2j tm d v K
theorem Yhr {tm : List AV} {dst : Option Tmp} {v : AV} {K : List AV -> Prop} (h : putK tm dst v K) : K (putA tm dst v) := by
 cases dst with
 | none => exact h
 | some d => exact Yld h
theorem RepT.put {φ : Phi} {tm : List AV} {a : Act} (h : RepT φ tm a) (dst : Option Tmp) (v : AV) : RepT φ (putA tm dst v) (a.put dst (v.conc φ)) := by
 cases dst with
 | none => exact h
 | some d =>
  have key : ∀ (t : Nat) (u : AV), (Yci tm d v)[t]? = some u -> (∃ x, tm[t]? = some x /\ x.isHeld = u.isHeld /\ (u = x \/ (t = d /\ x.isHeld = false /\ u = v.cut))) := fun t u hu => by
   by_cases e : t = d
   ·subst e;rw [Ypk, Option.map_eq_some_iff] at hu;obtain ⟨x, hx, e2⟩ := hu;refine ⟨x, hx, ?_⟩
    split at e2
    ·subst e2; exact ⟨rfl, .inl rfl⟩
    ·rename_i hh;subst e2;have hh' : x.isHeld = false := by simpa using hh
     exact ⟨by rw [hh', Yvk], .inr ⟨rfl, hh', rfl⟩⟩
   ·rw [Yj2 tm v e] at hu;exact ⟨u, hu, rfl, .inl rfl⟩
  refine ⟨fun t u hu hh => ?_, fun t u hu hh => ?_, fun t u hu hr => ?_, ?_, by show (a.tmps.setIfInBounds d (v.conc φ)).size <= (Yci tm d v).length; rw [Array.size_setIfInBounds, Yji]; exact h.len⟩
  ·obtain ⟨x, hx, e1, _⟩ := key t u hu;simp only [Act.put, Array.size_setIfInBounds];exact h.size t x hx (e1.trans hh)
  ·obtain ⟨x, hx, e1, _⟩ := key t u hu;simp only [Act.put, Array.size_setIfInBounds];exact h.held t x hx (e1.trans hh)
  ·replace hu : (Yci tm d v)[t]? = some u := hu
   simp only [Act.put, Array.getElem?_setIfInBounds]
   by_cases e : d = t
   ·subst e;rw [if_pos rfl];rw [Ypk, Option.map_eq_some_iff] at hu;obtain ⟨x, hx, e2⟩ := hu
    split at e2
    ·rename_i hh;subst e2;cases x <;> simp_all [AV.isHeld]
    ·rename_i hh;subst e2;rw [if_pos (h.size d x hx (by simpa using hh)), (Y4i hr).1]
   ·rw [if_neg e];rw [Yj2 tm v (Ne.symm e)] at hu;exact h.slot t u hu hr
  ·rw [show putA tm (some d) v = Yci tm d v from rfl, Yjp];exact h.df
theorem Yer {x : AV} : ∀ {tm : List AV}, x ∈ Ybr tm -> .held x ∈ tm
 | y :: ys, h => by
  rw [Ybh] at h;rcases List.mem_append.1 h with h | h
  ·cases y <;> simp_all
  ·exact List.mem_cons_of_mem _ (Yer h)
theorem Yuh {φ φ' : Phi} {ks : List Nat} {tm : List AV} (hag : Agree ks φ φ') (hn : ∀ i ∈ ks, AV.hasL i tm = false) : (Ybr tm).map (Yfb φ') = (Ybr tm).map (Yfb φ) := by
 refine List.map_congr_left fun x hx => ?_;unfold Yfb;rw [Yeu hag x fun i hi => by have := Yh7 (hn i hi) (Yer hx); simpa [AV.has] using this]
theorem RepT.agree {φ φ' : Phi} {ks : List Nat} {tm : List AV} {a : Act} (h : RepT φ tm a) (hag : Agree ks φ φ') (hn : ∀ i ∈ ks, AV.hasL i tm = false) : RepT φ' tm a :=
 ⟨h.size, h.held, fun t v hv hj => by rw [h.slot t v hv hj, Yeu hag v fun i hi => Yh7 (hn i hi) (List.mem_of_getElem? hv)], by rw [Yuh hag hn]; exact h.df, h.len⟩
theorem RepS.new_heap {φ0 φ φ' : Phi} {w0 : World} {M : List Nat} {R : RL} {tm : List AV} {hp hs us nw : Heap} {a : Act} {w w' : World} (h : RepS φ0 φ w0 M R tm hp a w) (hpart : PartOf hs hp) (hu : ∀ i ∈ keys us, i ∈ keys hs) (hB : NewFor (keys nw) tm hp /\ (keys nw).Nodup /\ ∀ i ∈ keys nw, i % 3 ≠ 1)
  (hag : Agree (keys nw) φ φ') (hS : St w0 M (Yb φ' (Yh hs us ++ nw) ++ (Yb φ (Yb3 hs hp) ++ R)) w') (dst : Option Tmp) (v : AV) : RepS φ0 φ' w0 M R (putA tm dst v) (Y9 (Yh hp us) nw) (a.put dst (v.conc φ')) w' := by
 have hB' := hB;obtain ⟨b1, b2, b3⟩ := hB;have hf : ∀ i ∈ keys nw, i ∉ keys hp := fun i hi hm => by
  obtain ⟨p, hp', e⟩ := List.mem_map.1 hm;exact (Yu (b1 i hi).2 hp').1 e
 obtain ⟨p1, n1⟩ := Yws hpart h.nd hu b2 hf;refine ⟨(h.tmps.agree hag fun i hi => (b1 i hi).1).put dst v, ?_, n1, fun x => ?_⟩
 ·have e : Yb φ (Yb3 hs hp) = Yb φ' (Yb3 hs hp) := (Ybw hag fun i hi => Yf6 fun p hp' => Yu (b1 i hi).2 (List.mem_filter.1 hp').1).symm;rw [e, <- List.append_assoc, <- Yo] at hS;exact hS.perm ((Ys p1.symm).append (List.Perm.refl _))
 ·rw [hag (3 * x + 1) fun hm => b3 _ hm (by omega)];exact h.base x
def Yz8 (dst : Option Tmp) (tm : List AV) (hp : Heap) (val : AV) (us nw : Heap) (K : List AV -> Heap -> Prop) : Prop :=
 Yc (Yrm nw tm hp) (Yfj hp us fun hp => Yfa hp nw fun hp => putK tm dst val fun tm => K tm hp)
theorem Ymn {dst : Option Tmp} {tm : List AV} {hp : Heap} {val : AV} {us nw : Heap} {K : List AV -> Heap -> Prop} (h : Yz8 dst tm hp val us nw K) : (NewFor (keys nw) tm hp /\ (keys nw).Nodup /\ ∀ i ∈ keys nw, i % 3 ≠ 1) /\ K (putA tm dst val) (Y9 (Yh hp us) nw) := by
 obtain ⟨h1, h2⟩ := Ya h;exact ⟨Yds h1, Yhr (Yc8.1 (Ydv.1 h2))⟩
theorem PartOf.nil (hp : Heap) : PartOf [] hp := ⟨by simp [keys], by simp⟩
theorem PartOf.one {hp : Heap} {i : Nat} {x : It} (h : look hp i = some x) : PartOf [(i, x)] hp := ⟨by simp [keys], by simpa using h⟩
theorem PartOf.two {hp : Heap} {i j : Nat} {x y : It} (h : look hp i = some x) (k : look hp j = some y) (hne : i ≠ j) : PartOf [(i, x), (j, y)] hp := ⟨by simp [keys, hne], by simp [h, k]⟩
end Go.Proofs.Ytilnbgpogfabaaa
namespace Go.Proofs.Ytilnbgpogfabaaa
open Go.RowKit
variable [InW]
attribute [local irreducible] Go.Oper.wp
section
variable {P : Program} {tm : List AV} {dst : Option Tmp} {type : TypeId} {pos : String} {after : Array Edge} {guard : Option (Nat × Bool)}
def Ysq (pan : Bool) (v : Value) : Ending := match pan with | true => .panicked [{ v, recovered := false }] | false => .returned v
def ACall (P : Program) (g : FuncId) (args : List AV) (hs : Heap) (pan : Bool) (val : AV) (us nw : Heap) : Prop :=
 ∀ (φ : Phi) (w0 : World) (M : List Nat) (R : RL) (w : World), NewFor (keys nw) args hs -> St w0 M (Yb φ hs ++ R) w ->
  Calls P g (AV.concL φ args).toArray w fun e w' => ∃ φ', Agree (keys nw) φ φ' /\ e = Ysq pan (val.conc φ') /\ St w0 M (Yb φ' (Yh hs us ++ nw) ++ R) w'
def DoesP (P : Program) (o : Oper) (tm : List AV) (hs : Heap) (val : AV) (us nw : Heap) : Prop :=
 ∀ (φ : Phi) (w0 : World) (M : List Nat) (R : RL) (a : Act) (w : World) (K : Act -> World -> Prop) (Q : Exit -> Act -> World -> Prop),
  OpsAt φ tm a o.op -> NewFor (keys nw) tm hs -> St w0 M (Yb φ hs ++ R) w ->
  (∀ φ' w', Agree (keys nw) φ φ' -> St w0 M (Yb φ' (Yh hs us ++ nw) ++ R) w' -> Q (.panic [{ v := val.conc φ', recovered := false }]) a w') -> o.wp P a w K Q
def Yfc (P : Program) (g : FuncId) : Bool := match P.funcs[g]? with | some fn => !(fn.name == "runtime.NumGoroutine") && fn.body.isSome | none => false
theorem Yfq {g : FuncId} (h : Yfc P g = true) (args : Array Value) (w : World) : (callFunc g args).run P w = .ok (.enter g args) w := by
 unfold Yfc at h;cases hf : P.funcs[g]? with
 | none => simp [hf] at h
 | some fn =>
  simp only [hf, Bool.and_eq_true, Bool.not_eq_true'] at h;have h1 : ¬ fn.name = "runtime.NumGoroutine" := by simpa using h.1
  have h2 : ¬ fn.body = none := by
   have := h.2;intro e;rw [e] at this;cases this
  simp [callFunc, Sem.run_bind, run_program, hf, h1, h2]
theorem Ats.eval {φ : Phi} {a : Act} : ∀ {xs : List Operand} {vs : List AV}, Ats tm xs vs -> (∀ x ∈ xs, ∀ v, At tm x v -> v.rd = true -> a.eval x = v.conc φ) -> xs.map a.eval = AV.concL φ vs := by
 intro xs vs h
 induction h with
 | nil => intro _; rfl
 | cons hj h t ih =>
  intro ho;simp only [List.map_cons, AV.concL, ho _ List.mem_cons_self _ h hj, ih fun x hx => ho x (List.mem_cons_of_mem _ hx)]
theorem Yr9 {f : Operand} {args : Array Operand} {tys : Array TypeId} {a : Act} {w : World} {g : FuncId} {F C : Array Value} (hok : Yfc P g = true) (hf : a.eval f = .func (.func g) F C) :
  (execOp a.eval { dst, op := .call { callee := .value f, args, argTypes := tys }, type, pos, after, guard }).run P w = .ok (.enter g (F ++ args.map a.eval ++ C)) w := by
 simp only [execOp, resolve, hf, Deferred.ofValue, Sem.run_bind, Sem.run_pure, Result.andThen_ok, invoke, Yfq hok]
def funK (x : AV) (K : FuncId -> List AV -> List AV -> Prop) : Prop :=
 match x with
 | .fn (.func g) a b => K g a b
 | .v (.func (.func g) A B) => Ypq A.toList fun a => Ypq B.toList fun b => K g a b
 | _ => Stuck 14
theorem Yl4 {x : AV} {K : FuncId -> List AV -> List AV -> Prop} (h : funK x K) : ∃ g a b, K g a b /\ (∀ φ, x.conc φ = .func (.func g) (AV.concL φ a).toArray (AV.concL φ b).toArray) /\ ∀ i, x.has i = false -> AV.hasL i a = false /\ AV.hasL i b = false := by
 unfold funK at h
 split at h
 ·exact ⟨_, _, _, h, fun φ => rfl, fun i hi => by simpa [AV.has] using hi⟩
 ·refine ⟨_, _, _, Ydy.1 (Ydy.1 h), fun φ => by simp [AV.conc, Yx, Function.comp_def], fun i _ => by simp [Yp, AV.has]⟩
 ·exact h.elim
theorem Y40 {f : Operand} {args : List Operand} {tys : Array TypeId} {fv : AV} {g : FuncId} {fs cs vs : List AV} {hs : Heap} {val : AV} {us nw : Heap} (hok : Yfc P g = true) (hf : At tm f fv) (hj : fv.rd = true) (hfv : ∀ φ, fv.conc φ = .func (.func g) (AV.concL φ fs).toArray (AV.concL φ cs).toArray)
  (hfh : ∀ i, fv.has i = false -> AV.hasL i fs = false /\ AV.hasL i cs = false) (ha : Ats tm args vs) (hc : ACall P g (fs ++ vs ++ cs) hs false val us nw) :
  Does P { dst, op := .call { callee := .value f, args := args.toArray, argTypes := tys }, type, pos, after, guard } tm hs val us nw :=
 fun φ w0 M R a w K Q ho hn hS kk => by
  have e1 := ho f (by simp [Op.operands, Call.operands]) fv hf hj;have e2 := ha.eval (φ := φ) (a := a) fun x hx v hv hj => ho x (by simp [Op.operands, Call.operands, hx]) v hv hj;rw [hfv φ] at e1;unfold Oper.wp;rw [Yr9 hok e1];have e3 : (AV.concL φ fs).toArray ++ args.toArray.map a.eval ++ (AV.concL φ cs).toArray = (AV.concL φ (fs ++ vs ++ cs)).toArray := by
   rw [Yby, Yby, <- e2]; simp
  rw [e3];refine (hc φ w0 M R w (fun i hi => ⟨?_, (hn i hi).2⟩) hS).mono fun e w' ⟨φ', hag, he, hS'⟩ => ?_
  ·have h1 := hfh i (hf.new (hn i hi).1);rw [Yp, List.any_append, List.any_append, <- Yp, <- Yp, <- Yp, h1.1, h1.2, ha.new (hn i hi).1];rfl
  ·subst he;exact kk φ' w' hag hS'
theorem Y30 {f : Operand} {args : List Operand} {tys : Array TypeId} {fv : AV} {g : FuncId} {fs cs vs : List AV} {hs : Heap} {val : AV} {us nw : Heap} (hok : Yfc P g = true) (hf : At tm f fv) (hj : fv.rd = true) (hfv : ∀ φ, fv.conc φ = .func (.func g) (AV.concL φ fs).toArray (AV.concL φ cs).toArray)
  (hfh : ∀ i, fv.has i = false -> AV.hasL i fs = false /\ AV.hasL i cs = false) (ha : Ats tm args vs) (hc : ACall P g (fs ++ vs ++ cs) hs true val us nw) :
  DoesP P { dst, op := .call { callee := .value f, args := args.toArray, argTypes := tys }, type, pos, after, guard } tm hs val us nw :=
 fun φ w0 M R a w K Q ho hn hS kk => by
  have e1 := ho f (by simp [Op.operands, Call.operands]) fv hf hj;have e2 := ha.eval (φ := φ) (a := a) fun x hx v hv hj => ho x (by simp [Op.operands, Call.operands, hx]) v hv hj;rw [hfv φ] at e1;unfold Oper.wp;rw [Yr9 hok e1];have e3 : (AV.concL φ fs).toArray ++ args.toArray.map a.eval ++ (AV.concL φ cs).toArray = (AV.concL φ (fs ++ vs ++ cs)).toArray := by
   rw [Yby, Yby, <- e2]; simp
  rw [e3];refine (hc φ w0 M R w (fun i hi => ⟨?_, (hn i hi).2⟩) hS).mono fun e w' ⟨φ', hag, he, hS'⟩ => ?_
  ·have h1 := hfh i (hf.new (hn i hi).1);rw [Yp, List.any_append, List.any_append, <- Yp, <- Yp, <- Yp, h1.1, h1.2, ha.new (hn i hi).1];rfl
  ·subst he;exact kk φ' w' hag hS'
theorem Ywz {fn : Fn} {first caught : List Operand} {fs cs : List AV} (hf : Ats tm first fs) (hc : Ats tm caught cs) : Does P { dst, op := .makeFunc fn first.toArray caught.toArray, type, pos, after, guard } tm [] (.fn fn fs cs) [] [] :=
 Does.pure fun φ a ho w => by
  have e1 := hf.eval (φ := φ) (a := a) fun x hx v hv hj => ho x (by simp [Op.operands, hx]) v hv hj;have e2 := hc.eval (φ := φ) (a := a) fun x hx v hv hj => ho x (by simp [Op.operands, hx]) v hv hj;have e1' : first.toArray.map a.eval = (AV.concL φ fs).toArray := by rw [<- e1]; simp
  have e2' : caught.toArray.map a.eval = (AV.concL φ cs).toArray := by rw [<- e2]; simp
  simp only [execOp, Instr.makeFunc, e1', e2', Sem.run_bind, Sem.run_pure, Result.andThen_ok, AV.conc]
def Y28 (P : Program) : Sem Next -> (Value -> Prop) -> Prop
 | .pure n, K => match n with | .value v => K v | _ => Stuck 15
 | .program k, K => Y28 P (k P) K
 | _, _ => Stuck 16
theorem Yn2 {K : Value -> Prop} : ∀ {s : Sem Next}, Y28 P s K -> ∃ v, K v /\ ∀ w, s.run P w = .ok (.value v) w
 | .pure n, h => by
  cases n <;> first | exact Stuck.elim h | exact ⟨_, h, fun w => rfl⟩
 | .program k, h => by
  obtain ⟨v, h1, h2⟩ := Yn2 (s := k P) h;exact ⟨v, h1, fun w => h2 w⟩
 | .load .., h => h.elim
 | .store .., h => h.elim
 | .new .., h => h.elim
 | .shape .., h => h.elim
 | .freeze .., h => h.elim
 | .frozen .., h => h.elim
 | .getObj .., h => h.elim
 | .setObj .., h => h.elim
 | .choose .., h => h.elim
 | .sys .., h => h.elim
 | .mark .., h => h.elim
 | .halt .., h => h.elim
def nthV : List AV -> Nat -> Option Value
 | [], _ => none
 | x :: _, 0 => match x with | .v y => some y | .fn f a b => (match a, b with | [], [] => some (.func f #[] #[]) | _, _ => none) | _ => none
 | _ :: xs, n + 1 => nthV xs n
def Yra (tm : List AV) : Operand -> Option Value
 | .tmp t => nthV tm t
 | .const v => some v
 | .global _ => none
 | .func f => some (.func (.func f) #[] #[])
def Yj3 (tm : List AV) : List Operand -> Bool
 | [] => true
 | x :: xs => match Yra tm x with | some _ => Yj3 tm xs | none => false
def rho (tm : List AV) (x : Operand) : Value := match Yra tm x with | some v => v | none => undef
theorem Yri : ∀ {tm : List AV} {t : Nat} {v : Value}, nthV tm t = some v -> ∃ x : AV, tm[t]? = some x /\ x.rd = true /\ ∀ φ, x.conc φ = v
 | [], t, v, h => by simp [nthV] at h
 | x :: xs, 0, v, h => by
  refine ⟨x, rfl, ?_⟩;cases x <;> simp only [nthV, reduceCtorEq, Option.some.injEq] at h
  case v y => subst h; exact ⟨by simp, fun φ => rfl⟩
  case fn f a b =>
   cases a <;> cases b <;> simp only [reduceCtorEq, Option.some.injEq] at h;subst h;exact ⟨by simp, fun φ => rfl⟩
 | x :: xs, n + 1, v, h => by simpa using Yri (tm := xs) h
theorem Yhs {φ : Phi} {a : Act} {op : Op} (ho : OpsAt φ tm a op) : ∀ {xs : List Operand}, Yj3 tm xs = true -> (∀ x ∈ xs, x ∈ op.operands) -> ∀ x ∈ xs, a.eval x = rho tm x
 | [], _, _, x, hx => by cases hx
 | y :: ys, h, hm, x, hx => by
  unfold Yj3 at h
  split at h
  ·rename_i v hv;rcases List.mem_cons.1 hx with rfl | hx
   ·unfold rho;rw [hv];cases x with
    | tmp t =>
     obtain ⟨u, h1, h2, h3⟩ := Yri hv;rw [ho _ (hm _ List.mem_cons_self) u h1 h2, h3]
    | const c => simp only [Yra, Option.some.injEq] at hv; subst hv; rfl
    | global g => simp [Yra] at hv
    | func f => simp only [Yra, Option.some.injEq] at hv; subst hv; rfl
   ·exact Yhs ho h (fun x hx => hm x (List.mem_cons_of_mem _ hx)) x hx
  ·cases h
def Yrk : Op -> Bool
 | .select _ _ => false
 | _ => true
def Y2o (v : Value) (K : Value -> Prop) : Prop :=
 match v with
 | .int k n => Y2p n fun n => K (.int k n)
 | .bool b => (match b with | true => K (.bool true) | false => K (.bool false))
 | v => K v
theorem Ywu {v : Value} {K : Value -> Prop} : Y2o v K ↔ K v := by
 cases v <;> try exact Iff.rfl
 case bool b => cases b <;> exact Iff.rfl
 case int k n => exact Ywv (K := fun n => K (.int k n))
def Y4j (P : Program) (o : Oper) (tm : List AV) (K : AV -> Prop) : Prop :=
 Yc (Yj3 tm o.op.operands.toList && Yrk o.op) (Y28 P (execOp (rho tm) o) fun v => Y2o v fun v => K (.v v))
theorem Ywf {o : Oper} {K : AV -> Prop} (h : Y4j P o tm K) : ∃ val, K val /\ Does P o tm [] val [] [] := by
 obtain ⟨h1, h2⟩ := Ya h;rw [Bool.and_eq_true] at h1;obtain ⟨v, h3, h4⟩ := Yn2 h2;refine ⟨.v v, Ywu.1 h3, Does.pure fun φ a ho w => ?_⟩;rw [execOp_congr (ρ' := rho tm) o (fun cs b e => by have := h1.2; rw [e] at this; simp [Yrk] at this) fun x hx => Yhs ho h1.1 (fun x hx => by simpa using hx) x (by simpa using hx)];exact h4 w
end
end Go.Proofs.Ytilnbgpogfabaaa
namespace Go.Proofs.Ytilnbgpogfabaaa
open Go.RowKit
variable [InW]
attribute [local irreducible] Go.Oper.wp
section
variable {P : Program} {tm : List AV} {dst : Option Tmp} {type : TypeId} {pos : String} {after : Array Edge} {guard : Option (Nat × Bool)} {w : World}
theorem Yq4 {T : TypeId} {zs : Array Value} (h : Yhh P T = some zs) : ∃ z, (zeroValue T).run P w = .ok z w /\ z.cells = zs := by
 unfold Yhh at h;cases hi : P.info? T with
 | none => simp [hi] at h
 | some i =>
  simp only [hi, Option.bind_some, Option.map_eq_some_iff] at h;obtain ⟨z, hz, rfl⟩ := h;exact ⟨z, by simp [zeroValue, typeInfo, hi, hz], rfl⟩
theorem Yk5 (fs : List Field) : ∀ (places : List (Nat × Nat)), fs.map (fun f => (P.info? f.type).map fun j => (f.offset, j.size)) = places.map some -> ((fs.mapM fun f => do pure (f.offset, <- sizeOf f.type) : Sem (List (Nat × Nat)))).run P w = .ok places w := by
 induction fs with
 | nil =>
  intro places h;cases places with
  | nil => rfl
  | cons _ _ => simp at h
 | cons f fs ih =>
  intro places h;cases places with
  | nil => simp at h
  | cons p ps =>
   simp only [List.map_cons, List.cons.injEq, Option.map_eq_some_iff] at h;obtain ⟨⟨j, hj, hp⟩, h2⟩ := h;have h3 : (sizeOf f.type).run P w = .ok j.size w := Y8 (by simp [Yce, hj]) w;simp only [List.mapM_cons, Sem.run_bind, h3, Result.andThen_ok, Sem.run_pure, ih ps h2, hp]
theorem Yjw {T : TypeId} {fs : Array Field} {places : List (Nat × Nat)} {zs cells : Array Value} {parts : Array (Nat × Value)} (hu : P.underlying T = some (.struct fs)) (hz : Yhh P T = some zs) (hp : fs.toList.map (fun f => (P.info? f.type).map fun j => (f.offset, j.size)) = places.map some)
  (hf : Instr.fill (places[·]?) zs parts.toList = some cells) : (Instr.build T parts).run P w = .ok (.agg cells) w := by
 obtain ⟨z, h1, h2⟩ := Yq4 (w := w) hz;have h3 := Yk5 (w := w) fs.toList places hp;have h4 : (fs.mapM fun f => do pure (f.offset, <- sizeOf f.type) : Sem (Array (Nat × Nat))).run P w = .ok places.toArray w := by
  rw [Array.mapM_eq_mapM_toList, map_eq_pure_bind, Sem.run_bind, h3];rfl
 have h5 : (fun i : Nat => places.toArray[i]?) = (fun i : Nat => places[i]?) := by funext i; simp
 simp only [Instr.build, Sem.run_bind, h1, run_underlying hu w, Result.andThen_ok, h4, h2, h5, hf, Sem.run_pure]
theorem Yk6 {T e n sz : Nat} {zs cells : Array Value} {parts : Array (Nat × Value)} (hu : P.underlying T = some (.array n e)) (hz : Yhh P T = some zs) (hs : Yce P e sz)
  (hf : Instr.fill (fun i => some (i * sz, sz)) zs parts.toList = some cells) : (Instr.build T parts).run P w = .ok (.agg cells) w := by
 obtain ⟨z, h1, h2⟩ := Yq4 (w := w) hz;simp only [Instr.build, Sem.run_bind, h1, run_underlying hu w, Result.andThen_ok, Y8 hs, h2, hf, Sem.run_pure]
def lenB {α : Type} : List α -> Nat -> Bool
 | [], n => Nat.beq 0 n
 | _ :: xs, n => match n with | 0 => false | n + 1 => lenB xs n
theorem Ybb {α : Type} : ∀ {l : List α} {n : Nat}, lenB l n = true -> l.length = n
 | [], n, h => by simpa [eq_comm] using Yd.1 h
 | x :: xs, 0, h => by simp [lenB] at h
 | x :: xs, n + 1, h => by simp [Ybb (l := xs) h]
def Yua (tm : List AV) (pl : Nat -> Option (Nat × Nat)) : List (Nat × Operand) -> List AV -> (List AV -> Prop) -> Prop
 | [], acc, K => K acc
 | p :: ps, acc, K => match pl p.1 with
  | none => Stuck 17
  | some q => evK tm p.2 fun v => Yjr v fun cs => Yc (lenB cs q.2) (Yq9 acc q.1 cs fun acc => Yua tm pl ps acc K)
theorem Yi7 {pl : Nat -> Option (Nat × Nat)} : ∀ {ps : List (Nat × Operand)} {acc : List AV} {K : List AV -> Prop}, Yua tm pl ps acc K ->
  ∃ res, K res /\ ∀ (φ : Phi) (a : Act), (∀ p ∈ ps, ∀ v, At tm p.2 v -> v.rd = true -> a.eval p.2 = v.conc φ) -> Instr.fill pl (AV.concL φ acc).toArray (ps.map fun p => (p.1, a.eval p.2)) = some (AV.concL φ res).toArray
 | [], acc, K, h => ⟨acc, h, fun φ a _ => rfl⟩
 | p :: ps, acc, K, h => by
  unfold Yua at h;cases hq : pl p.1 with
  | none => rw [hq] at h; exact h.elim
  | some q =>
   obtain ⟨off, n⟩ := q;rw [hq] at h;obtain ⟨v, hj, hv, h1⟩ := Yf h;obtain ⟨cs, h2, hc, _⟩ := Yd4 h1;obtain ⟨hl, h3⟩ := Ya h2;obtain ⟨hk, h4⟩ := Yen h3;obtain ⟨res, h5, h6⟩ := Yi7 h4;refine ⟨res, h5, fun φ a ho => ?_⟩;have hn := Ybb hl;dsimp only at hn hk h6;have e1 := ho p List.mem_cons_self v hv hj;have hsz : (a.eval p.2).cells.size = n := by rw [e1, hc φ]; simp [Yg, hn]
   have htl : (a.eval p.2).cells.toList = AV.concL φ cs := by rw [e1, hc φ]
   simp only [List.map_cons, Instr.fill, hq];rw [if_neg (by rw [hsz]; simp only [List.size_toArray, Yg]; simp; omega)];have e : (a.eval p.2).cells.zipIdx.foldl (fun cs x => cs.setIfInBounds (off + x.2) x.1) (AV.concL φ acc).toArray = (AV.concL φ (acc.take off ++ cs ++ acc.drop (off + cs.length))).toArray := by
    have := Yh9 (a.eval p.2).cells.toList (AV.concL φ acc).toArray off 0;rw [Nat.add_zero] at this;rw [<- Array.foldl_toList, Array.toList_zipIdx, this];apply Array.ext';rw [Ycf _ _ _ (by rw [htl]; simp [Yg]; omega), htl, Yhq]
   rw [e];exact h6 φ a fun p hp => ho p (List.mem_cons_of_mem _ hp)
theorem Y10 {T : TypeId} {fs : Array Field} {places : List (Nat × Nat)} {zs res : List AV} {parts : List (Nat × Operand)} (hu : P.underlying T = some (.struct fs)) (hz : (mkTI P T).zero = some zs) (hp : fs.toList.map (fun f => (P.info? f.type).map fun j => (f.offset, j.size)) = places.map some)
  (hf : ∀ (φ : Phi) (a : Act), (∀ p ∈ parts, ∀ v, At tm p.2 v -> v.rd = true -> a.eval p.2 = v.conc φ) -> Instr.fill (places[·]?) (AV.concL φ zs).toArray (parts.map fun p => (p.1, a.eval p.2)) = some (AV.concL φ res).toArray) :
  Does P { dst, op := .build T parts.toArray, type, pos, after, guard } tm [] (.agg res) [] [] :=
 Does.pure fun φ a ho w => by
  have h1 := hf φ a fun p hp v hv hj => ho p.2 (by simp only [Op.operands, List.mem_toArray, List.mem_map]; exact ⟨p, by simpa using hp, rfl⟩) v hv hj;have h2 : (Instr.build T (parts.toArray.map fun p => (p.1, a.eval p.2))).run P w = .ok (.agg (AV.concL φ res).toArray) w := Yjw hu (Yhz hz φ).1 hp (by simpa using h1);simp only [execOp, Sem.run_bind, Result.andThen_ok, Sem.run_pure, AV.conc, h2]
theorem Y11 {T n sz : Nat} {b : Bool} {zs res : List AV} {parts : List (Nat × Operand)} (ha : (mkTI P T).arr = some (n, sz, b)) (hz : (mkTI P T).zero = some zs)
  (hf : ∀ (φ : Phi) (a : Act), (∀ p ∈ parts, ∀ v, At tm p.2 v -> v.rd = true -> a.eval p.2 = v.conc φ) -> Instr.fill (fun i => some (i * sz, sz)) (AV.concL φ zs).toArray (parts.map fun p => (p.1, a.eval p.2)) = some (AV.concL φ res).toArray) :
  Does P { dst, op := .build T parts.toArray, type, pos, after, guard } tm [] (.agg res) [] [] :=
 Does.pure fun φ a ho w => by
  obtain ⟨e, hu, hs, _⟩ := Ye4 ha;have h1 := hf φ a fun p hp v hv hj => ho p.2 (by simp only [Op.operands, List.mem_toArray, List.mem_map]; exact ⟨p, by simpa using hp, rfl⟩) v hv hj;have h2 : (Instr.build T (parts.toArray.map fun p => (p.1, a.eval p.2))).run P w = .ok (.agg (AV.concL φ res).toArray) w := Yk6 hu (Yhz hz φ).1 hs (by simpa using h1);simp only [execOp, Sem.run_bind, Result.andThen_ok, Sem.run_pure, AV.conc, h2]
theorem Yvj {T n sz : Nat} {b : Bool} {x ix : Operand} {cs : List AV} {kd : IntKind} {i : Int} {val : AV} (ha : (mkTI P T).arr = some (n, sz, b)) (hx : At tm x (.agg cs)) (hi : At tm ix (.v (.int kd i))) (h0 : 0 <= i) (h1 : i < (n : Int))
  (hv : ∀ φ, (b = false /\ (AV.concL φ cs)[i.toNat * sz]? = some (val.conc φ)) \/ (b = true /\ val.conc φ = .agg ((AV.concL φ cs).toArray.extract (i.toNat * sz) (i.toNat * sz + sz)))) :
  Does P { dst, op := .index T x ix, type, pos, after, guard } tm [] val [] [] :=
 Does.pure fun φ a ho w => by
  obtain ⟨e, hu, hs, hb⟩ := Ye4 ha;have e1 := ho x (by simp [Op.operands]) _ hx (by simp);have e2 := ho ix (by simp [Op.operands]) _ hi (by simp);simp only [AV.conc] at e1 e2;rcases hv φ with ⟨rfl, hv'⟩ | ⟨rfl, hv'⟩
  ·have h2 : (AV.concL φ cs).toArray[i.toNat * sz]? = some (val.conc φ) := by simpa using hv'
   simp only [execOp, Instr.index, e1, e2, asIntOf, Sem.run_bind, Sem.run_pure, Result.andThen_ok, run_underlying hu w, h0, h1, and_self, if_true, Y8 hs, part, Ycr hb, Bool.false_eq_true, if_false, h2]
  ·simp only [execOp, Instr.index, e1, e2, asIntOf, Sem.run_bind, Sem.run_pure, Result.andThen_ok, run_underlying hu w, h0, h1, and_self, if_true, Y8 hs, part, Ycr hb, hv', if_true]
end
end Go.Proofs.Ytilnbgpogfabaaa
namespace Go.Proofs.Ytilnbgpogfabaaa
open Go.RowKit
variable [InW]
attribute [local irreducible] Go.Oper.wp
inductive AX where
 | norm
 | exit (i : Nat)
 | ret
 | pan (v : AV)
def AX.is (φ : Phi) : AX -> Exit -> Prop
 | .norm, e => e = .normal
 | .exit i, e => e = .exit i
 | .ret, e => e = .ret
 | .pan v, e => e = .panic [{ v := v.conc φ, recovered := false }]
abbrev KX := AX -> List AV -> Heap -> Prop
def Yf0 : Code -> Nat
 | .region id _ _ => id + 1
 | .seq a b => match Yf0 a with | 0 => Yf0 b | n + 1 => n + 1
 | .cond _ a b => match Yf0 a with | 0 => Yf0 b | n + 1 => n + 1
 | .block _ a => Yf0 a
 | .loop a => Yf0 a
 | .scope a => Yf0 a
 | _ => 0
abbrev KE := AV -> Heap -> Heap -> Heap -> Prop
structure Cx where
 P : Program
 tt : Tr TI
 sy : Bool
 callH : FuncId -> List AV -> Heap -> Nat -> KE -> KE -> Prop
 symH : Oper -> List AV -> Heap -> KE -> Prop
 roundH : LI -> Nat -> List AV -> Heap -> Nat -> KE -> Prop := fun _ _ _ _ _ _ => False
 fn : FuncId := 0
 loopsOf : FuncId -> Nat -> Option (List AV -> Heap -> KX -> Prop) := fun _ _ => none
def Yb2 (c : Cx) (o : Oper) (tm : List AV) (hp : Heap) (k : KE) : Prop := match c.sy with | true => c.symH o tm hp k | false => Y4j c.P o tm fun v => k v [] [] []
def fN (sy : Bool) (n : Nat) (K : Nat -> Prop) : Prop := match sy with | true => K n | false => Y5 n K
theorem Yib {sy : Bool} {n : Nat} {K : Nat -> Prop} : fN sy n K ↔ K n := by cases sy <;> first | exact Iff.rfl | exact Yj
def Yps (tt : Tr TI) (T : TypeId) (cs : List AV) (k : Nat) (K : AV -> Prop) : Prop :=
 tiK tt T fun ti => match ti.agg with
  | some false => getK cs k K
  | some true => (match ti.size with | some n => Yjx cs k fun r => Yjt r n fun vs => K (.agg vs) | none => Stuck 18)
  | none => Stuck 19
def Yyw (tt : Tr TI) (T : TypeId) (it : It) (k : Nat) (K : AV -> Prop) : Prop :=
 match it with
 | .blk _ cs => Yps tt T cs k K
 | .row _ _ _ cs => Yps tt T cs k K
 | _ => Stuck 20
def Yxk (tt : Tr TI) (T : TypeId) (it : It) (k : Nat) (vs : List AV) (K : It -> Prop) : Prop :=
 tiK tt T fun ti => match ti.size with
  | none => Stuck 21
  | some n => Yc (lenB vs n && Yg3 vs && Nat.ble 1 n) (match it with
   | .blk T' cs => Yq9 cs k vs fun cs => K (.blk T' cs)
   | .row T' sz m cs => Yq9 cs k vs fun cs => K (.row T' sz m cs)
   | _ => Stuck 22)
def Yuy (tm : List AV) (sz : Nat) : Nat -> List (Nat × Operand) -> (List AV -> Prop) -> Prop
 | _, [], K => K []
 | k, p :: ps, K => Yc (Nat.beq p.1 k) (evK tm p.2 fun v => Yjr v fun cs => Yc (lenB cs sz) (Yuy tm sz (k + 1) ps fun ds => appK cs ds K))
theorem Ylg {tm : List AV} {sz : Nat} : ∀ {ps : List (Nat × Operand)} {k : Nat} {K : List AV -> Prop}, Yuy tm sz k ps K -> ∃ vs cs, Parts tm sz k ps vs cs /\ K cs
 | [], k, K, h => ⟨[], [], .nil, h⟩
 | (i, x) :: ps, k, K, h => by
  obtain ⟨h1, h2⟩ := Ya h;obtain ⟨v, hj, hx, h3⟩ := Yf h2;obtain ⟨cs, h4, hc, hh⟩ := Yd4 h3;obtain ⟨h5, h6⟩ := Ya h4;obtain ⟨vs, ds, h7, h8⟩ := Ylg h6;have e : i = k := Yd.1 h1;subst e;exact ⟨v :: vs, cs ++ ds, .cons hx hj hc (Ybb h5) hh h7, Ydo.1 h8⟩
theorem Yu6 {α : Type} [Inhabited α] (zs : List α) : ∀ n : Nat, (List.range (n * zs.length)).map (fun i => zs.toArray[i % zs.length]!) = (List.replicate n zs).flatten
 | 0 => by simp
 | n + 1 => by
  rw [List.replicate_succ', List.flatten_append, <- Yu6 zs n, Nat.succ_mul, List.range_add, List.map_append]
  congr 1
  simp only [List.flatten_cons, List.flatten_nil, List.append_nil, List.map_map];apply List.ext_getElem
  ·simp
  ·intro i h1 h2;simp only [List.length_map, List.length_range] at h1;simp [Nat.add_mod, Nat.mod_eq_of_lt h1];rw [List.getElem?_eq_getElem h1];rfl
def Y0k (sy : Bool) (j : Int) (n off sz : Nat) (K : Nat -> Prop) : Prop := Yc (decide (0 <= j) && decide (j < (n : Int))) (fN sy (off + j.toNat * sz) K)
theorem Ynd {sy : Bool} {j : Int} {n off sz : Nat} {K : Nat -> Prop} (h : Y0k sy j n off sz K) : 0 <= j /\ j < (n : Int) /\ K (off + j.toNat * sz) := by
 obtain ⟨h1, h2⟩ := Ya h;simp only [Bool.and_eq_true, decide_eq_true_eq] at h1;exact ⟨h1.1, h1.2, Yib.1 h2⟩
def Yls : It -> Bool
 | .row _ _ n _ => Nat.ble 1 n
 | .rowV _ _ n _ => Nat.ble 1 n
 | _ => false
theorem Ybt {it : It} (h : Yls it = true) (φ : Phi) (id : Nat) (w0 : World) (M : List Nat) (R : RL) (w : World) (hS : St w0 M (it.conc φ id :: R) w) : (φ id).nil = false := by
 cases it <;> simp only [Yls, Nat.ble_eq, Bool.false_eq_true] at h
 ·exact Ynx h hS
 ·exact Ytk h hS
def Yyi (it : It) (off m sz : Nat) (K : List AV -> Prop) : Prop :=
 match it with
 | .row _ _ n cs => Yc (Nat.ble 1 n) (Yjx cs off fun r => Yjt r (m * sz) K)
 | _ => Stuck 23
def Yyf : AV -> Bool
 | .v (.slice _ n _) => Nat.beq n 0
 | .sl _ _ _ n => Nat.beq n 0
 | .emp _ => true
 | _ => false
def lendB (zs : List AV) (n : Nat) : Bool := match zs with | [.v (.int _ _)] => Nat.ble n 8 | _ => false
def Yy5 (c : Cx) (hp : Heap) (id : Nat) (it : It) (off n sz : Nat) (j : Int) (k : KE) : Prop := Stuck 99
def Yuk (c : Cx) (T : TypeId) (id : Nat) (s x : AV) (hp : Heap) (k : KE) : Prop :=
 tiK c.tt T fun ti => match ti.slice with
  | none => Stuck 24
  | some q => match q with
   | (e, sz, by_, zs) => Yc (lenB zs sz && Nat.ble 1 sz) (match Yyf x with
    | true => (match s with
     | .v (.slice A n c) => Yc (Nat.ble n c) (k (.v (.slice A n c)) [] [] [])
     | .sl i off lo n => Y0 hp i fun it => (match it with
      | .row e' sz' n' cs => Yc (Nat.ble (lo + n) n') (k (.sl i off lo n) [(i, .row e' sz' n' cs)] [] [])
      | _ => Stuck 25)
     | _ => Stuck 26)
    | false => (match s, x with
     | .v (.slice none 0 0), .sl j off2 lo2 m => Y0 hp j fun it2 => Yc (Nat.ble (m * by_) 140737488355328 && Nat.ble m 4611686018427387904)
       (Yyi it2 off2 m sz fun news => Yc (Yg3 news && lenB news (m * sz)) (k (.sl id 0 0 m) [(j, it2)] [] [(id, .row e sz m news)]))
     | .sl i off lo n, .sl j off2 lo2 m => Y0 hp i fun it => Y0 hp j fun it2 => (match it with
      | .row e' sz' n' cs => Yc (Nat.beq e' e && Nat.beq sz' sz && Nat.beq n' n && Nat.beq off 0 && Nat.beq lo 0 && !(Nat.beq i j) && Nat.ble ((n + m) * by_) 140737488355328 && Nat.ble (n + m) 4611686018427387904)
        (Yyi it2 off2 m sz fun news => Yc (Yg3 news && lenB news (m * sz)) (appK cs news fun cs' => (match lendB zs n with | true => fN c.sy (n + m) fun nm => k (.sl id 0 0 nm) [(i, .row e' sz' n' cs), (j, it2)] [(i, .bkv e sz n cs id)] [(id, .row e sz nm cs')] | false => fN c.sy (n + m) fun nm => k (.sl id 0 0 nm) [(i, .row e' sz' n' cs), (j, it2)] [(i, .dead)] [(id, .row e sz nm cs')])))
      | _ => Stuck 25)
     | _, _ => Stuck 26))
def Yz6 (tm : List AV) (x : Option Operand) (dflt : Nat) (K : Nat -> Prop) : Prop :=
 match x with
 | none => K dflt
 | some x => evK tm x fun v => match v with | .v (.int _ (.ofNat n)) => K n | _ => Stuck 57
def Yxo (c : Cx) (T : TypeId) (id' : Nat) (tm : List AV) (i off lo n : Nat) (lop hip mxp : Option Operand) (hp : Heap) (k : KE) : Prop :=
 Y0 hp i fun it => match it with
  | .row e' sz' N cs => tiK c.tt T fun ti => (match ti.slice with
   | none => Stuck 58
   | some (e, sz, by_, zs) => (match mxp with
    | none => Yz6 tm lop 0 fun l => Yz6 tm hip n fun h => Yc (Nat.ble h n && Nat.ble l h && Nat.ble (lo + n) N) (match l with
     | 0 => k (.sl i off lo h) [(i, .row e' sz' N cs)] [] []
     | l + 1 => (match Nat.beq (l + 1) h with
      | true => k (.emp id') [(i, .row e' sz' N cs)] [] [(id', .dead)]
      | false => fN c.sy (off + (l + 1) * sz) fun a => fN c.sy (lo + (l + 1)) fun b => fN c.sy (h - (l + 1)) fun d => k (.sl i a b d) [(i, .row e' sz' N cs)] [] []))
    | some m => Stuck 59))
  | _ => Stuck 61
def vcOp (c : Cx) (o : Oper) (tm : List AV) (hp : Heap) (k kp : KE) : Prop :=
 match o.op with
 | .move x => evK tm x fun v => k v [] [] []
 | .assign x => evK tm x fun v => k v [] [] []
 | .pick b x y => evK tm b fun b => (match b with
  | .v (.bool b) => vcIf b (evK tm x fun v => k v [] [] []) (evK tm y fun v => k v [] [] [])
  | _ => Stuck 27)
 | .alloc T => tiK c.tt T fun ti => (match ti.zero with
  | some zs => k (.ptr (3 * o.dst.getD 0) 0) [] [] [(3 * o.dst.getD 0, .blk T zs)]
  | none => Stuck 28)
 | .box T x => evK tm x fun v => Yjr v fun cs => k (.ptr (3 * o.dst.getD 0) 0) [] [] [(3 * o.dst.getD 0, .blk T cs)]
 | .load T x => evK tm x fun p => (match p with
  | .ptr i j => Y0 hp i fun it => Yyw c.tt T it j fun v => k v [(i, it)] [] []
  | _ => Yb2 c o tm hp k)
 | .store T x y => evK tm x fun p => evK tm y fun v => (match p with
  | .ptr i j => Y0 hp i fun it => Yjr v fun vs => Yxk c.tt T it j vs fun it' => k (.v undef) [(i, it)] [(i, it')] []
  | _ => Stuck 29)
 | .nilCheck x => evK tm x fun p => (match p with
  | .ptr i j => k (.ptr i j) [] [] []
  | _ => Yb2 c o tm hp k)
 | .fieldAddr T x i => evK tm x fun p => (match p with
  | .ptr id j => tiK c.tt T fun ti => getK ti.fields i fun f => (match f with
   | some (off, n + 1) => fN false (j + off) fun j => k (.ptr id j) [] [] []
   | _ => Stuck 30)
  | _ => Yb2 c o tm hp k)
 | .indexAddr T x ix => evK tm x fun s => evK tm ix fun j => (match s, j with
  | .sl id off lo n, .v (.int kd j) => Y0 hp id fun it => tiK c.tt T fun ti => (match ti.slice with
   | some (e, sz, by_, zs) => Yy5 c hp id it off n sz j k
   | none => Stuck 31)
  | _, _ => Yb2 c o tm hp k)
 | .index T x ix => evK tm x fun s => evK tm ix fun j => (match s, j with
  | .agg cs, .v (.int kd j) => tiK c.tt T fun ti => (match ti.arr with
   | some (n, sz, b) => Y0k c.sy j n 0 sz fun a => (match b with
    | false => getK cs a fun v => k v [] [] []
    | true => Yjx cs a fun r => Yjt r sz fun vs => k (.agg vs) [] [] [])
   | none => Stuck 32)
  | _, _ => Yb2 c o tm hp k)
 | .extract t i => evK tm t fun v => (match v with
  | .tup cs => getK cs i fun v => k v [] [] []
  | _ => Yb2 c o tm hp k)
 | .build T ps => tiK c.tt T fun ti => (match ti.zero with
  | none => Stuck 33
  | some zs => (match ti.arr with
   | some (n, sz, b) => Yua tm (fun i => some (i * sz, sz)) ps.toList zs fun res => k (.agg res) [] [] []
   | none => (match ti.fields with
    | [] => Yb2 c o tm hp k
    | f :: fs => placesK (f :: fs) fun pl => Yua tm (nthP pl) ps.toList zs fun res => k (.agg res) [] [] [])))
 | .buildSlice T len ps => tiK c.tt T fun ti => (match ti.slice with
  | none => Stuck 34
  | some (e, sz, by_, zs) => Yc (Nat.ble (len * sz) 16777216 && Nat.ble len 16777216 && lenB ps.toList len) (Yuy tm sz 0 ps.toList fun cs => k (.sl (3 * o.dst.getD 0) 0 0 len) [] [] [(3 * o.dst.getD 0, .row e sz len cs)]))
 | .makeFunc fn first caught => evsK tm first.toList fun fs => evsK tm caught.toList fun cs => k (.fn fn fs cs) [] [] []
 | .makeMap T r => (match r with | none => k (.mp (3 * o.dst.getD 0)) [] [] [(3 * o.dst.getD 0, .obj (.mpV [] 0))] | some _ => Stuck 68)
 | .slice T x lo hi mx => evK tm x fun s => (match s with
  | .sl i off lo' n => Yxo c T (3 * o.dst.getD 0) tm i off lo' n lo hi mx hp k
  | _ => Yb2 c o tm hp k)
 | .call cl => (match cl.callee with
  | .value f => evK tm f fun fv => funK fv fun g fs cs => evsK tm cl.args.toList fun vs => Yc (Yfc c.P g) (appK vs cs fun r => appK fs r fun all => c.callH g all hp (o.dst.getD 0) k kp)
  | .builtin b => (match b, cl.args.toList with
   | .len, [x] => evK tm x fun v => (match v with
    | .sl _ _ _ n => (match cl.argTypes.toList with
     | [T] => tiK c.tt T fun ti => (match ti.slice with
      | some (e, sz, by_, zs) => k (.v (.int .i64 (n : Int))) [] [] []
      | none => Stuck 36)
     | _ => Stuck 37)
    | _ => Yb2 c o tm hp k)
   | .append, [s, x] => (match cl.argTypes.toList with
    | [T, T'] => Yc (Nat.beq T T') (evK tm s fun s => evK tm x fun x => Yuk c T (3 * o.dst.getD 0) s x hp k)
    | _ => Stuck 38)
   | _, _ => Yb2 c o tm hp k)
  | _ => Stuck 39)
 | _ => Yb2 c o tm hp k
where
 placesK : List (Option (Nat × Nat)) -> (List (Nat × Nat) -> Prop) -> Prop
 | [], K => K []
 | x :: xs, K => match x with | none => Stuck 41 | some p => placesK xs fun r => K (p :: r)
 nthP : List (Nat × Nat) -> Nat -> Option (Nat × Nat)
 | [], _ => none
 | x :: _, 0 => some x
 | _ :: xs, n + 1 => nthP xs n
end Go.Proofs.Ytilnbgpogfabaaa
namespace Go.Proofs.Ytilnbgpogfabaaa
open Go.RowKit
variable [InW]
attribute [local irreducible] Go.Oper.wp
structure HandOk (c : Cx) : Prop where
 tab : TabOk c.P c.tt
 call : ∀ g args hp d k kp, c.callH g args hp d k kp -> (∃ val hs us nw, k val hs us nw /\ PartOf hs hp /\ (∀ i ∈ keys us, i ∈ keys hs) /\ ACall c.P g args hs false val us nw) \/
  (∃ val hs us nw, kp val hs us nw /\ PartOf hs hp /\ (∀ i ∈ keys us, i ∈ keys hs) /\ ACall c.P g args hs true val us nw)
 sym : ∀ o tm hp k, c.symH o tm hp k -> ∃ val hs us nw, k val hs us nw /\ PartOf hs hp /\ (∀ i ∈ keys us, i ∈ keys hs) /\ Does c.P o tm hs val us nw
def OpRes (c : Cx) (o : Oper) (tm : List AV) (hp : Heap) (k kp : KE) : Prop :=
 (∃ val hs us nw, k val hs us nw /\ PartOf hs hp /\ (∀ i ∈ keys us, i ∈ keys hs) /\ Does c.P o tm hs val us nw) \/
 (∃ val hs us nw, kp val hs us nw /\ PartOf hs hp /\ (∀ i ∈ keys us, i ∈ keys hs) /\ DoesP c.P o tm hs val us nw)
section
variable {c : Cx} {o : Oper} {tm : List AV} {hp : Heap} {k kp : KE}
theorem OpRes.of {val : AV} {hs us nw : Heap} (h : k val hs us nw) (hpart : PartOf hs hp) (hu : ∀ i ∈ keys us, i ∈ keys hs) (hd : Does c.P o tm hs val us nw) : OpRes c o tm hp k kp := .inl ⟨val, hs, us, nw, h, hpart, hu, hd⟩
theorem Yix {hs : Heap} : ∀ i ∈ keys ([] : Heap), i ∈ keys hs := by intro i hi; simp [keys] at hi
theorem OpRes.pure {val : AV} (h : k val [] [] []) (hd : Does c.P o tm [] val [] []) : OpRes c o tm hp k kp := .of h (.nil _) Yix hd
theorem Ybd (hc : HandOk c) (h : Yb2 c o tm hp k) : OpRes c o tm hp k kp := by
 unfold Yb2 at h
 split at h
 ·exact .inl (hc.sym _ _ _ _ h)
 ·obtain ⟨v, h1, h2⟩ := Ywf h;exact .pure h1 h2
theorem Yh2 {it : It} {cs : List AV} (hcs : ∀ φ, it.vals φ = AV.concL φ cs) {j : Nat} {v : AV} (hv : cs[j]? = some v) (φ : Phi) : (it.vals φ)[j]? = some (v.conc φ) := by rw [hcs, Yb9, hv]; rfl
theorem Ywo {tt : Tr TI} {P : Program} (ht : TabOk P tt) {T : TypeId} {it : It} {i j : Nat} {K : AV -> Prop} (h : Yyw tt T it j K) {x : Operand} (hx : At tm x (.ptr i j)) {dst : Option Tmp} {type : TypeId} {pos : String} {after : Array Edge} {guard : Option (Nat × Bool)} :
  ∃ v, K v /\ Does P { dst, op := .load T x, type, pos, after, guard } tm [(i, it)] v [] [] := by
 have key : ∀ cs, (∀ φ, it.vals φ = AV.concL φ cs) -> Yps tt T cs j K -> ∃ v, K v /\ Does P { dst, op := .load T x, type, pos, after, guard } tm [(i, it)] v [] [] := by
  intro cs hcs h;have h1 := Yk ht h
  try dsimp only at h1
  split at h1
  ·rename_i ha;obtain ⟨v, h2, h3⟩ := Ybo h1;exact ⟨v, h3, Y3x (Ycg ha) hx (Yh2 hcs h2)⟩
  ·rename_i ha
   split at h1
   ·rename_i n hn;obtain ⟨h2, h3⟩ := Ycc h1;obtain ⟨h4, h5⟩ := Yca h3;refine ⟨_, h5, Y3v (Ycg ha) (Ycu hn) hx (vs := fun φ => AV.concL φ ((cs.drop j).take n)) (fun φ => rfl) (fun φ => ?_) (fun φ => ?_)⟩
    ·rw [hcs, Yev, Yew]
    ·rw [Yg, List.length_take]; omega
   ·exact h1.elim
  ·exact h1.elim
 cases it with
 | blk T' cs => exact key cs (fun φ => rfl) h
 | row T' sz n cs => exact key cs (fun φ => rfl) h
 | rowV _ _ _ _ => exact h.elim
 | obj _ => exact h.elim
 | lp _ _ => exact h.elim
 | dead => exact h.elim
 | arr _ _ _ => exact h.elim
 | bk _ _ _ _ => exact h.elim
 | bkv _ _ _ _ _ => exact h.elim
 | nst _ _ _ => exact h.elim
 | fro _ _ => exact h.elim
theorem Ytb {tt : Tr TI} {P : Program} (ht : TabOk P tt) {T : TypeId} {it : It} {i j : Nat} {v : AV} {vs : List AV} {K : It -> Prop} (h : Yxk tt T it j vs K) {x y : Operand} (hx : At tm x (.ptr i j)) (hy : At tm y v) (hj : v.rd = true) (hc : ∀ φ, (v.conc φ).cells = (AV.concL φ vs).toArray) {dst : Option Tmp} {type : TypeId} {pos : String} {after : Array Edge} {guard : Option (Nat × Bool)} :
  ∃ it', K it' /\ Does P { dst, op := .store T x y, type, pos, after, guard } tm [(i, it)] (.v undef) [(i, it')] [] := by
 have h1 := Yk ht h
 try dsimp only at h1
 split at h1
 ·exact h1.elim
 ·rename_i n hn;obtain ⟨h2, h3⟩ := Ya h1;simp only [Bool.and_eq_true, Nat.ble_eq] at h2;have hl := Ybb h2.1.1
  split at h3
  ·obtain ⟨h4, h5⟩ := Yen h3;exact ⟨_, h5, Y1u (Ycu hn) hx hy hj hc hl h2.1.2 (by omega)⟩
  ·obtain ⟨h4, h5⟩ := Yen h3;exact ⟨_, h5, Y1t (Ycu hn) hx hy hj hc hl (by omega) h2.1.2 (by omega)⟩
  ·exact h3.elim
theorem Yjj {P : Program} : ∀ {fs : List (Option (Nat × Nat))} {K : List (Nat × Nat) -> Prop}, vcOp.placesK fs K -> ∃ pl, K pl /\ fs = pl.map some
 | [], K, h => ⟨[], h, rfl⟩
 | x :: xs, K, h => by
  cases x with
  | none => exact h.elim
  | some p =>
   obtain ⟨pl, h1, h2⟩ := Yjj (P := P) (fs := xs) h;exact ⟨p :: pl, h1, by rw [h2]; rfl⟩
theorem Yyc : ∀ (pl : List (Nat × Nat)), vcOp.nthP pl = fun i => pl[i]?
 | [] => rfl
 | x :: xs => by
  funext i
  cases i with
  | zero => rfl
  | succ i => simp [vcOp.nthP, Yyc xs]
theorem Yh1 (φ : Phi) {zs : List AV} {sz n : Nat} (hz : zs.length = sz) : (madeCells (AV.concL φ zs).toArray (n * sz)).toList = AV.concL φ ((List.replicate n zs).flatten) := by
 subst hz;have := Yu6 (AV.concL φ zs) n;rw [Yg] at this;unfold madeCells;simp only [Array.toList_map, Array.toList_range, List.size_toArray, Yg];rw [this];simp only [Yx, List.map_flatten, List.map_replicate]
theorem Ygh {it : It} {off m sz : Nat} {K : List AV -> Prop} (h : Yyi it off m sz K) : ∃ news, K news /\ Yls it = true /\ (∀ (φ : Phi) (j : Nat) (u : Value), (AV.concL φ news)[j]? = some u -> (it.vals φ)[off + j]? = some u) /\ ∀ i, it.has i = false -> AV.hasL i news = false := by
 cases it with
 | row T s n cs =>
  obtain ⟨h1, h2⟩ := Ya h;obtain ⟨h3, h4⟩ := Ycc h2;obtain ⟨h5, h6⟩ := Yca h4;refine ⟨_, h6, h1, fun φ j u hu => ?_, fun i hi => ?_⟩
  ·rw [Yev, Yew, List.getElem?_take] at hu
   split at hu
   ·rw [List.getElem?_drop] at hu; exact hu
   ·cases hu
  ·have hi' : AV.hasL i cs = false := hi;rw [Yp, List.any_eq_false] at hi' ⊢;intro x hx;exact hi' x (List.mem_of_mem_drop (List.mem_of_mem_take hx))
 | blk _ _ => exact h.elim
 | rowV _ _ _ _ => exact h.elim
 | obj _ => exact h.elim
 | lp _ _ => exact h.elim
 | dead => exact h.elim
 | arr _ _ _ => exact h.elim
 | bk _ _ _ _ => exact h.elim
 | bkv _ _ _ _ _ => exact h.elim
 | nst _ _ _ => exact h.elim
 | fro _ _ => exact h.elim
theorem Yn7 {x : AV} (h : Yyf x = true) (φ : Phi) : ∃ A c, x.conc φ = .slice A 0 c := by
 cases x with
 | v y =>
  cases y <;> simp only [Yyf, Yd, Bool.false_eq_true] at h;subst h;exact ⟨_, _, rfl⟩
 | sl a b d n => simp only [Yyf, Yd] at h; subst h; exact ⟨_, _, rfl⟩
 | emp i => exact ⟨_, _, rfl⟩
 | _ => simp [Yyf] at h
theorem Ysp {T : TypeId} {s x : Operand} {sv xv : AV} {d : Nat} (hc : HandOk c) (hs : At tm s sv) (hx : At tm x xv) (hsj : sv.rd = true) (hxj : xv.rd = true) {dst : Option Tmp} {type : TypeId} {pos : String} {after : Array Edge} {guard : Option (Nat × Bool)} (h : Yuk c T d sv xv hp k) :
  OpRes c { dst, op := .call { callee := .builtin .append, args := #[s, x], argTypes := #[T, T] }, type, pos, after, guard } tm hp k kp := by
 have h1 := Yk hc.tab h
 try dsimp only at h1
 split at h1
 ·exact h1.elim
 ·rename_i q hq;obtain ⟨e, sz, by_, zs⟩ := q;obtain ⟨h2, h3⟩ := Ya h1;simp only [Bool.and_eq_true, Nat.ble_eq] at h2;have hz := Ybb h2.1
  try dsimp only at h3
  split at h3
  ·rename_i hnone
   split at h3
   ·rename_i A n cp;obtain ⟨h4, h5⟩ := Ya h3;rw [Nat.ble_eq] at h4;exact .pure h5 (Yif hq hs hsj hx hxj (Yn7 hnone) fun φ w0 M R w _ => ⟨A, n, cp, rfl, h4⟩)
   ·rename_i i off lo n;obtain ⟨it, h4, h5⟩ := Ye h3
    split at h5
    ·rename_i e' sz' n' cs;obtain ⟨h6, h7⟩ := Ya h5;rw [Nat.ble_eq] at h6;refine .of h7 (.one h4) Yix (Yif hq hs hsj hx hxj (Yn7 hnone) fun φ w0 M R w hS => ⟨_, n, (φ i).c - lo, rfl, ?_⟩);have : n' <= (φ i).c := Yis hS;omega
    ·exact h5.elim
   ·exact h3.elim
  ·split at h3
   ·rename_i j off2 lo2 m;obtain ⟨it2, h6, h7⟩ := Ye h3;obtain ⟨h8, h9⟩ := Ya h7;simp only [Bool.and_eq_true, Nat.ble_eq] at h8;obtain ⟨news, h10, h11, h12, h13⟩ := Ygh h9;obtain ⟨h14, h15⟩ := Ya h10;rw [Bool.and_eq_true] at h14;exact .of h15 (.one h6) Yix (Ysi hq hz h2.2 hs hx (fun φ w0 M R w hS => Ybt h11 φ _ w0 M R w hS) (Ybb h14.2) h12 h14.1 h13 (by simp only [maxLen]; omega) h8.1)
   ·rename_i i off lo n j off2 lo2 m;obtain ⟨it, h4, h5⟩ := Ye h3;obtain ⟨it2, h6, h7⟩ := Ye h5
    split at h7
    ·rename_i e' sz' n' cs;obtain ⟨h8, h9⟩ := Ya h7;simp only [Bool.and_eq_true, Bool.not_eq_true', Nat.ble_eq, Yd, Y3] at h8;obtain ⟨⟨⟨⟨⟨⟨⟨rfl, rfl⟩, rfl⟩, rfl⟩, rfl⟩, hne⟩, hb⟩, hm⟩ := h8;obtain ⟨news, h10, h11, h12, h13⟩ := Ygh h9;obtain ⟨h14, h15⟩ := Ya h10;rw [Bool.and_eq_true] at h14;have h16 := Ydo.1 h15
     split at h16
     ·have h16 := Yib.1 h16;exact .of h16 (.two h4 h6 hne) (by intro i hi; simp [keys] at hi ⊢; exact .inl hi)
       (Yp4 hq hz h2.2 hs hx hne (fun φ w0 M R w hS => Ybt h11 φ _ w0 M R w hS) (Ybb h14.2) h12 h14.1 h13 (by simp only [maxLen]; omega) hb)
     ·have h16 := Yib.1 h16;exact .of h16 (.two h4 h6 hne) (by intro i hi; simp [keys] at hi ⊢; exact .inl hi)
       (Ysh hq hz h2.2 hs hx hne (fun φ w0 M R w hS => Ybt h11 φ _ w0 M R w hS) (Ybb h14.2) h12 h14.1 h13 (by simp only [maxLen]; omega) hb)
    ·exact h7.elim
   ·exact h3.elim
theorem Yt6 {T e : TypeId} {sz by_ : Nat} {zs : List AV} {x ix : Operand} {id off lo n : Nat} {kd : IntKind} {j : Int} {it : It} (hq : (mkTI c.P T).slice = some (e, sz, by_, zs)) (hx : At tm x (.sl id off lo n)) (hix : At tm ix (.v (.int kd j))) (h3 : look hp id = some it) (h : Yy5 c hp id it off n sz j k) {dst : Option Tmp} {type : TypeId} {pos : String} {after : Array Edge} {guard : Option (Nat × Bool)} :
  OpRes c { dst, op := .indexAddr T x ix, type, pos, after, guard } tm hp k kp := h.elim
theorem Ymf {x : Option Operand} {dflt : Nat} {K : Nat -> Prop} (h : Yz6 tm x dflt K) : ∃ n, BoundA tm x dflt n /\ K n := by
 cases x with
 | none => exact ⟨dflt, rfl, h⟩
 | some x =>
  obtain ⟨v, hj, hx, h1⟩ := Yf h
  try dsimp only at h1
  split at h1
  ·exact ⟨_, ⟨_, hx⟩, h1⟩
  ·exact h1.elim
theorem Ytd {T : TypeId} {x : Operand} {i off lo n d : Nat} {lop hip mxp : Option Operand} (hc : HandOk c) (hx : At tm x (.sl i off lo n)) {dst : Option Tmp} {type : TypeId} {pos : String} {after : Array Edge} {guard : Option (Nat × Bool)} (h : Yxo c T d tm i off lo n lop hip mxp hp k) :
  OpRes c { dst, op := .slice T x lop hip mxp, type, pos, after, guard } tm hp k kp := by
 obtain ⟨it, h1, h2⟩ := Ye h
 try dsimp only at h2
 split at h2
 ·rename_i e' sz' N cs;have h3 := Yk hc.tab h2
  try dsimp only at h3
  split at h3
  ·exact h3.elim
  ·rename_i q e sz by_ zs hq
   split at h3
   ·obtain ⟨l, hl, h4⟩ := Ymf h3;obtain ⟨h', hh, h5⟩ := Ymf h4;obtain ⟨h6, h7⟩ := Ya h5;simp only [Bool.and_eq_true, Nat.ble_eq] at h6
    split at h7
    ·exact .of h7 (.one h1) Yix (Y1y hq hx hl hh h6.1.1 h6.2)
    ·rename_i l
     split at h7
     ·rename_i hb;have e1 := Yd.1 hb;subst e1;exact .of h7 (.one h1) Yix (Y1x hq hx hl hh h6.1.1 h6.2)
     ·rename_i hb;have hne := Y3.1 hb;have h8 := Yib.1 (Yib.1 (Yib.1 h7));exact .of h8 (.one h1) Yix (Y1w hq hx hl hh (by omega) h6.1.1 h6.2)
   ·exact h3.elim
 ·exact h2.elim
theorem Yvp (hc : HandOk c) (h : vcOp c o tm hp k kp) : OpRes c o tm hp k kp := by
 obtain ⟨dst, op, type, pos, after, guard⟩ := o;cases op <;> try exact Ybd hc h
 case move x => obtain ⟨v, hj, hx, h1⟩ := Yf h; exact .pure h1 (Y4y hx hj)
 case assign x => obtain ⟨v, hj, hx, h1⟩ := Yf h; exact .pure h1 (Y12 hx hj)
 case pick b x y =>
  obtain ⟨v, hj, hb, h1⟩ := Yf h
  try dsimp only at h1
  split at h1
  ·rename_i b';rcases Yfh h1 with ⟨rfl, h2⟩ | ⟨rfl, h2⟩
   ·obtain ⟨v, hj, hx, h3⟩ := Yf h2; exact .pure h3 (Y2s hb hx hj)
   ·obtain ⟨v, hj, hx, h3⟩ := Yf h2; exact .pure h3 (Y2s hb hx hj)
  ·exact h1.elim
 case alloc T =>
  have h1 := Yk hc.tab h
  try dsimp only at h1
  split at h1
  ·rename_i zs hz; exact .of h1 (.nil _) Yix (Y31 hz)
  ·exact h1.elim
 case box T x =>
  obtain ⟨v, hj, hx, h1⟩ := Yf h;obtain ⟨cs, h2, hcs, hh⟩ := Yd4 h1;exact .of h2 (.nil _) Yix (d_box hx hj hcs hh)
 case load T x =>
  obtain ⟨v, hj, hx, h1⟩ := Yf h
  try dsimp only at h1
  split at h1
  ·obtain ⟨it, h2, h3⟩ := Ye h1;obtain ⟨v, h4, h5⟩ := Ywo hc.tab h3 hx;exact .of h4 (.one h2) Yix h5
  ·exact Ybd hc h1
 case store T x y =>
  obtain ⟨p, hpj, hx, h1⟩ := Yf h;obtain ⟨v, hj, hy, h2⟩ := Yf h1
  try dsimp only at h2
  split at h2
  ·obtain ⟨it, h3, h4⟩ := Ye h2;obtain ⟨vs, h5, hcs, hh⟩ := Yd4 h4;obtain ⟨it', h6, h7⟩ := Ytb hc.tab h5 hx hy hj hcs;exact .of h6 (.one h3) (by intro i hi; simpa [keys] using hi) h7
  ·exact h2.elim
 case nilCheck x =>
  obtain ⟨v, hj, hx, h1⟩ := Yf h
  try dsimp only at h1
  split at h1
  ·refine .pure h1 (Does.pure fun φ a ho w => ?_);have e := ho x (by simp [Op.operands]) _ hx hj;simp only [AV.conc] at e;simp [execOp, e, AV.conc]
  ·exact Ybd hc h1
 case fieldAddr T x i =>
  obtain ⟨v, hj, hx, h1⟩ := Yf h
  try dsimp only at h1
  split at h1
  ·have h2 := Yk hc.tab h1;obtain ⟨f, h3, h4⟩ := Ybo h2
   split at h4
   ·exact .pure (Yib.1 h4) (Y3y (Yiy h3) hx)
   ·exact h4.elim
  ·exact Ybd hc h1
 case indexAddr T x ix =>
  obtain ⟨v, hj, hx, h1⟩ := Yf h;obtain ⟨u, hju, hix, h2⟩ := Yf h1
  try dsimp only at h2
  split at h2
  ·obtain ⟨it, h3, h4⟩ := Ye h2;have h5 := Yk hc.tab h4
   try dsimp only at h5
   split at h5
   ·rename_i q e sz by_ zs hq;exact Yt6 hq hx hix h3 h5
   ·exact h5.elim
  ·exact Ybd hc h2
 case index T x ix =>
  obtain ⟨v, hj, hx, h1⟩ := Yf h;obtain ⟨u, hju, hix, h2⟩ := Yf h1
  try dsimp only at h2
  split at h2
  ·have h5 := Yk hc.tab h2
   try dsimp only at h5
   split at h5
   ·rename_i q n sz b hq;obtain ⟨h8, h9, h10⟩ := Ynd h5;rw [Nat.zero_add] at h10
    split at h10
    ·obtain ⟨v, h11, h12⟩ := Ybo h10;exact .pure h12 (Yvj hq hx hix h8 h9 fun φ => .inl ⟨rfl, by rw [Yb9, h11]; rfl⟩)
    ·obtain ⟨h11, h12⟩ := Ycc h10;obtain ⟨h13, h14⟩ := Yca h12;refine .pure h14 (Yvj hq hx hix h8 h9 fun φ => .inr ⟨rfl, ?_⟩);simp only [AV.conc, Yev, Yew, Value.agg.injEq];apply Array.ext';simp
   ·exact h5.elim
  ·exact Ybd hc h2
 case extract t i =>
  obtain ⟨v, hj, hx, h1⟩ := Yf h
  try dsimp only at h1
  split at h1
  ·obtain ⟨v, h2, h3⟩ := Ybo h1; exact .pure h3 (Yzv hx h2)
  ·exact Ybd hc h1
 case build T ps =>
  have h1 := Yk hc.tab h
  try dsimp only at h1
  split at h1
  ·exact h1.elim
  ·rename_i zs hz
   split at h1
   ·rename_i q n sz b hq;obtain ⟨res, h2, h3⟩ := Yi7 h1;exact .pure h2 (by have := Y11 (P := c.P) (tm := tm) (dst := dst) (type := type) (pos := pos) (after := after) (guard := guard) hq hz h3; simpa using this)
   ·split at h1
    ·exact Ybd hc h1
    ·rename_i f fs hfs;obtain ⟨pl, h2, h3⟩ := Yjj (P := c.P) h1;obtain ⟨res, h4, h5⟩ := Yi7 h2;rw [Yyc] at h5;rw [<- hfs] at h3;cases hu : c.P.underlying T with
     | none => simp [mkTI, hu] at hfs
     | some d =>
      cases d <;> simp only [mkTI, hu, reduceCtorEq] at hfs
      case struct fs' =>
       have h6 : fs'.toList.map (fun f => (c.P.info? f.type).map fun j => (f.offset, j.size)) = pl.map some := by rw [<- h3]; simp only [mkTI, hu]
       exact .pure h4 (by have := Y10 (P := c.P) (tm := tm) (dst := dst) (type := type) (pos := pos) (after := after) (guard := guard) hu hz h6 h5; simpa using this)
 case buildSlice T len ps =>
  have h1 := Yk hc.tab h
  try dsimp only at h1
  split at h1
  ·exact h1.elim
  ·rename_i q e sz by_ zs hq;obtain ⟨h2, h3⟩ := Ya h1;simp only [Bool.and_eq_true, Nat.ble_eq] at h2;obtain ⟨vs, cs, h4, h5⟩ := Ylg h3;exact .of h5 (.nil _) Yix (by have := d_lit (P := c.P) (dst := dst) (type := type) (pos := pos) (after := after) (guard := guard) (id := 3 * dst.getD 0) hq h4 (Ybb h2.2) h2.1.1 (by simp only [maxLen]; omega); simpa using this)
 case makeFunc fn first caught =>
  obtain ⟨fs, h1, h2⟩ := Yf8 h;obtain ⟨cs, h3, h4⟩ := Yf8 h2;exact .pure h4 (by have := Ywz (P := c.P) (dst := dst) (type := type) (pos := pos) (after := after) (guard := guard) (fn := fn) h1 h3; simpa using this)
 case makeMap T r =>
  cases r with
  | none => exact .of h (.nil _) Yix Yzl
  | some _ => exact h.elim
 case slice T x lo hi mx =>
  obtain ⟨v, hj, hx, h1⟩ := Yf h
  try dsimp only at h1
  split at h1
  ·exact Ytd hc hx h1
  ·exact Ybd hc h1
 case call cl =>
  obtain ⟨callee, args, argTypes⟩ := cl;unfold vcOp at h;cases callee with
  | invoke _ _ => exact h.elim
  | value f =>
   obtain ⟨fv, hj, hf, h1⟩ := Yf h;obtain ⟨g, fs, cs, h2, h3, h4⟩ := Yl4 h1;obtain ⟨vs, h5, h6⟩ := Yf8 h2;obtain ⟨h7, h8⟩ := Ya h6;have h9 := Ydo.1 (Ydo.1 h8);rw [<- List.append_assoc] at h9;rcases hc.call _ _ _ _ _ _ h9 with ⟨val, hs, us, nw, a1, a2, a3, a4⟩ | ⟨val, hs, us, nw, a1, a2, a3, a4⟩
   ·exact .inl ⟨val, hs, us, nw, a1, a2, a3, by have := Y40 (P := c.P) (dst := dst) (type := type) (pos := pos) (after := after) (guard := guard) (tys := argTypes) h7 hf hj h3 h4 h5 a4; simpa using this⟩
   ·exact .inr ⟨val, hs, us, nw, a1, a2, a3, by have := Y30 (P := c.P) (dst := dst) (type := type) (pos := pos) (after := after) (guard := guard) (tys := argTypes) h7 hf hj h3 h4 h5 a4; simpa using this⟩
  | builtin b =>
   try dsimp only at h
   split at h
   ·rename_i x hargs;obtain ⟨v, hj, hx, h1⟩ := Yf h
    try dsimp only at h1
    split at h1
    ·rename_i id off lo n;have e1 : args = #[x] := by apply Array.ext'; simpa using hargs
     subst e1
     split at h1
     ·rename_i T hT;have e2 : argTypes = #[T] := by apply Array.ext'; simpa using hT
      subst e2;have h5 := Yk hc.tab h1
      try dsimp only at h5
      split at h5
      ·rename_i q e sz by_ zs hq;exact .pure h5 fun φ w0 M R a w K Q ho _ hS kk => Y4m (Yl hq φ).1 (ho.ev (by simp [Op.operands, Call.operands]) hx (by simp)) (kk φ w (Agree.refl _ _) hS)
      ·exact h5.elim
     ·exact h1.elim
    ·exact Ybd hc h1
   ·rename_i s x hargs
    split at h
    ·rename_i T T' hT;obtain ⟨h1, h2⟩ := Ya h;obtain ⟨sv, hsj, hs, h3⟩ := Yf h2;obtain ⟨xv, hxj, hx, h4⟩ := Yf h3;have e : T = T' := Yd.1 h1;subst e;have e1 : args = #[s, x] := by apply Array.ext'; simpa using hargs
     have e2 : argTypes = #[T, T] := by apply Array.ext'; simpa using hT
     subst e1 e2;exact Ysp hc hs hx hsj hxj h4
    ·exact h.elim
   ·exact Ybd hc h
end
end Go.Proofs.Ytilnbgpogfabaaa
namespace Go.Proofs.Ytilnbgpogfabaaa
open Go.RowKit
variable [InW]
def Y3d (c : Cx) (o : Oper) (tm : List AV) (hp : Heap) (k kp : KE) (x : Operand) : Prop :=
 evK tm x fun v => k v [] [] []
def Yx9 (c : Cx) (o : Oper) (tm : List AV) (hp : Heap) (k kp : KE) (x : Operand) : Prop :=
 evK tm x fun v => k v [] [] []
def Y3c (c : Cx) (o : Oper) (tm : List AV) (hp : Heap) (k kp : KE) (b : Operand) (x : Operand) (y : Operand) : Prop :=
 evK tm b fun b => (match b with
  | .v (.bool b) => vcIf b (evK tm x fun v => k v [] [] []) (evK tm y fun v => k v [] [] [])
  | _ => Stuck 27)
def Y1a (c : Cx) (o : Oper) (tm : List AV) (hp : Heap) (k kp : KE) (T : TypeId) : Prop :=
 tiK c.tt T fun ti => (match ti.zero with
  | some zs => k (.ptr (3 * o.dst.getD 0) 0) [] [] [(3 * o.dst.getD 0, .blk T zs)]
  | none => Stuck 28)
def Y4o (c : Cx) (o : Oper) (tm : List AV) (hp : Heap) (k kp : KE) (T : TypeId) (x : Operand) : Prop :=
 evK tm x fun v => Yjr v fun cs => k (.ptr (3 * o.dst.getD 0) 0) [] [] [(3 * o.dst.getD 0, .blk T cs)]
def Y3e (c : Cx) (o : Oper) (tm : List AV) (hp : Heap) (k kp : KE) (T : TypeId) (x : Operand) : Prop :=
 evK tm x fun p => (match p with
  | .ptr i j => Y0 hp i fun it => Yyw c.tt T it j fun v => k v [(i, it)] [] []
  | _ => Yb2 c o tm hp k)
def Y06 (c : Cx) (o : Oper) (tm : List AV) (hp : Heap) (k kp : KE) (T : TypeId) (x : Operand) (y : Operand) : Prop :=
 evK tm x fun p => evK tm y fun v => (match p with
  | .ptr i j => Y0 hp i fun it => Yjr v fun vs => Yxk c.tt T it j vs fun it' => k (.v undef) [(i, it)] [(i, it')] []
  | _ => Stuck 29)
def Ytr (c : Cx) (o : Oper) (tm : List AV) (hp : Heap) (k kp : KE) (x : Operand) : Prop :=
 evK tm x fun p => (match p with
  | .ptr i j => k (.ptr i j) [] [] []
  | _ => Yb2 c o tm hp k)
def Yrh (c : Cx) (o : Oper) (tm : List AV) (hp : Heap) (k kp : KE) (T : TypeId) (x : Operand) (i : Nat) : Prop :=
 evK tm x fun p => (match p with
  | .ptr id j => tiK c.tt T fun ti => getK ti.fields i fun f => (match f with
   | some (off, n + 1) => fN false (j + off) fun j => k (.ptr id j) [] [] []
   | _ => Stuck 30)
  | _ => Yb2 c o tm hp k)
def Yrg (c : Cx) (o : Oper) (tm : List AV) (hp : Heap) (k kp : KE) (T : TypeId) (x : Operand) (ix : Operand) : Prop :=
 evK tm x fun s => evK tm ix fun j => (match s, j with
  | .sl id off lo n, .v (.int kd j) => Y0 hp id fun it => tiK c.tt T fun ti => (match ti.slice with
   | some (e, sz, by_, zs) => Yy5 c hp id it off n sz j k
   | none => Stuck 31)
  | _, _ => Yb2 c o tm hp k)
def Y08 (c : Cx) (o : Oper) (tm : List AV) (hp : Heap) (k kp : KE) (T : TypeId) (x : Operand) (ix : Operand) : Prop :=
 evK tm x fun s => evK tm ix fun j => (match s, j with
  | .agg cs, .v (.int kd j) => tiK c.tt T fun ti => (match ti.arr with
   | some (n, sz, b) => Y0k c.sy j n 0 sz fun a => (match b with
    | false => getK cs a fun v => k v [] [] []
    | true => Yjx cs a fun r => Yjt r sz fun vs => k (.agg vs) [] [] [])
   | none => Stuck 32)
  | _, _ => Yb2 c o tm hp k)
def Ywi (c : Cx) (o : Oper) (tm : List AV) (hp : Heap) (k kp : KE) (t : Operand) (i : Nat) : Prop :=
 evK tm t fun v => (match v with
  | .tup cs => getK cs i fun v => k v [] [] []
  | _ => Yb2 c o tm hp k)
def Y09 (c : Cx) (o : Oper) (tm : List AV) (hp : Heap) (k kp : KE) (T : TypeId) (ps : Array (Nat × Operand)) : Prop :=
 tiK c.tt T fun ti => (match ti.zero with
  | none => Stuck 33
  | some zs => (match ti.arr with
   | some (n, sz, b) => Yua tm (fun i => some (i * sz, sz)) ps.toList zs fun res => k (.agg res) [] [] []
   | none => (match ti.fields with
    | [] => Yb2 c o tm hp k
    | f :: fs => vcOp.placesK (f :: fs) fun pl => Yua tm (vcOp.nthP pl) ps.toList zs fun res => k (.agg res) [] [] [])))
def Ypo (c : Cx) (o : Oper) (tm : List AV) (hp : Heap) (k kp : KE) (T : TypeId) (len : Nat) (ps : Array (Nat × Operand)) : Prop :=
 tiK c.tt T fun ti => (match ti.slice with
  | none => Stuck 34
  | some (e, sz, by_, zs) => Yc (Nat.ble (len * sz) 16777216 && Nat.ble len 16777216 && lenB ps.toList len) (Yuy tm sz 0 ps.toList fun cs => k (.sl (3 * o.dst.getD 0) 0 0 len) [] [] [(3 * o.dst.getD 0, .row e sz len cs)]))
def Yts (c : Cx) (o : Oper) (tm : List AV) (hp : Heap) (k kp : KE) (fn : Fn) (first : Array Operand) (caught : Array Operand) : Prop :=
 evsK tm first.toList fun fs => evsK tm caught.toList fun cs => k (.fn fn fs cs) [] [] []
def Ywh (c : Cx) (o : Oper) (tm : List AV) (hp : Heap) (k kp : KE) (T : TypeId) (r : Option Operand) : Prop :=
 (match r with | none => k (.mp (3 * o.dst.getD 0)) [] [] [(3 * o.dst.getD 0, .obj (.mpV [] 0))] | some _ => Stuck 68)
def Y07 (c : Cx) (o : Oper) (tm : List AV) (hp : Heap) (k kp : KE) (T : TypeId) (x : Operand) (lo : Option Operand) (hi : Option Operand) (mx : Option Operand) : Prop :=
 evK tm x fun s => (match s with
  | .sl i off lo' n => Yxo c T (3 * o.dst.getD 0) tm i off lo' n lo hi mx hp k
  | _ => Yb2 c o tm hp k)
def Y3f (c : Cx) (o : Oper) (tm : List AV) (hp : Heap) (k kp : KE) (cl : Call) : Prop :=
 (match cl.callee with
  | .value f => evK tm f fun fv => funK fv fun g fs cs => evsK tm cl.args.toList fun vs => Yc (Yfc c.P g) (appK vs cs fun r => appK fs r fun all => c.callH g all hp (o.dst.getD 0) k kp)
  | .builtin b => (match b, cl.args.toList with
   | .len, [x] => evK tm x fun v => (match v with
    | .sl _ _ _ n => (match cl.argTypes.toList with
     | [T] => tiK c.tt T fun ti => (match ti.slice with
      | some (e, sz, by_, zs) => k (.v (.int .i64 (n : Int))) [] [] []
      | none => Stuck 36)
     | _ => Stuck 37)
    | _ => Yb2 c o tm hp k)
   | .append, [s, x] => (match cl.argTypes.toList with
    | [T, T'] => Yc (Nat.beq T T') (evK tm s fun s => evK tm x fun x => Yuk c T (3 * o.dst.getD 0) s x hp k)
    | _ => Stuck 38)
   | _, _ => Yb2 c o tm hp k)
  | _ => Stuck 39)
def Ydm (c : Cx) (o : Oper) (tm : List AV) (hp : Heap) (k kp : KE) : Prop :=
 match o.op with
 | .move x => Y3d c o tm hp k kp x
 | .assign x => Yx9 c o tm hp k kp x
 | .pick b x y => Y3c c o tm hp k kp b x y
 | .alloc T => Y1a c o tm hp k kp T
 | .box T x => Y4o c o tm hp k kp T x
 | .load T x => Y3e c o tm hp k kp T x
 | .store T x y => Y06 c o tm hp k kp T x y
 | .nilCheck x => Ytr c o tm hp k kp x
 | .fieldAddr T x i => Yrh c o tm hp k kp T x i
 | .indexAddr T x ix => Yrg c o tm hp k kp T x ix
 | .index T x ix => Y08 c o tm hp k kp T x ix
 | .extract t i => Ywi c o tm hp k kp t i
 | .build T ps => Y09 c o tm hp k kp T ps
 | .buildSlice T len ps => Ypo c o tm hp k kp T len ps
 | .makeFunc fn first caught => Yts c o tm hp k kp fn first caught
 | .makeMap T r => Ywh c o tm hp k kp T r
 | .slice T x lo hi mx => Y07 c o tm hp k kp T x lo hi mx
 | .call cl => Y3f c o tm hp k kp cl
 | _ => Yb2 c o tm hp k
theorem Y0j (c : Cx) (o : Oper) (tm : List AV) (hp : Heap) (k kp : KE) : Ydm c o tm hp k kp = vcOp c o tm hp k kp := by
 obtain ⟨dst, op, type, pos, after, guard⟩ := o;cases op <;> rfl
end Go.Proofs.Ytilnbgpogfabaaa
namespace Go.Proofs.Ytilnbgpogfabaaa
open Go.RowKit
variable [InW]
variable {P : Program} {tm : List AV} {dst : Option Tmp} {type : TypeId} {pos : String} {after : Array Edge} {guard : Option (Nat × Bool)}
end Go.Proofs.Ytilnbgpogfabaaa
namespace Go.Proofs.Ytilnbgpogfabaaa
open Go.RowKit
variable [InW]
attribute [local irreducible] Go.Oper.wp
section
variable {P : Program} {tm : List AV} {dst : Option Tmp} {type : TypeId} {pos : String} {after : Array Edge} {guard : Option (Nat × Bool)}
def Yyo (lit : Bool) (b : Bool) (A : Prop) : Prop := match lit with | true => Yc b A | false => Need b A
theorem Ygi {lit b : Bool} {A : Prop} (h : Yyo lit b A) : b = true /\ A := by
 cases lit
 ·exact Y19.1 h
 ·exact Ya h
def andI (k : IntKind) (m n : Int) : Int := k.wrap (BitVec.ofInt k.bits m &&& BitVec.ofInt k.bits n).toNat
def orI (k : IntKind) (m n : Int) : Int := k.wrap (BitVec.ofInt k.bits m ||| BitVec.ofInt k.bits n).toNat
def xorI (k : IntKind) (m n : Int) : Int := k.wrap (BitVec.ofInt k.bits m ^^^ BitVec.ofInt k.bits n).toNat
def Yz9 (k : IntKind) (m n : Int) : Int := k.wrap (BitVec.ofInt k.bits m &&& ~~~(BitVec.ofInt k.bits n)).toNat
abbrev K1 := AV -> Prop
def arK (k : IntKind) (n : Int) (K : K1) : Prop := Ar k n fun z => K (.si k z)
def binI (op : BinOp) (ka kb : IntKind) (m n : Int) (lit : Bool) (K : K1) : Prop :=
 match op with
 | .shl => Yyo lit (decide (0 <= n)) (arK ka (m * 2 ^ (min n.toNat ka.bits)) K)
 | .shr => Yyo lit (decide (0 <= n)) (K (.si ka (m.fdiv (2 ^ (min n.toNat ka.bits)))))
 | .add => Yc (decide (ka = kb)) (arK ka (m + n) K)
 | .sub => Yc (decide (ka = kb)) (arK ka (m - n) K)
 | .mul => Yc (decide (ka = kb)) (arK ka (m * n) K)
 | .quo => Yc (decide (ka = kb)) (Yyo lit (!decide (n = 0)) (arK ka (m.tdiv n) K))
 | .rem => Yc (decide (ka = kb)) (Yyo lit (!decide (n = 0)) (K (.si ka (m.tmod n))))
 | .and => Yc (decide (ka = kb)) (K (.si ka (andI ka m n)))
 | .or => Yc (decide (ka = kb)) (K (.si ka (orI ka m n)))
 | .xor => Yc (decide (ka = kb)) (K (.si ka (xorI ka m n)))
 | .andNot => Yc (decide (ka = kb)) (K (.si ka (Yz9 ka m n)))
 | .eql => Yc (decide (ka = kb)) (K (.sb (decide (m = n))))
 | .neq => Yc (decide (ka = kb)) (K (.sb (!decide (m = n))))
 | .lss => Yc (decide (ka = kb)) (K (.sb (decide (m < n))))
 | .leq => Yc (decide (ka = kb)) (K (.sb (decide (m <= n))))
 | .gtr => Yc (decide (ka = kb)) (K (.sb (decide (n < m))))
 | .geq => Yc (decide (ka = kb)) (K (.sb (decide (n <= m))))
def Yik (P : Program) (op : BinOp) (T : TypeId) (x y : Operand) (u v r : Value) : Prop := ∀ w, (do eqGuard op T x y u v; binOp op T u v : Sem Value).run P w = .ok r w
theorem d_bin {op : BinOp} {T T' : TypeId} {x y : Operand} {a b r : AV} (hx : At tm x a) (hy : At tm y b) (ja : a.rd = true) (jb : b.rd = true) (h : ∀ φ, Yik P op T x y (a.conc φ) (b.conc φ) (r.conc φ)) : Does P { dst, op := .binOp op T x y T', type, pos, after, guard } tm [] r [] [] :=
 fun φ w0 M R ac w K Q ho _ hS kk => Y2e (ho.ev (by simp [Op.operands]) hx ja) (ho.ev (by simp [Op.operands]) hy jb) (h φ w) (kk φ w (Agree.refl _ _) hS)
theorem Ymi {op : BinOp} {ka kb : IntKind} {m n : Int} {lit : Bool} {K : K1} (h : binI op ka kb m n lit K) (T : TypeId) (x y : Operand) : ∃ r, K r /\ ∀ φ, Yik P op T x y (.int ka m) (.int kb n) (r.conc φ) := by
 cases op <;> dsimp only [binI] at h
 case shl =>
  obtain ⟨h1, ⟨h2⟩⟩ := Ygi h;refine ⟨_, h2, fun φ w => ?_⟩;have : ¬ n < 0 := by simpa using h1
  simp [eqGuard, binOp, Op.shift, this, AV.conc]
 case shr =>
  obtain ⟨h1, h2⟩ := Ygi h;refine ⟨_, h2, fun φ w => ?_⟩;have : ¬ n < 0 := by simpa using h1
  simp [eqGuard, binOp, Op.shift, this, AV.conc]
 case quo =>
  obtain ⟨h0, h⟩ := Ya h;obtain ⟨h1, ⟨h2⟩⟩ := Ygi h;obtain rfl := of_decide_eq_true h0;refine ⟨_, h2, fun φ w => ?_⟩;have : ¬ n = 0 := by simpa using h1
  simp [eqGuard, binOp, Op.intDiv, this, AV.conc]
 case rem =>
  obtain ⟨h0, h⟩ := Ya h;obtain ⟨h1, h2⟩ := Ygi h;obtain rfl := of_decide_eq_true h0;refine ⟨_, h2, fun φ w => ?_⟩;have : ¬ n = 0 := by simpa using h1
  simp [eqGuard, binOp, Op.intDiv, this, AV.conc]
 case add | sub | mul =>
  obtain ⟨h0, ⟨h1⟩⟩ := Ya h;obtain rfl := of_decide_eq_true h0;exact ⟨_, h1, fun φ w => by simp [eqGuard, binOp, Op.intArith, AV.conc]⟩
 all_goals
  obtain ⟨h0, h1⟩ := Ya h;obtain rfl := of_decide_eq_true h0;refine ⟨_, h1, fun φ w => ?_⟩
 case and | or | xor | andNot => simp [eqGuard, binOp, Op.intBits, AV.conc, andI, orI, xorI, Yz9]
 case lss | leq | gtr | geq => simp [eqGuard, binOp, Op.intCmp, AV.conc]
 case eql | neq => simp [eqGuard, binOp, Op.intCmp, AV.conc]; rfl
theorem Yjv {d : Nat} {T : TypeId} (hu : P.underlying T = some .bool) (p q : Bool) (w : World) : (Op.equalIn (d + 1) T (.bool p) (.bool q)).run P w = .ok (p == q) w := by
 simp [Op.equalIn, Sem.run_bind, run_underlying hu w]
theorem Ygq {T : TypeId} (hu : P.underlying T = some .bool) (p q : Bool) (w : World) : (Op.equal T (.bool p) (.bool q)).run P w = .ok (p == q) w := Yjv (d := 9999) hu p q w
def binB (P : Program) (op : BinOp) (T : TypeId) (p q : Bool) (K : K1) : Prop :=
 match P.underlying T with
 | some .bool => (match op with | .eql => K (.sb (p == q)) | .neq => K (.sb (!(p == q))) | _ => Stuck 301)
 | _ => Stuck 302
theorem Ymj {op : BinOp} {T : TypeId} {p q : Bool} {K : K1} (h : binB P op T p q K) (x y : Operand) : ∃ r, K r /\ ∀ φ, Yik P op T x y (.bool p) (.bool q) (r.conc φ) := by
 unfold binB at h
 split at h
 ·rename_i hu;cases op <;> simp only at h
  case eql => exact ⟨_, h, fun φ w => by simp [eqGuard, binOp, Ygq hu, AV.conc, Sem.run_bind]⟩
  case neq => exact ⟨_, h, fun φ w => by simp [eqGuard, binOp, Ygq hu, AV.conc, Sem.run_bind]⟩
  all_goals exact h.elim
 ·exact h.elim
def eqS (s t : ByteArray) : Bool := s.toList == t.toList
def binS (op : BinOp) (s t : ByteArray) (K : K1) : Prop :=
 match op with | .eql => K (.sb (eqS s t)) | .neq => K (.sb (!eqS s t)) | _ => Stuck 303
theorem Ymh {op : BinOp} {T : TypeId} {s t : ByteArray} {K : K1} (h : binS op s t K) (x y : Operand) : ∃ r, K r /\ ∀ φ, Yik P op T x y (.string s) (.string t) (r.conc φ) := by
 unfold binS at h;cases op <;> simp only at h
 case eql => exact ⟨_, h, fun φ w => by simp [eqGuard, binOp, Op.stringOp, eqS, AV.conc]⟩
 case neq => exact ⟨_, h, fun φ w => by simp [eqGuard, binOp, Op.stringOp, eqS, AV.conc]⟩
 all_goals exact h.elim
def eq1K (P : Program) (T : TypeId) (a b : AV) (K : Bool -> Bool -> Prop) : Prop :=
 match P.underlying T with
 | some (.int k) => (match a, b with
  | .si ka m, .si kb n => Yc (decide (ka = kb)) (K false (decide (m = n)))
  | .si ka m, .v (.int kb n) => Yc (decide (ka = kb)) (K false (decide (m = n)))
  | .v (.int ka m), .si kb n => Yc (decide (ka = kb)) (K false (decide (m = n)))
  | .v (.int ka m), .v (.int kb n) => Yc (decide (ka = kb)) (K true (decide (m = n)))
  | _, _ => Stuck 360)
 | some .bool => (match a, b with
  | .sb p, .sb q => K false (p == q)
  | .sb p, .v (.bool q) => K false (p == q)
  | .v (.bool p), .sb q => K false (p == q)
  | .v (.bool p), .v (.bool q) => K true (p == q)
  | _, _ => Stuck 361)
 | some .string => (match a, b with
  | .ss s, .ss t => K false (eqS s t)
  | .ss s, .v (.string t) => K false (eqS s t)
  | .v (.string s), .ss t => K false (eqS s t)
  | .v (.string s), .v (.string t) => K true (eqS s t)
  | _, _ => Stuck 362)
 | _ => Stuck 363
def Ygo (x : AV) (K : List AV -> Prop) : Prop := match x with | .agg xs => K xs | .v (.agg cs) => K (cs.toList.map .v) | _ => Stuck 364
def Yj0 (P : Program) (T : TypeId) : Bool := match P.underlying T with | some (.struct _) => true | _ => false
def Y37 (P : Program) (T : TypeId) : Option Bool := (P.underlying T).map fun d => match d with | .struct _ | .array _ _ => true | _ => false
def subK (P : Program) (T : TypeId) (xs : List AV) (off : Nat) (K : AV -> Prop) : Prop :=
 match Y37 P T with
 | some true => (match (P.info? T).map (·.size) with | some n => K (.agg ((xs.drop off).take n)) | none => Stuck 365)
 | some false => getK xs off fun x => Yu1 x K
 | none => Stuck 366
def Y3r (P : Program) (rec : TypeId -> AV -> AV -> (Bool -> Bool -> Prop) -> Prop) (xs ys : List AV) : List Field -> (Bool -> Bool -> Prop) -> Prop
 | [], K => K true true
 | f :: fs, K => Yc (f.name != "_") (subK P f.type xs f.offset fun a => subK P f.type ys f.offset fun b => rec f.type a b fun l1 r1 => Y3r P rec xs ys fs fun l2 r2 => K (l1 && l2) (r1 && r2))
def Y17 (P : Program) (T : TypeId) : Option (Nat × TypeId × Nat) := match P.underlying T with | some (.array n e) => (P.info? e).map fun _ => (n, e, P.cellsOf e) | _ => none
def Y3q (P : Program) (rec : TypeId -> AV -> AV -> (Bool -> Bool -> Prop) -> Prop) (e : TypeId) (c : Nat) (xs ys : List AV) : List Nat -> (Bool -> Bool -> Prop) -> Prop
 | [], K => K true true
 | i :: is, K => subK P e xs (i * c) fun a => subK P e ys (i * c) fun b => rec e a b fun l1 r1 => Y3q P rec e c xs ys is fun l2 r2 => K (l1 && l2) (r1 && r2)
def eqK (P : Program) : Nat -> TypeId -> AV -> AV -> (Bool -> Bool -> Prop) -> Prop
 | 0, _, _, _, _ => Stuck 367
 | d + 1, T, a, b, K => match Yj0 P T with
  | true => Ygo a fun xs => Ygo b fun ys => Yc (!P.stoodInHeld T) (Y3r P (eqK P d) xs ys (P.fieldsOf T).toList K)
  | false => (match Y17 P T with
   | some (n, e, c) => Ygo a fun xs => Ygo b fun ys => Y3q P (eqK P d) e c xs ys (List.range n) K
   | none => eq1K P T a b K)
theorem Yzc {T : TypeId} {a b : AV} {K : Bool -> Bool -> Prop} (h : eq1K P T a b K) : ∃ l r, K l r /\ ∀ φ d w, (Op.equalIn (d + 1) T (a.conc φ) (b.conc φ)).run P w = .ok r w := by
  have hb : ∀ (m n : Int), (m == n) = decide (m = n) := fun m n => by by_cases e : m = n <;> simp [e]
  unfold eq1K at h
  split at h
  · rename_i k hu
    split at h <;> first
      | exact h.elim
      | (obtain ⟨h1, h2⟩ := Ya h
         obtain rfl := of_decide_eq_true h1;exact ⟨_, _, h2, fun φ d w => by simp only [AV.conc, run_equalIn_int w d T _ _ _ _ hu, hb]⟩)
  · rename_i hu
    split at h <;> first
      | exact h.elim
      | exact ⟨_, _, h, fun φ d w => by simp only [AV.conc, run_equalIn_bool' w d T _ _ hu]⟩
  · rename_i hu
    split at h <;> first
      | exact h.elim
      | exact ⟨_, _, h, fun φ d w => by simp only [AV.conc, run_equalIn_string w d T _ _ hu, eqS]⟩
  · exact h.elim
theorem Ydn {x : AV} {K : List AV -> Prop} (h : Ygo x K) : ∃ xs, K xs /\ ∀ φ, x.conc φ = .agg (AV.concL φ xs).toArray := by
 unfold Ygo at h
 split at h
 ·exact ⟨_, h, fun φ => rfl⟩
 ·exact ⟨_, h, fun φ => by simp [AV.conc, Yx, Function.comp_def]⟩
 ·exact h.elim
theorem Yfl {T : TypeId} {xs : List AV} {off : Nat} {K : AV -> Prop} (h : subK P T xs off K) : ∃ x, K x /\ ∀ φ w, (part T (AV.concL φ xs).toArray off).run P w = .ok (x.conc φ) w := by
 unfold subK at h
 split at h
 ·rename_i hw
  split at h
  ·rename_i n hn;refine ⟨_, h, fun φ w => ?_⟩;have ha : Yez P T true := hw;have hs : Yce P T n := hn;have e : (AV.concL φ xs).toArray.extract off (off + n) = (AV.concL φ ((xs.drop off).take n)).toArray := by
    simp [Yx, List.map_take, List.map_drop]
   simp only [part, Sem.run_bind, Ycr ha, Result.andThen_ok, if_true, Y8 hs, Sem.run_pure, e, AV.conc]
  ·exact h.elim
 ·rename_i hw;obtain ⟨x, hx, h2⟩ := Ybo h;obtain ⟨_, h3⟩ := Yg4 h2;refine ⟨_, h3, fun φ w => ?_⟩;have ha : Yez P T false := hw;have e : (AV.concL φ xs).toArray[off]? = some (x.conc φ) := by simp [Yx, hx]
  simp only [part, Sem.run_bind, Ycr ha, Result.andThen_ok, Bool.false_eq_true, if_false, e, Sem.run_pure]
 ·exact h.elim
theorem Yop {d : Nat} {rec : TypeId -> AV -> AV -> (Bool -> Bool -> Prop) -> Prop} (hrec : ∀ T a b K, rec T a b K -> ∃ l r, K l r /\ ∀ φ D w, (Op.equalIn (D + d) T (a.conc φ) (b.conc φ)).run P w = .ok r w) {xs ys : List AV} :
  ∀ {fs : List Field} {K : Bool -> Bool -> Prop}, Y3r P rec xs ys fs K -> ∃ l r, K l r /\ ∀ φ D w, (Op.eqFields (D + d) (AV.concL φ xs).toArray (AV.concL φ ys).toArray fs).run P w = .ok r w
 | [], K, h => ⟨_, _, h, fun φ D w => rfl⟩
 | f :: fs, K, h => by
  obtain ⟨h1, h2⟩ := Ya h;obtain ⟨a, h3, h4⟩ := Yfl h2;obtain ⟨b, h5, h6⟩ := Yfl h3;obtain ⟨l1, r1, h7, h8⟩ := hrec _ _ _ _ h5;obtain ⟨l2, r2, h9, h10⟩ := Yop hrec h7;refine ⟨_, _, h9, fun φ D w => ?_⟩;have hn : f.name ≠ "_" := by simpa using h1
  simp only [Op.eqFields, Sem.run_ite, hn, ne_eq, not_false_eq_true, if_true, Sem.run_bind, h4 φ w, Result.andThen_ok, h6 φ w, h8 φ D w];cases r1
  ·simp [Sem.run_pure]
  ·simpa using h10 φ D w
theorem Yoo {d : Nat} {rec : TypeId -> AV -> AV -> (Bool -> Bool -> Prop) -> Prop} (hrec : ∀ T a b K, rec T a b K -> ∃ l r, K l r /\ ∀ φ D w, (Op.equalIn (D + d) T (a.conc φ) (b.conc φ)).run P w = .ok r w) {e : TypeId} {c : Nat} {xs ys : List AV} :
  ∀ {is : List Nat} {K : Bool -> Bool -> Prop}, Y3q P rec e c xs ys is K -> ∃ l r, K l r /\ ∀ φ D w, (Op.eqItems (D + d) e c (AV.concL φ xs).toArray (AV.concL φ ys).toArray is).run P w = .ok r w
 | [], K, h => ⟨_, _, h, fun φ D w => rfl⟩
 | i :: is, K, h => by
  obtain ⟨a, h3, h4⟩ := Yfl h;obtain ⟨b, h5, h6⟩ := Yfl h3;obtain ⟨l1, r1, h7, h8⟩ := hrec _ _ _ _ h5;obtain ⟨l2, r2, h9, h10⟩ := Yoo hrec h7;refine ⟨_, _, h9, fun φ D w => ?_⟩;simp only [Op.eqItems, Sem.run_bind, h4 φ w, Result.andThen_ok, h6 φ w, h8 φ D w];cases r1
  ·simp [Sem.run_pure]
  ·simpa using h10 φ D w
theorem Yj9 : ∀ (d : Nat) (T : TypeId) (a b : AV) (K : Bool -> Bool -> Prop), eqK P d T a b K -> ∃ l r, K l r /\ ∀ φ D w, (Op.equalIn (D + d) T (a.conc φ) (b.conc φ)).run P w = .ok r w
 | 0, _, _, _, _, h => h.elim
 | d + 1, T, a, b, K, h => by
  unfold eqK at h
  split at h
  ·rename_i hs;obtain ⟨xs, h1, e1⟩ := Ydn h;obtain ⟨ys, h2, e2⟩ := Ydn h1;obtain ⟨h3, h4⟩ := Ya h2;obtain ⟨l, r, h5, h6⟩ := Yop (d := d) (fun T a b K => Yj9 d T a b K) h4;refine ⟨l, r, h5, fun φ D w => ?_⟩;have hu : P.underlying T = some (.struct (P.fieldsOf T)) := by
    unfold Yj0 at hs;unfold Program.fieldsOf
    split at hs
    ·rename_i fs hu; rw [hu]
    ·cases hs
   rw [e1, e2, show D + (d + 1) = (D + d) + 1 from rfl, run_equalIn_struct w (D + d) T _ _ hu (by simpa using h3)];exact h6 φ D w
  ·split at h
   ·rename_i n e c ha;obtain ⟨xs, h1, e1⟩ := Ydn h;obtain ⟨ys, h2, e2⟩ := Ydn h1;obtain ⟨l, r, h5, h6⟩ := Yoo (d := d) (fun T a b K => Yj9 d T a b K) h2;refine ⟨l, r, h5, fun φ D w => ?_⟩;unfold Y17 at ha
    split at ha
    ·rename_i n' e' hu;rw [Option.map_eq_some_iff] at ha;obtain ⟨i, hi, he⟩ := ha;cases he;rw [e1, e2, show D + (d + 1) = (D + d) + 1 from rfl, run_equalIn_array w (D + d) _ _ hu hi];exact h6 φ D w
    ·cases ha
   ·obtain ⟨l, r, h1, h2⟩ := Yzc h;exact ⟨l, r, h1, fun φ D w => h2 φ (D + d) w⟩
def binA (P : Program) (op : BinOp) (T : TypeId) (a b : AV) (K : K1) : Prop :=
 match op with
 | .eql => Yc (!P.eqGuardType P.depth T && (Yj0 P T || (Y17 P T).isSome)) (eqK P 9 T a b fun l r => match l with | false => K (.sb r) | true => (match r with | true => K (.v (.bool true)) | false => K (.v (.bool false))))
 | .neq => Yc (!P.eqGuardType P.depth T && (Yj0 P T || (Y17 P T).isSome)) (eqK P 9 T a b fun l r => match l with | false => K (.sb (!r)) | true => (match r with | true => K (.v (.bool false)) | false => K (.v (.bool true))))
 | _ => Stuck 368
theorem Ymk {op : BinOp} {T : TypeId} {a b : AV} {K : K1} (h : binA P op T a b K) (x y : Operand) (ha : ∀ φ, ∃ xs, a.conc φ = .agg xs) (hb : ∀ φ, ∃ xs, b.conc φ = .agg xs) : ∃ r, K r /\ ∀ φ, Yik P op T x y (a.conc φ) (b.conc φ) (r.conc φ) := by
 unfold binA at h
 split at h
 ·obtain ⟨h1, h2⟩ := Ya h;simp only [Bool.and_eq_true, Bool.not_eq_true'] at h1;obtain ⟨l, r, h3, h4⟩ := Yj9 _ _ _ _ _ h2;have fin : ∀ v : AV, (∀ φ, v.conc φ = .bool r) -> K v -> ∃ r, K r /\ ∀ φ, Yik P .eql T x y (a.conc φ) (b.conc φ) (r.conc φ) := fun v hv hk => by
   refine ⟨v, hk, fun φ w => ?_⟩;obtain ⟨xs, ea⟩ := ha φ;obtain ⟨ys, eb⟩ := hb φ;have h5 := h4 φ 9991 w;rw [ea, eb] at h5 ⊢;simp only [Sem.run_bind, run_eqGuard_agg w .eql T x y xs ys h1.1, Result.andThen_ok, run_eql_struct, h5, hv]
  cases l
  ·exact fin _ (fun φ => rfl) h3
  ·cases r
   ·exact fin _ (fun φ => rfl) h3
   ·exact fin _ (fun φ => rfl) h3
 ·obtain ⟨h1, h2⟩ := Ya h;simp only [Bool.and_eq_true, Bool.not_eq_true'] at h1;obtain ⟨l, r, h3, h4⟩ := Yj9 _ _ _ _ _ h2;have fin : ∀ v : AV, (∀ φ, v.conc φ = .bool (!r)) -> K v -> ∃ r, K r /\ ∀ φ, Yik P .neq T x y (a.conc φ) (b.conc φ) (r.conc φ) := fun v hv hk => by
   refine ⟨v, hk, fun φ w => ?_⟩;obtain ⟨xs, ea⟩ := ha φ;obtain ⟨ys, eb⟩ := hb φ;have h5 := h4 φ 9991 w;rw [ea, eb] at h5 ⊢;simp only [Sem.run_bind, run_eqGuard_agg w .neq T x y xs ys h1.1, Result.andThen_ok, run_neq_struct, h5, hv]
  cases l
  ·exact fin _ (fun φ => rfl) h3
  ·cases r
   ·exact fin _ (fun φ => rfl) h3
   ·exact fin _ (fun φ => rfl) h3
 ·exact h.elim
end
end Go.Proofs.Ytilnbgpogfabaaa
