/-
  A machine over abstract states, proved sound: the help of the proof of a law.
-/
import Derived.WalkKit
import Derived.Outline
import Derived.Lib.Hide
import Derived.Deep.LoopGhost
import Derived.Shelf.AbstractIn
import Derived.WalkLawsBesides
import Derived.WalkSpells
import Derived.Deep.QuietTactic
import Derived.BigQuiet
import Derived.Deep.RegionWith
import Derived.StillTailTactics
import Derived.Deep.RegionHeld3
import Derived.Deep.DeepCutAuto
import Derived.OrdersHeld
import Derived.Below
import Derived.Tactics
import Derived.OneCell
import Derived.Maps.AppendAt
import Derived.ArgAppend
import Derived.Deep.Upon
import Derived.LoopN
import Derived.Scope
set_option linter.unusedVariables false
set_option linter.unusedSectionVars false
set_option linter.unusedSimpArgs false
namespace Go.Proofs.YtladoaeefkpdiaaGreatDoor
open Go.RowKit
def Rows' (w : World) (B sz : Nat) (v : Value) (rows : List (List Value)) : Prop :=
 ∃ A c, v = .slice A rows.length c /\ rows.length <= c /\ rows.length <= 9223372036854775807 /\
  (rows ≠ [] -> ∃ b off, A = some ⟨b, off, none⟩ /\ b < B /\
   ∀ k r, rows[k]? = some r -> ∀ j u, r[j]? = some u -> w.cell? ⟨b, off + k * sz + j, none⟩ = some u)
theorem Rows'.below {w w' : World} {B sz : Nat} {v : Value} {rows : List (List Value)} (h : Rows' w B sz v rows) (hb : Below B w w') : Rows' w' B sz v rows := by
 obtain ⟨A, c, rfl, hc, hm, h⟩ := h;refine ⟨A, c, rfl, hc, hm, fun hn => ?_⟩;obtain ⟨b, off, rfl, hlt, h⟩ := h hn;exact ⟨b, off, rfl, hlt, fun k r hk j u hj => (hb.cell (p := ⟨b, off + k * sz + j, none⟩) hlt).trans (h k r hk j u hj)⟩
theorem Rows'.more {w : World} {B B' sz : Nat} {v : Value} {rows : List (List Value)} (h : Rows' w B sz v rows) (hb : B <= B') : Rows' w B' sz v rows := by
 obtain ⟨A, c, rfl, hc, hm, h⟩ := h;refine ⟨A, c, rfl, hc, hm, fun hn => ?_⟩;obtain ⟨b, off, rfl, hlt, h⟩ := h hn;exact ⟨b, off, rfl, by omega, h⟩
def Ones (w : World) (B : Nat) (v : Value) (xs : List Value) : Prop := Rows' w B 1 v (xs.map fun x => [x])
theorem Rows'.at_ {w : World} {B sz : Nat} {v : Value} {rows : List (List Value)} (h : Rows' w B sz v rows) {k : Nat} (hk : k < rows.length) :
  ∃ b off c, v = .slice (some ⟨b, off, none⟩) rows.length c /\ rows.length <= c /\ b < B /\ ∀ j u, rows[k][j]? = some u -> w.cell? ⟨b, off + k * sz + j, none⟩ = some u := by
 obtain ⟨A, c, rfl, hc, hm, h⟩ := h;obtain ⟨b, off, rfl, hlt, h⟩ := h (fun e => by subst e; simp at hk);exact ⟨b, off, c, rfl, hc, hlt, fun j u hj => h k _ (List.getElem?_eq_getElem hk) j u hj⟩
theorem Ones.at_ {w : World} {B : Nat} {v : Value} {xs : List Value} (h : Ones w B v xs) {k : Nat} (hk : k < xs.length) :
  ∃ b off c, v = .slice (some ⟨b, off, none⟩) xs.length c /\ xs.length <= c /\ b < B /\ w.cell? ⟨b, off + k, none⟩ = some xs[k] := by
 obtain ⟨b, off, c, rfl, hc, hlt, h⟩ := Rows'.at_ (k := k) h (by simpa using hk);refine ⟨b, off, c, by simp, by simpa using hc, hlt, ?_⟩;have := h 0 xs[k] (by simp);simpa using this
theorem Ones.form {w : World} {B : Nat} {v : Value} {xs : List Value} (h : Ones w B v xs) :
  ∃ A c, v = .slice A xs.length c /\ xs.length <= c /\ xs.length <= 9223372036854775807 := by
 obtain ⟨A, c, rfl, hc, hm, _⟩ := h;exact ⟨A, c, by simp, by simpa using hc, by simpa using hm⟩
theorem Rows'.form {w : World} {B sz : Nat} {v : Value} {rows : List (List Value)} (h : Rows' w B sz v rows) :
  ∃ A c, v = .slice A rows.length c /\ rows.length <= c /\ rows.length <= 9223372036854775807 := by
 obtain ⟨A, c, rfl, hc, hm, _⟩ := h;exact ⟨A, c, rfl, hc, hm⟩
theorem Rows'.take {w : World} {B sz n c : Nat} {A : Option Addr} {rows : List (List Value)} (h : Rows' w B sz (.slice A n c) rows) {k : Nat} (hk : k <= rows.length) :
  Rows' w B sz (.slice A k c) (rows.take k) := by
 obtain ⟨A', c', e, hc, hm, h⟩ := h;cases e;have hl : (rows.take k).length = k := by simp; omega
 refine ⟨A, c, by rw [hl], by omega, by omega, fun hn => ?_⟩;obtain ⟨b, off, rfl, hlt, h⟩ := h (fun e => by subst e; simp at hn);refine ⟨b, off, rfl, hlt, fun i r hi j u hj => h i r ?_ j u hj⟩;rw [List.getElem?_take] at hi
 by_cases hik : i < k
 ·rwa [if_pos hik] at hi
 ·rw [if_neg hik] at hi; cases hi
theorem Ones.below {w w' : World} {B : Nat} {v : Value} {xs : List Value} (h : Ones w B v xs) (hb : Below B w w') : Ones w' B v xs := Rows'.below h hb
theorem ret_bool {a b : Bool} (h : a = b) : Ending.returned (.bool a) = .returned (.bool b) := by rw [h]
section
variable {P : Program} {ops : Array Oper} {Q : Exit -> Act -> World -> Prop} {n : Nat} {w0 : World}
def Ext (w w' : World) : Prop := Below w.heap.size w w'
theorem Ext.refl (w : World) : Ext w w := Below.refl _ _
theorem Ext.trans {a b c : World} (h : Ext a b) (k : Ext b c) : Ext a c := Below.trans h (Below.mono k (Below.size h))
theorem Below.ext {a b : World} (h : Below n w0 a) (hn : n <= a.heap.size) (k : Ext a b) : Below n w0 b := Below.trans h (Below.mono k hn)
def Yields1 (P : Program) (v : Value) (w1 : World) : Result Next -> Prop
 | .ok (.value u) w2 => u = v /\ Ext w1 w2
 | .ok .skip w2 => v = undef /\ Ext w1 w2
 | .ok (.enter f args) w2 => Calls P f args w2 fun e w3 => e = .returned v /\ Ext w1 w3
 | .ok (.row row args) w2 => Rows P row args w2 fun u w3 => u = v /\ Ext w1 w3
 | _ => False
theorem Yields1.upon {o : Oper} {v : Value} {w1 : World} {a : Act} {r : Result Next} (h : Yields1 P v w1 r) {K : Act -> World -> Prop} (hK : ∀ w2, Ext w1 w2 -> K (a.put o.dst v) w2) : o.upon P a K Q r := by
 cases r with
 | ok x w2 =>
  cases x <;> simp only [Yields1] at h
  case value u => obtain ⟨rfl, hb⟩ := h; exact hK _ hb
  case skip => obtain ⟨rfl, hb⟩ := h; exact hK _ hb
  case enter f args => exact Calls.mono h fun e w3 ⟨he, hb⟩ => by subst he; exact hK _ hb
  case row row args => exact Rows.mono h fun u w3 ⟨he, hb⟩ => by subst he; exact hK _ hb
 | halt x w2 => exact h.elim
def Taken (P : Program) (ops : Array Oper) (n : Nat) (w0 : World) (o : Oper) (v : Value) (a : Act) : Prop :=
 (Region.wanted o (yielded ops a.tmps) = true /\ ∀ w1, Below n w0 w1 -> n <= w1.heap.size -> Yields1 P v w1 ((execOp a.eval o).run P w1)) \/ (Region.wanted o (yielded ops a.tmps) = false /\ v = undef)
theorem Taken.wpOp {i : Nat} {o : Oper} {v : Value} {a : Act} (hi : ops[i]? = some o) (hy : Taken P ops n w0 o v a)
  {K : Act -> World -> Prop} {w : World} (hS : Below n w0 w) (hn : n <= w.heap.size) (h : ∀ w2, Ext w w2 -> K (a.put o.dst v) w2) : wpOp P ops Q i K a w := by
 unfold Go.wpOp;simp only [hi];rcases hy with ⟨hw, hv⟩ | ⟨hw, rfl⟩
 ·simp only [hw, if_true, Oper.wp]; exact .inl ((hv w hS hn).upon h)
 ·simp only [hw, Bool.false_eq_true, if_false]; exact h w (Ext.refl w)
def Y3c (ops : Array Oper) (j : Nat) : Bool :=
 match ops[j]? with
 | none => false
 | some oj => (List.range ops.size).all fun k => k == j || oj.after.any fun e => Region.binds .any e && e.on == k
def wpX (P : Program) (ops : Array Oper) (Q : Exit -> Act -> World -> Prop) (n : Nat) (w0 : World) : Nat -> Array Bool -> Act -> World -> Prop
 | 0, listed, a, w => ∀ w1, Ext w w1 -> Region.ready .any ops listed = [] /\ Q .normal a w1
 | fuel + 1, listed, a, w => ∀ w1, Ext w w1 -> (Region.ready .any ops listed = [] -> Q .normal a w1) /\
  ∀ i ∈ Region.ready .any ops listed, wpOp P ops Q i (fun a' w' => ((Below n w0 w' /\ n <= w'.heap.size) \/ Y3c ops i = true) /\ wpX P ops Q n w0 fuel (listed.setIfInBounds i true) a' w') a w1
theorem wpX.ext {fuel : Nat} {listed : Array Bool} {a : Act} {w w1 : World} (h : wpX P ops Q n w0 fuel listed a w) (he : Ext w w1) : wpX P ops Q n w0 fuel listed a w1 := by
 cases fuel with
 | zero => exact fun w2 h2 => h w2 (he.trans h2)
 | succ f => exact fun w2 h2 => h w2 (he.trans h2)
end
theorem Yp (b off j : Nat) : (⟨b, off, none⟩ : Addr).add j = ⟨b, off + j, none⟩ := by unfold Addr.add; split <;> simp_all
theorem Yj6 {w : World} {g k : Nat} {cs : Array Value} {e : TypeId} {v : Value} (h : w.heap[g]? = some (.cells cs e (0, 0))) (hv : cs[k]? = some v) : w.cell? ⟨g, k, none⟩ = some v := by
 rw [cell_of_row w g k cs e (0, 0) h]; exact hv
theorem Ysz {w : World} {g : Nat} {cs : Array Value} {e : TypeId} (h : w.heap[g]? = some (.cells cs e (0, 0))) (k : Nat) : w.frozen? ⟨g, k, none⟩ = false := by
 simp [World.frozen?, h]
theorem Yiy {w : World} {g k : Nat} {cs : Array Value} {e : TypeId} {v : Value} (h : w.heap[g]? = some (.cells cs e (0, 0))) : (w.setCell ⟨g, k, none⟩ v).heap[g]? = some (.cells (cs.setIfInBounds k v) e (0, 0)) := by
 simp [World.setCell, Array.getElem?_modify, h]
theorem Yix {w : World} {p : Addr} {v : Value} {g : Nat} (h : g ≠ p.block) : (w.setCell p v).heap[g]? = w.heap[g]? := Below.heap_setCell w p v g h
theorem Ylb (w : World) (p : Addr) (v : Value) : (w.setCell p v).heap.size = w.heap.size := by simp [World.setCell]
inductive Res where
 | blk (b : Nat) (o : Obj)
 | row (v : Value) (e : TypeId) (sz n : Nat) (xs : List Value)
 | abs (own : List Nat) (fz : Nat -> Prop) (p : World -> Prop)
def Res.foot : Res -> List Nat
 | .blk b _ => [b]
 | .row v .. => v.ownBlock.toList
 | .abs own _ _ => own
def Res.frz : Res -> Nat -> Prop
 | .abs _ fz _ => fz
 | _ => fun _ => False
def Res.holds (w : World) : Res -> Prop
 | .blk b o => w.heap[b]? = some o
 | .row v e sz n xs => w.ownsRow 0 e sz v n xs
 | .abs own fz p => (∀ b, b ∈ own \/ fz b -> b < w.heap.size) /\ (∀ b ∈ own, ¬ fz b) /\ ∀ w' : World, (∀ b, b ∈ own \/ fz b -> w'.heap[b]? = w.heap[b]?) -> p w'
def Res.in_ (r : Res) (b : Nat) : Prop := b ∈ r.foot \/ r.frz b
abbrev RL := List Res
def apart (r r' : Res) : Prop := (∀ b ∈ r.foot, ¬ r'.in_ b) /\ ∀ b ∈ r'.foot, ¬ r.in_ b
theorem apart.symm {r r' : Res} (h : apart r r') : apart r' r := ⟨h.2, h.1⟩
inductive Look : RL -> Res -> Prop
 | head {r : Res} {L : RL} : Look (r :: L) r
 | tail {x r : Res} {L : RL} (h : Look L r) : Look (x :: L) r
inductive Upd : RL -> Res -> Res -> RL -> Prop
 | head {r r' : Res} {L : RL} : Upd (r :: L) r r' (r' :: L)
 | tail {x r r' : Res} {L L' : RL} (h : Upd L r r' L') : Upd (x :: L) r r' (x :: L')
inductive Take : RL -> Res -> RL -> Prop
 | head {r : Res} {L : RL} : Take (r :: L) r L
 | tail {x r : Res} {L L' : RL} (h : Take L r L') : Take (x :: L) r (x :: L')
theorem Look.mem {L : RL} {r : Res} (h : Look L r) : r ∈ L := by
 induction h with
 | head => exact List.mem_cons_self
 | tail _ ih => exact List.mem_cons_of_mem _ ih
theorem Take.perm {L L' : RL} {r : Res} (h : Take L r L') : L.Perm (r :: L') := by
 induction h with
 | head => exact List.Perm.refl _
 | tail _ ih => exact (List.Perm.cons _ ih).trans (List.Perm.swap _ _ _)
theorem Upd.look {L L' : RL} {r r' : Res} (h : Upd L r r' L') : Look L r := by
 induction h with
 | head => exact .head
 | tail _ ih => exact .tail ih
theorem Upd.perm {L L' : RL} {r r' : Res} (h : Upd L r r' L') : ∃ R, L.Perm (r :: R) /\ L'.Perm (r' :: R) := by
 induction h with
 | head => exact ⟨_, List.Perm.refl _, List.Perm.refl _⟩
 | tail _ ih =>
  obtain ⟨R, h1, h2⟩ := ih;exact ⟨_ :: R, (List.Perm.cons _ h1).trans (List.Perm.swap _ _ _), (List.Perm.cons _ h2).trans (List.Perm.swap _ _ _)⟩
theorem Res.lt2 {w : World} {r : Res} (h : r.holds w) : ∀ b, r.in_ b -> b < w.heap.size := by
 intro b hb;cases r with
 | abs own fz p => exact h.1 b hb
 | blk b' o =>
  have hb := hb.resolve_right (fun h => False.elim h);simp only [Res.foot, List.mem_singleton] at hb;subst hb;exact (Array.getElem?_eq_some_iff.1 h).1
 | row v e sz n xs =>
  have hb := hb.resolve_right (fun h => False.elim h);simp only [Res.foot, Option.mem_toList] at hb;exact (World.ownsRow.lt h b hb).2
theorem Res.lt {w : World} {r : Res} (h : r.holds w) : ∀ b ∈ r.foot, b < w.heap.size := fun b hb => Res.lt2 h b (.inl hb)
theorem Res.keep {w w' : World} {r : Res} (h : r.holds w) (hk : ∀ b, r.in_ b -> w'.heap[b]? = w.heap[b]?) : r.holds w' := by
 cases r with
 | abs own fz p =>
  refine ⟨fun b hb => ?_, h.2.1, fun w2 h2 => h.2.2 w2 fun b hb => (h2 b hb).trans (hk b hb)⟩;have h1 := h.1 b hb;have h2 := hk b hb;rcases Nat.lt_or_ge b w'.heap.size with h3 | h3
  ·exact h3
  ·rw [Array.getElem?_eq_none h3, Array.getElem?_eq_getElem h1] at h2; cases h2
 | blk b o => exact (hk b (.inl (by simp [Res.foot]))).trans h
 | row v e sz n xs =>
  refine ⟨h.1, ?_⟩;rcases h.2 with h2 | ⟨g, cap, cur, rfl, hb, hg, r⟩
  ·exact .inl h2
  ·exact .inr ⟨g, cap, cur, rfl, hb, (hk g (.inl (by simp [Res.foot, Value.ownBlock]))).trans hg, r⟩
structure Kept (n : Nat) (M : List Nat) (w w' : World) : Prop where
 os : w'.os = w.os
 tape : w'.tape = w.tape
 output : w'.output = w.output
 size : w.heap.size <= w'.heap.size
 block : ∀ k, k < n -> k ∉ M -> w'.heap[k]? = w.heap[k]?
theorem Kept.below {n : Nat} {w w' : World} (h : Kept n [] w w') : Below n w w' := ⟨h.os, h.tape, h.output, h.size, fun k hk => h.block k hk (by simp)⟩
theorem Kept.of {n : Nat} {M : List Nat} {w w' : World} (h : Below n w w') : Kept n M w w' := ⟨h.os, h.tape, h.output, h.size, fun k hk _ => h.block k hk⟩
theorem Kept.trans {n m : Nat} {M M' : List Nat} {a b c : World} (h : Kept n M a b) (h' : Kept m M' b c) (hn : n <= m) (hM : ∀ k, k < n -> k ∈ M' -> k ∈ M) : Kept n M a c :=
 ⟨h'.os.trans h.os, h'.tape.trans h.tape, h'.output.trans h.output, Nat.le_trans h.size h'.size, fun k hk hm => (h'.block k (by omega) (fun h2 => hm (hM k hk h2))).trans (h.block k hk hm)⟩
theorem Kept.belowOf {n B : Nat} {M : List Nat} {w w' : World} (h : Kept n M w w') (hB : B <= n) (hM : ∀ k ∈ M, B <= k) : Below B w w' :=
 ⟨h.os, h.tape, h.output, h.size, fun k hk => h.block k (by omega) (fun h2 => by have := hM k h2; omega)⟩
class InW where
 w : World
 B : Nat
 F : Nat -> Prop
 lt : ∀ b, F b -> b < B
variable [InW]
structure InOk (w0 : World) (M : List Nat) : Prop where
 base : InW.B <= w0.heap.size
 mine : ∀ b ∈ M, InW.B <= b
 below : Below InW.B InW.w w0
theorem InOk.sub {w0 : World} {M M' : List Nat} (h : InOk w0 M) (hM : ∀ b ∈ M', b ∈ M) : InOk w0 M' := ⟨h.base, fun b hb => h.mine b (hM b hb), h.below⟩
structure St (w0 : World) (M : List Nat) (L : RL) (w : World) : Prop where
 kept : Kept w0.heap.size M w0 w
 has : ∀ r ∈ L, r.holds w
 own : ∀ r ∈ L, ∀ b ∈ r.foot, w0.heap.size <= b \/ b ∈ M
 sep : L.Pairwise apart
 inw : InOk w0 M
 fz : ∀ r ∈ L, ∀ b, r.frz b -> w0.heap.size <= b \/ b ∈ M \/ InW.F b
section
variable {w0 w w' : World} {M : List Nat} {L L' : RL}
theorem St.start (w : World) (h : InOk w []) : St w [] [] w := ⟨Kept.of (Below.refl _ _), by simp, by simp, List.Pairwise.nil, h, by simp⟩
theorem St.size (h : St w0 M L w) : w0.heap.size <= w.heap.size := h.kept.size
theorem St.belowIn (h : St w0 M L w) : Below InW.B InW.w w := h.inw.below.trans (Kept.belowOf h.kept h.inw.base h.inw.mine)
theorem St.inNow (h : St w0 M L w) {M' : List Nat} (hM : ∀ b ∈ M', w0.heap.size <= b \/ b ∈ M) : InOk w M' :=
 ⟨Nat.le_trans h.inw.base h.kept.size, fun b hb => (hM b hb).elim (fun h1 => Nat.le_trans h.inw.base h1) (h.inw.mine b), h.belowIn⟩
theorem St.inNow0 (h : St w0 M L w) : InOk w [] := h.inNow (by simp)
theorem St.look (h : St w0 M L w) {r : Res} (hl : Look L r) : r.holds w := h.has _ hl.mem
theorem St.blk (h : St w0 M L w) {b : Nat} {o : Obj} (hl : Look L (.blk b o)) : w.heap[b]? = some o := h.has _ hl.mem
theorem St.row (h : St w0 M L w) {v : Value} {e : TypeId} {sz n : Nat} {xs : List Value} (hl : Look L (.row v e sz n xs)) : w.ownsRow 0 e sz v n xs := h.has _ hl.mem
theorem St.cell (h : St w0 M L w) {b k : Nat} {cs : Array Value} {e : TypeId} {v : Value} (hl : Look L (.blk b (.cells cs e (0, 0)))) (hv : cs[k]? = some v) : w.cell? ⟨b, k, none⟩ = some v := Yj6 (h.blk hl) hv
theorem St.old (h : St w0 M L w) {p : Addr} {v : Value} (hp : p.block < w0.heap.size) (hm : p.block ∉ M) (hv : w0.cell? p = some v) : w.cell? p = some v :=
 (World.cell?_of_block (h.kept.block _ hp hm)).trans hv
theorem St.perm (h : St w0 M L w) (hp : L.Perm L') : St w0 M L' w :=
 ⟨h.kept, fun r hr => h.has r (hp.mem_iff.2 hr), fun r hr => h.own r (hp.mem_iff.2 hr), (hp.pairwise_iff (fun h => apart.symm h)).1 h.sep, h.inw, fun r hr => h.fz r (hp.mem_iff.2 hr)⟩
theorem St.sub (h : St w0 M L w) (hs : L'.Sublist L) : St w0 M L' w :=
 ⟨h.kept, fun r hr => h.has r (hs.subset hr), fun r hr => h.own r (hs.subset hr), h.sep.sublist hs, h.inw, fun r hr => h.fz r (hs.subset hr)⟩
theorem St.drop {r : Res} (h : St w0 M (r :: L) w) : St w0 M L w := h.sub (List.sublist_cons_self _ _)
theorem St.one (h : St w0 M L w) {r : Res} (hl : Look L r) : St w0 M [r] w :=
 ⟨h.kept, fun x hx => by rw [List.mem_singleton] at hx; subst hx; exact h.look hl, fun x hx => by rw [List.mem_singleton] at hx; subst hx; exact h.own _ hl.mem, by simp, h.inw, fun x hx => by rw [List.mem_singleton] at hx; subst hx; exact h.fz _ hl.mem⟩
theorem St.without (h : St w0 M L w) {r : Res} (ht : Take L r L') : St w0 M L' w := (h.perm ht.perm).drop
theorem St.farF (h : St w0 M L w) {x : Res} (hx : x ∈ L) {b : Nat} (hb : b ∈ x.foot) : ¬ InW.F b := fun hf => by
 have h1 := InW.lt b hf;have h2 := h.inw.base;rcases h.own x hx b hb with h3 | h3
 ·omega
 ·have := h.inw.mine b h3; omega
theorem St.upd (h : St w0 M L w) {r r' : Res} (hu : Upd L r r' L') (hk : Kept w.heap.size r.foot w w') (hr : r'.holds w') (hf : ∀ b ∈ r'.foot, b ∈ r.foot \/ w.heap.size <= b)
  (hz : ∀ b, r'.frz b -> r.in_ b \/ w.heap.size <= b \/ InW.F b := by exact fun b hb => False.elim hb) : St w0 M L' w' := by
 obtain ⟨R, h1, h2⟩ := hu.perm;have g := h.perm h1;have hown := g.own r List.mem_cons_self;have hsep := List.pairwise_cons.1 g.sep;refine St.perm (L := r' :: R) ⟨g.kept.trans hk h.size (fun k hk' hm => (hown k hm).resolve_left (by omega)), ?_, ?_, ?_, h.inw, ?_⟩ h2.symm
 ·intro x hx;rcases List.mem_cons.1 hx with rfl | hx
  ·exact hr
  ·have hx' := g.has x (List.mem_cons_of_mem _ hx);exact Res.keep hx' fun b hb => hk.block b (Res.lt2 hx' b hb) (fun hb' => (hsep.1 x hx).1 b hb' hb)
 ·intro x hx;rcases List.mem_cons.1 hx with rfl | hx
  ·intro b hb;rcases hf b hb with h' | h'
   ·exact hown b h'
   ·exact .inl (Nat.le_trans h.size h')
  ·exact g.own x (List.mem_cons_of_mem _ hx)
 ·refine List.Pairwise.cons (fun x hx => ⟨fun b hb hb' => ?_, fun b hb hb' => ?_⟩) hsep.2
  ·rcases hf b hb with h' | h'
   ·exact (hsep.1 x hx).1 b h' hb'
   ·have := Res.lt2 (g.has x (List.mem_cons_of_mem _ hx)) b hb';omega
  ·have hlt := Res.lt (g.has x (List.mem_cons_of_mem _ hx)) b hb;rcases hb' with hb' | hb'
   ·rcases hf b hb' with h' | h'
    ·exact (hsep.1 x hx).2 b hb (.inl h')
    ·omega
   ·rcases hz b hb' with h' | h' | h'
    ·exact (hsep.1 x hx).2 b hb h'
    ·omega
    ·exact g.farF (List.mem_cons_of_mem _ hx) hb h'
 ·intro x hx b hb;rcases List.mem_cons.1 hx with rfl | hx
  ·rcases hz b hb with h' | h' | h'
   ·rcases h' with h' | h'
    ·rcases hown b h' with h2 | h2
     ·exact .inl h2
     ·exact .inr (.inl h2)
    ·exact g.fz r List.mem_cons_self b h'
   ·exact .inl (Nat.le_trans h.size h')
   ·exact .inr (.inr h')
  ·exact g.fz x (List.mem_cons_of_mem _ hx) b hb
theorem St.ext (h : St w0 M L w) (he : Ext w w') : St w0 M L w' :=
 ⟨h.kept.trans (Kept.of (M := []) he) h.size (by simp), fun r hr => Res.keep (h.has r hr) fun b hb => he.block b (Res.lt2 (h.has r hr) b hb), h.own, h.sep, h.inw, h.fz⟩
theorem St.drew (h : St w0 M L w) : St w0 M L w.drew := h.ext ((Below.refl _ _).drew)
theorem St.call (h : St w0 M (L ++ L') w) {L2 : RL} (hc : St w (L.flatMap Res.foot) L2 w') : St w0 M (L2 ++ L') w' := by
 have hsep := List.pairwise_append.1 h.sep;have hfar : ∀ x ∈ L', ∀ b, x.in_ b -> b ∉ L.flatMap Res.foot := fun x hx b hb hm => by
  obtain ⟨r, hr, hb'⟩ := List.mem_flatMap.1 hm;exact (hsep.2.2 r hr x hx).1 b hb' hb
 refine ⟨h.kept.trans hc.kept h.size (fun k hk hm => ?_), ?_, ?_, ?_, h.inw, ?_⟩
 ·obtain ⟨r, hr, hb⟩ := List.mem_flatMap.1 hm;exact (h.own r (List.mem_append_left _ hr) k hb).resolve_left (by omega)
 ·intro x hx;rcases List.mem_append.1 hx with hx | hx
  ·exact hc.has x hx
  ·have hx' := h.has x (List.mem_append_right _ hx);exact Res.keep hx' fun b hb => hc.kept.block b (Res.lt2 hx' b hb) (hfar x hx b hb)
 ·intro x hx b hb;rcases List.mem_append.1 hx with hx | hx
  ·rcases hc.own x hx b hb with h' | h'
   ·exact .inl (Nat.le_trans h.size h')
   ·obtain ⟨r, hr, hb'⟩ := List.mem_flatMap.1 h';exact h.own r (List.mem_append_left _ hr) b hb'
  ·exact h.own x (List.mem_append_right _ hx) b hb
 ·refine List.pairwise_append.2 ⟨hc.sep, hsep.2.1, fun x hx y hy => ⟨fun b hb hb' => ?_, fun b hb hb' => ?_⟩⟩
  ·rcases hc.own x hx b hb with h' | h'
   ·have := Res.lt2 (h.has y (List.mem_append_right _ hy)) b hb';omega
   ·exact hfar y hy b hb' h'
  ·have hlt := Res.lt (h.has y (List.mem_append_right _ hy)) b hb;rcases hb' with hb' | hb'
   ·rcases hc.own x hx b hb' with h' | h'
    ·omega
    ·exact hfar y hy b (.inl hb) h'
   ·rcases hc.fz x hx b hb' with h' | h' | h'
    ·omega
    ·exact hfar y hy b (.inl hb) h'
    ·exact h.farF (List.mem_append_right _ hy) hb h'
 ·intro x hx b hb;rcases List.mem_append.1 hx with hx | hx
  ·rcases hc.fz x hx b hb with h' | h' | h'
   ·exact .inl (Nat.le_trans h.size h')
   ·obtain ⟨r, hr, hb'⟩ := List.mem_flatMap.1 h';rcases h.own r (List.mem_append_left _ hr) b hb' with h2 | h2
    ·exact .inl h2
    ·exact .inr (.inl h2)
   ·exact .inr (.inr h')
  ·exact h.fz x (List.mem_append_right _ hx) b hb
theorem St.more (h : St w0 M L w) {L2 : RL} (hc : St w [] L2 w') : St w0 M (L2 ++ L) w' := St.call (L := []) (L' := L) h hc
theorem St.alloc (h : St w0 M L w) (o : Obj) : St w0 M (.blk w.heap.size o :: L) (w.alloc o) := by
 refine St.more (L2 := [.blk w.heap.size o]) h ⟨Kept.of ((Below.refl _ _).alloc (Nat.le_refl _) _), ?_, ?_, by simp, h.inNow0, ?_⟩
 ·intro r hr;rw [List.mem_singleton] at hr;subst hr;exact heap_alloc_new w o
 ·intro r hr b hb;rw [List.mem_singleton] at hr;subst hr;simp [Res.foot] at hb;exact .inl (by omega)
 ·intro r hr b hb;rw [List.mem_singleton] at hr;subst hr;exact False.elim hb
theorem St.add (h : St w0 M L w) (he : Ext w w') {r : Res} (hr : r.holds w') (hb : ∀ b ∈ r.foot, w.heap.size <= b) (hz : ∀ b, r.frz b -> w.heap.size <= b \/ InW.F b := by exact fun b hb => False.elim hb) : St w0 M (r :: L) w' :=
 St.more (L2 := [r]) h ⟨Kept.of he, by simpa using hr, fun r' hr' b hb' => by rw [List.mem_singleton] at hr'; subst hr'; exact .inl (hb b hb'), by simp, h.inNow0,
  fun r' hr' b hb' => by rw [List.mem_singleton] at hr'; subst hr'; exact (hz b hb').elim .inl fun h => .inr (.inr h)⟩
theorem St.repack {L1 R L2 : RL} (h : St w0 M (L1 ++ R) w) (hh : ∀ r ∈ L2, r.holds w) (hf : ∀ r ∈ L2, ∀ b ∈ r.foot, ∃ q ∈ L1, b ∈ q.foot) (hz : ∀ r ∈ L2, ∀ b, r.frz b -> InW.F b \/ ∃ q ∈ L1, q.in_ b) (hs : L2.Pairwise apart) : St w0 M (L2 ++ R) w := by
 have hsep := List.pairwise_append.1 h.sep;refine ⟨h.kept, ?_, ?_, ?_, h.inw, ?_⟩
 ·intro x hx;rcases List.mem_append.1 hx with hx | hx
  ·exact hh x hx
  ·exact h.has x (List.mem_append_right _ hx)
 ·intro x hx b hb;rcases List.mem_append.1 hx with hx | hx
  ·obtain ⟨q, hq, hb⟩ := hf x hx b hb;exact h.own q (List.mem_append_left _ hq) b hb
  ·exact h.own x (List.mem_append_right _ hx) b hb
 ·refine List.pairwise_append.2 ⟨hs, hsep.2.1, fun x hx y hy => ⟨fun b hb hb' => ?_, fun b hb hb' => ?_⟩⟩
  ·obtain ⟨q, hq, hb⟩ := hf x hx b hb;exact (hsep.2.2 q hq y hy).1 b hb hb'
  ·rcases hb' with hb' | hb'
   ·obtain ⟨q, hq, hb'⟩ := hf x hx b hb';exact (hsep.2.2 q hq y hy).2 b hb (.inl hb')
   ·rcases hz x hx b hb' with h' | ⟨q, hq, h'⟩
    ·exact h.farF (List.mem_append_right _ hy) hb h'
    ·exact (hsep.2.2 q hq y hy).2 b hb h'
 ·intro x hx b hb;rcases List.mem_append.1 hx with hx | hx
  ·rcases hz x hx b hb with h' | ⟨q, hq, h'⟩
   ·exact .inr (.inr h')
   ·rcases h' with h' | h'
    ·rcases h.own q (List.mem_append_left _ hq) b h' with h2 | h2
     ·exact .inl h2
     ·exact .inr (.inl h2)
    ·exact h.fz q (List.mem_append_left _ hq) b h'
  ·exact h.fz x (List.mem_append_right _ hx) b hb
end
def Yis (P : Program) (e : TypeId) : Option (Array Value) := (P.info? e).bind fun i => i.zero.map Value.cells
def Ycd (P : Program) (e : TypeId) (n : Nat) : Prop := (P.info? e).map (·.size) = some n
def Yfp (P : Program) (e : TypeId) (b : Bool) : Prop := ((P.underlying e).map fun d => match d with | .struct _ | .array _ _ => true | _ => false) = some b
section
variable {P : Program} {w0 w w' : World} {M : List Nat} {L L' : RL}
theorem Yc2 {e : TypeId} {b : Bool} (h : Yfp P e b) (w : World) : (isAgg e).run P w = .ok b w := by
 unfold Yfp at h;cases hu : P.underlying e with
 | none => simp [hu] at h
 | some d =>
  simp only [hu, Option.map_some, Option.some.injEq] at h;unfold isAgg;rw [Sem.run_bind, run_underlying hu w];cases d <;> simp_all
theorem Ybc {e : TypeId} {n : Nat} (h : Ycd P e n) (w : World) : (sizeOf e).run P w = .ok n w := by
 unfold Ycd at h;cases hi : P.info? e with
 | none => simp [hi] at h
 | some i =>
  simp only [hi, Option.map_some, Option.some.injEq] at h;simp [sizeOf, typeInfo, hi, h]
def Yog (w : World) (b off : Nat) (vs : List Value) : Prop := ∀ j u, vs[j]? = some u -> w.cell? ⟨b, off + j, none⟩ = some u
theorem Ycx {e : TypeId} {p : Addr} {v : Value} (ha : Yfp P e false) (hc : w.cell? p = some v) : (Instr.loadAt e (.pointer (some p))).run P w = .ok v w := by
 simp [Instr.loadAt, Instr.sureAddr, loadVar, Sem.run_bind, Yc2 ha, hc]
theorem Yds {e : TypeId} {b off n : Nat} {vs : List Value} (ha : Yfp P e true) (hs : Ycd P e n) (hn : vs.length = n) (hc : Yog w b off vs) : (Instr.loadAt e (.pointer (some ⟨b, off, none⟩))).run P w = .ok (.agg vs.toArray) w := by
 have hl : (loadCells ⟨b, off, none⟩ vs.length).run P w = .ok vs.toArray w :=
  run_loadCells_list (P := P) w ⟨b, off, none⟩ vs (fun j v hv => by rw [Yp]; exact hc j v hv)
 rw [hn] at hl;simp [Instr.loadAt, Instr.sureAddr, loadVar, Sem.run_bind, Yc2 ha, Ybc hs, hl]
theorem Y52 {e : TypeId} {cs : Array Value} (hz : Yis P e = some cs) : (Instr.alloc e true (.tuple #[])).run P w = .ok (.pointer (some ⟨w.heap.size, 0, none⟩)) (w.alloc (.cells cs e)) := by
 unfold Yis at hz;cases hi : P.info? e with
 | none => simp [hi] at hz
 | some i =>
  simp only [hi, Option.bind_some, Option.map_eq_some_iff] at hz;obtain ⟨z, hz, rfl⟩ := hz;simp [Instr.alloc, zeroValue, typeInfo, hi, hz, newVar, newRow]
theorem Y0m {e : TypeId} {v : Value} : (Instr.box e v).run P w = .ok (.pointer (some ⟨w.heap.size, 0, none⟩)) (w.alloc (.cells v.cells e)) := by
 simp [Instr.box, newVar, newRow]
def nthO : List Value -> Nat -> Option Value
 | [], _ => some undef
 | x :: _, 0 => some x
 | _ :: xs, n + 1 => nthO xs n
def Yc8 (a : Act) : Operand -> Option Value
 | .tmp t => nthO a.tmps.toList t
 | .const v => some v
 | .global g => some (.pointer (some ⟨g, 0, none⟩))
 | .func f => some (.func (.func f) #[] #[])
theorem Ygv (l : List Value) : ∀ t, nthO l t = some (l.getD t undef) := by
 induction l with
 | nil => intro t; rfl
 | cons x xs ih =>
  intro t;cases t with
  | zero => rfl
  | succ t => simp only [nthO, ih, List.getD_cons_succ]
theorem Yr {a : Act} {x : Operand} {v : Value} (h : Yc8 a x = some v) : a.eval x = v := by
 cases x with
 | tmp t =>
  simp only [Yc8, Ygv, Option.some.injEq] at h;subst h;simp [Act.eval, Array.getD_eq_getD_getElem?, List.getD_eq_getElem?_getD]
 | const v' => simpa [Yc8, Act.eval] using h
 | global g => simpa [Yc8, Act.eval] using h
 | func f => simpa [Yc8, Act.eval] using h
def AllAt (cs : Array Value) (k : Nat) : List Value -> Prop
 | [] => True
 | v :: vs => nthO cs.toList k = some v /\ Nat.blt k cs.size = true /\ AllAt cs (k + 1) vs
theorem AllAt.at_ {cs : Array Value} : ∀ {vs : List Value} {k : Nat}, AllAt cs k vs -> ∀ j u, vs[j]? = some u -> cs[k + j]? = some u := by
 intro vs
 induction vs with
 | nil => intro k _ j u hj; simp at hj
 | cons v vs ih =>
  intro k h j u hj;obtain ⟨h1, h2, h3⟩ := h
  replace h2 : k < cs.size := by simpa [Nat.blt_eq] using h2
  cases j with
  | zero =>
   simp only [List.getElem?_cons_zero, Option.some.injEq] at hj;subst hj;rw [Ygv] at h1;simp [List.getD_eq_getElem?_getD, h2] at h1;simp [h2, h1]
  | succ j =>
   have := ih h3 j u (by simpa using hj);rw [show k + (j + 1) = k + 1 + j by omega];exact this
theorem Y4a {cs : Array Value} {p : Nat} {v : Value} (hv : nthO cs.toList p = some v) (hp : Nat.blt p cs.size = true) : cs[p]? = some v := by
 replace hp : p < cs.size := by simpa [Nat.blt_eq] using hp
 rw [Ygv] at hv;simpa [List.getD_eq_getElem?_getD, hp] using hv
variable {K : Act -> World -> Prop} {Q : Exit -> Act -> World -> Prop} {a : Act} {dst : Option Tmp} {type : TypeId} {pos : String} {after : Array Edge} {guard : Option (Nat × Bool)}
theorem Y3o {e : TypeId} {cs : Array Value} (h : St w0 M L w) (hz : Yis P e = some cs) (kk : ∀ b w', St w0 M (.blk b (.cells cs e (0, 0)) :: L) w' -> K (a.put dst (.pointer (some ⟨b, 0, none⟩))) w') :
  Oper.wp P { dst, op := .alloc e, type, pos, after, guard } a w K Q := by
 unfold Oper.wp execOp;simp only [Sem.run_bind, Y52 hz, Result.andThen_ok, Sem.run_pure, Oper.upon];exact kk _ _ (h.alloc _)
def Yb9 (cs : Array Value) (k : Nat) : List Value -> Array Value
 | [] => cs
 | v :: vs => Yb9 (cs.setIfInBounds k v) (k + 1) vs
theorem Ygi (vs : List Value) : ∀ (cs : Array Value) (k : Nat), (Yb9 cs k vs).size = cs.size := by
 induction vs with
 | nil => intro cs k; rfl
 | cons v vs ih => intro cs k; simp [Yb9, ih]
theorem Ybx {b : Nat} {e : TypeId} : ∀ (vs : List Value) (i off : Nat) (cs : Array Value) (w : World), w.heap[b]? = some (.cells cs e (0, 0)) -> off + i + vs.length <= cs.size -> (∀ v ∈ vs, v.oneCell' = true) ->
  ∃ w', (storeCells ⟨b, off, none⟩ vs i).run P w = .ok () w' /\ w'.heap[b]? = some (.cells (Yb9 cs (off + i) vs) e (0, 0)) /\ w'.heap.size = w.heap.size /\ (w'.os = w.os /\ w'.tape = w.tape /\ w'.output = w.output) /\ ∀ k, k ≠ b -> w'.heap[k]? = w.heap[k]?
 | [], i, off, cs, w, hg, _, _ => ⟨w, rfl, hg, rfl, ⟨rfl, rfl, rfl⟩, fun _ _ => rfl⟩
 | v :: vs, i, off, cs, w, hg, hl, h1 => by
  have hlt : off + i < cs.size := by simp at hl; omega
  have hc : w.cell? ⟨b, off + i, none⟩ = some cs[off + i] := Yj6 hg (by simp [hlt]);have hf : w.frozen? ⟨b, off + i, none⟩ = false := Ysz hg _;have hone := h1 v List.mem_cons_self;obtain ⟨w', hr, hb, hs, hm, hk⟩ := Ybx vs (i + 1) off (cs.setIfInBounds (off + i) v) (w.setCell ⟨b, off + i, none⟩ v) (Yiy hg) (by simp at hl ⊢; omega) (fun u hu => h1 u (List.mem_cons_of_mem _ hu));refine ⟨w', ?_, hb, by rw [hs, Ylb], hm, fun k hk' => (hk k hk').trans (Yix hk')⟩;have hst : ∀ (k : Sem Unit), (Sem.store .plain ⟨b, off + i, none⟩ v k).run P w = k.run P (w.setCell ⟨b, off + i, none⟩ v) := by
   intro k;cases v <;> simp [Value.oneCell'] at hone <;> simp [Sem.run, hc, hf]
  simp only [storeCells, Yp]
  show ((store ⟨b, off + i, none⟩ v).bind _).run P w = _
  simp only [store, Sem.bind];rw [hst];exact hr
def SliceOf (P : Program) (T e : TypeId) (sz by_ : Nat) (zs : Array Value) : Prop :=
 P.underlying T = some (.slice e) /\ (P.info? e).map (fun i => (i.zero.map Value.cells, i.size, i.bytes)) = some (some zs, sz, by_)
theorem SliceOf.parts {T e : TypeId} {sz by_ : Nat} {zs : Array Value} (h : SliceOf P T e sz by_ zs) : ∃ i z, P.info? e = some i /\ i.zero = some z /\ z.cells = zs /\ i.size = sz /\ i.bytes = by_ := by
 obtain ⟨_, h⟩ := h;cases hi : P.info? e with
 | none => simp [hi] at h
 | some i =>
  simp only [hi, Option.map_some, Option.some.injEq, Prod.mk.injEq, Option.map_eq_some_iff] at h;obtain ⟨⟨z, hz, hc⟩, hs, hb⟩ := h;exact ⟨i, z, rfl, hz, hc, hs, hb⟩
def setL (xs : List Value) (k : Nat) : List Value -> List Value
 | [] => xs
 | v :: vs => setL (xs.set k v) (k + 1) vs
theorem Yne (vs : List Value) : ∀ (xs : List Value) (k : Nat), (setL xs k vs).length = xs.length := by
 induction vs with
 | nil => intro xs k; rfl
 | cons v vs ih => intro xs k; simp [setL, ih]
theorem Ykz (vs : List Value) : ∀ (cs : Array Value) (k m : Nat), k + vs.length <= m -> (Yb9 cs k vs).toList.take m = setL (cs.toList.take m) k vs := by
 induction vs with
 | nil => intro cs k m _; rfl
 | cons v vs ih =>
  intro cs k m h;simp only [List.length_cons] at h;simp only [Yb9, setL];rw [ih _ _ _ (by omega)]
  congr 1
  rw [Array.toList_setIfInBounds, List.take_set]
theorem Y0b {e T : TypeId} {x y : Operand} {g k n c sz m : Nat} {xs xs' : List Value} {v : Value} (h : St w0 M L w) (hs : Ycd P e m) (hx : Yc8 a x = some (.pointer (some ⟨g, k, none⟩))) (hy : Yc8 a y = some (v)) (hn : v.cells.size = m) (h1 : v.cells.toList.all (·.oneCell') = true) (hu : Upd L (.row (.slice (some ⟨g, 0, none⟩) n c) T sz n xs) (.row (.slice (some ⟨g, 0, none⟩) n c) T sz n xs') L') (hk : k + m <= xs.length) (hc : setL xs k v.cells.toList = xs') (kk : ∀ w', St w0 M L' w' -> K (a.put dst undef) w') :
  Oper.wp P { dst, op := .store e x y, type, pos, after, guard } a w K Q := by
 replace hx := Yr hx
 replace hy := Yr hy
 have hrow := h.row hu.look;rcases hrow.2 with ⟨h0, _⟩ | ⟨g', cap, cur, hv, hb, hg, hnc, hcm, hcs, ht⟩
 ·cases h0
 cases hv;have hlen : n * sz <= cur.size := by rw [hcs]; exact Nat.mul_le_mul_right _ hnc
 have hxl := hrow.1;obtain ⟨w', hr, hb', hsz, hm, hkk⟩ := Ybx (P := P) v.cells.toList 0 k cur w hg (by simp; omega) (fun u hu => List.all_eq_true.1 h1 u hu);simp only [Nat.add_zero] at hb';have hrow' : w'.ownsRow 0 T sz (.slice (some ⟨g, 0, none⟩) n c) n xs' := by
  refine ⟨by rw [<- hc, Yne, hxl], .inr ⟨g, c, _, rfl, Nat.zero_le _, hb', hnc, hcm, by rw [Ygi, hcs], ?_⟩⟩;rw [Ykz _ _ _ _ (by simp; omega), ht, hc]
 subst hy;unfold Oper.wp execOp;simp only [hx, Instr.storeAt, Instr.sureAddr, storeVar, Sem.run_bind, Sem.run_pure, Ybc hs, hn, Result.andThen_ok, Oper.upon, ne_eq, not_true_eq_false, if_false, hr];exact kk w' (h.upd hu ⟨hm.1, hm.2.1, hm.2.2, by omega, fun k hk' hk2 => hkk k (by simpa [Res.foot, Value.ownBlock] using hk2)⟩ hrow' (fun b' hb' => .inl hb'))
theorem Ygh {T e : TypeId} {sz by_ : Nat} {zs : Array Value} {s x : Operand} {v : Value} {n m c : Nat} {xs news : List Value} {ad : Addr} {R : RL} (h : St w0 M L w) (ht : SliceOf P T e sz by_ zs) (hz : zs.size = sz) (hsz : 0 < sz) (hs : Yc8 a s = some v) (hx : Yc8 a x = some (.slice (some ad) m c)) (hu : Take L (.row v e sz n xs) R) (hl : news.length = m * sz) (hnews : ∀ j u, news[j]? = some u -> w.cell? (ad.add j) = some u) (h1 : ∀ u ∈ news, u.oneCell' = true) (h63 : n + m <= maxLen) (hbytes : (n + m) * by_ <= 140737488355328) (kk : ∀ v' w', (v' = .slice none 0 0 ↔ v = .slice none 0 0 /\ m = 0) -> St w0 M (.row v' e sz (n + m) (xs ++ news) :: R) w' -> K (a.put dst v') w') :
  Oper.wp P { dst, op := .call { callee := .builtin .append, args := #[s, x], argTypes := #[T, T] }, type, pos, after, guard } a w K Q := by
 replace hx := Yr hx
 replace hs := Yr hs
 obtain ⟨i, z, hi, hz1, hz2, his, hib⟩ := ht.parts;have hr : w.ownsRow 0 e sz v n xs := (h.perm hu.perm).has _ List.mem_cons_self;obtain ⟨v', w', hrun, h2, h3, h4, h5⟩ := run_append_own_at (P := P) w 0 T type e i z sz by_ ht.1 hi hz1 his hib (by rw [hz2, hz]) hsz v n xs hr ad m c news hl hnews h1 h63 hbytes (Nat.zero_le _);unfold Oper.wp execOp;simp only [resolve, invoke, builtin, Sem.run_bind, Sem.run_pure, Result.andThen_ok, List.map_toArray, List.map_cons, List.map_nil, hs, hx, hrun];have hk : Kept w.heap.size v.ownBlock.toList w w' := ⟨h3.os, h3.tape, h3.output, h3.size, fun k hk hm => h3.block k hk (by simpa [eq_comm] using hm)⟩;refine kk v' w' h4 (St.upd (L := .row v e sz n xs :: R) (h.perm hu.perm) .head hk h2 (fun b hb => ?_));simp only [Res.foot, Option.mem_toList] at hb ⊢;rcases h5 with h5 | h5
 ·exact .inl (by rw [<- h5]; exact hb)
 ·rw [h5] at hb; cases hb; exact .inr (Nat.le_refl _)
theorem Y0c {T e : TypeId} {sz by_ n : Nat} {zs : Array Value} {x y : Operand} {kl kc : IntKind} (h : St w0 M L w) (ht : SliceOf P T e sz by_ zs) (hx : Yc8 a x = some (.int kl (n : Int))) (hy : Yc8 a y = some (.int kc (n : Int))) (hbytes : by_ * n <= 281474976710656) (h63 : n <= maxLen) (kk : ∀ g w', St w0 M (.row (.slice (some ⟨g, 0, none⟩) n n) e sz n (madeCells zs (n * sz)).toList :: L) w' -> K (a.put dst (.slice (some ⟨g, 0, none⟩) n n)) w') :
  Oper.wp P { dst, op := .makeSlice T x y, type, pos, after, guard } a w K Q := by
 replace hx := Yr hx
 replace hy := Yr hy
 obtain ⟨i, z, hi, hz1, hz2, his, hib⟩ := ht.parts;obtain ⟨w', hr, h2, h3⟩ := run_make_full (P := P) w 0 T e i z sz ht.1 hi hz1 his kl kc n (by rw [hib]; exact hbytes) h63 (Nat.zero_le _);unfold Oper.wp execOp;simp only [hx, hy, Sem.run_bind, hr, Result.andThen_ok, Sem.run_pure, Oper.upon];refine kk w.heap.size w' ?_;rw [hz2] at h2;exact h.add ⟨h3.os, h3.tape, h3.output, h3.size, fun k hk => h3.block k hk (by simp)⟩ h2 (fun b hb => by simp [Res.foot, Value.ownBlock] at hb; omega)
theorem Yq7 {T e : TypeId} {sz by_ len : Nat} {zs cs : Array Value} {parts : Array (Nat × Operand)} {ps : List (Nat × Value)} (h : St w0 M L w) (ht : SliceOf P T e sz by_ zs) (hp : (parts.map fun (i, x) => (i, a.eval x)).toList = ps) (hlen : len * sz <= 16777216) (hf : Instr.fill (fun i => some (i * sz, sz)) ((Array.range (len * sz)).map (zs[· % zs.size]!)) ps = some cs) (kk : ∀ b w', St w0 M (.blk b (.cells cs e (0, 0)) :: L) w' -> K (a.put dst (.slice (some ⟨b, 0, none⟩) len len)) w') :
  Oper.wp P { dst, op := .buildSlice T len parts, type, pos, after, guard } a w K Q := by
 obtain ⟨i, z, hi, hz1, hz2, his, hib⟩ := ht.parts;subst his;have hr : (Instr.buildSlice T len (parts.map fun (i, x) => (i, a.eval x))).run P w = .ok (.slice (some ⟨w.heap.size, 0, none⟩) len len) (w.alloc (.cells cs e)) := by
  subst hp;have h24 : ¬ (len * i.size > 2 ^ 24) := by omega
  by_cases h0 : len * i.size = 0
  ·have e0 : ∀ f : Nat -> Value, (Array.range 0).map f = #[] := fun f => by simp [Array.range]
   rw [h0, e0] at hf;simp only [Instr.buildSlice, Sem.run_bind, run_underlying ht.1 w, sizeOf, typeInfo, run_program, hi, Sem.run_pure, Result.andThen_ok, h0, if_true, e0, hf];simp [newRow]
  ·simp only [Instr.buildSlice, Sem.run_bind, run_underlying ht.1 w, sizeOf, typeInfo, run_program, hi, Sem.run_pure, Result.andThen_ok, h24, h0, if_false, zeroValue, hz1, hz2, hf];simp [newRow]
 unfold Oper.wp execOp;simp only [Sem.run_bind, hr, Result.andThen_ok, Sem.run_pure, Oper.upon];exact kk _ _ (h.alloc _)
theorem St.toRow {b n : Nat} {cs : Array Value} {e sz : Nat} (h : St w0 M L w) (hu : Upd L (.blk b (.cells cs e (0, 0))) (.row (.slice (some ⟨b, 0, none⟩) n n) e sz n cs.toList) L') (hm : n <= maxLen) (hs : cs.size = n * sz) : St w0 M L' w := by
 have hb := h.blk hu.look;exact h.upd hu (Kept.of (Below.refl _ _)) ⟨by simpa using hs, .inr ⟨b, n, cs, rfl, Nat.zero_le _, hb, Nat.le_refl _, hm, hs, by rw [<- hs]; exact List.take_of_length_le (by simp)⟩⟩ (fun b' hb' => .inl (by simpa [Res.foot, Value.ownBlock] using hb'))
inductive ResV (P : Program) (w : World) (tmps : Array Value) : ResultVar -> Value -> Prop
 | tmp {t : Tmp} {v : Value} (h : nthO tmps.toList t = some v) : ResV P w tmps (.tmp t) v
 | cell {p : Tmp} {e : TypeId} {ad : Addr} {v : Value} (h : nthO tmps.toList p = some (.pointer (some ad))) (hl : (loadVar e ad).run P w = .ok v w) : ResV P w tmps (.cell p e) v
theorem Ytl {tmps : Array Value} {t : Nat} {v : Value} (h : nthO tmps.toList t = some v) : tmps.getD t undef = v := by
 rw [Ygv] at h;simpa [Array.getD_eq_getD_getElem?, List.getD_eq_getElem?_getD] using h
def resM (tmps : Array Value) : ResultVar -> Sem Value
 | .tmp t => pure (tmps.getD t undef)
 | .cell a t => do loadVar t (<- asAddr (tmps.getD a undef))
theorem ResV.run {tmps : Array Value} {r : ResultVar} {v : Value} (h : ResV P w tmps r v) : (resM tmps r).run P w = .ok v w := by
 cases h with
 | tmp h => simp only [resM, Ytl h]; rfl
 | cell h hl => simp only [resM, Ytl h, asAddr, Sem.run_bind, Sem.run_pure, Result.andThen_ok, hl]
theorem Ys7 (fn : Func) (tmps : Array Value) : results fn tmps = (fn.results.mapM (resM tmps) >>= fun vs => pure (if h : vs.size = 1 then vs[0] else .tuple vs)) := by
 unfold results
 congr 1
theorem Ypz {e : TypeId} {ad : Addr} {v : Value} (h : (Instr.loadAt e (.pointer (some ad))).run P w = .ok v w) : (loadVar e ad).run P w = .ok v w := by
 simpa [Instr.loadAt, Instr.sureAddr, Sem.run_bind] using h
section
variable {fn : Func} {R : Ending -> World -> Prop} {r1 r2 r3 r4 : ResultVar} {v1 v2 v3 v4 : Value}
end
end
end Go.Proofs.YtladoaeefkpdiaaGreatDoor
namespace Go.Proofs.YtladoaeefkpdiaaGreatDoor
open Go.RowKit
variable [InW]
def Yha (P : Program) (T : TypeId) (i off : Nat) : Prop :=
 ((P.underlying T).bind fun d => match d with | .struct fs => (fs[i]?).bind fun f => (P.info? f.type).map fun j => (f.offset, j.size == 0) | _ => none) = some (off, false)
section
variable {P : Program} {K : Act -> World -> Prop} {Q : Exit -> Act -> World -> Prop} {a : Act} {w : World} {dst : Option Tmp} {type : TypeId} {pos : String} {after : Array Edge} {guard : Option (Nat × Bool)}
theorem Y7r {x : Operand} {v : Value} (hx : Yc8 a x = some v) (kk : K (a.put dst v) w) : Oper.wp P { dst, op := .move x, type, pos, after, guard } a w K Q := by
 rw [<- Yr hx] at kk;exact BigFrame.wp_move x rfl kk
theorem Y30 {x : Operand} {v : Value} (hx : Yc8 a x = some v) (kk : K (a.put dst v) w) : Oper.wp P { dst, op := .assign x, type, pos, after, guard } a w K Q := by
 rw [<- Yr hx] at kk;exact BigFrame.wp_assign x rfl kk
theorem Yre {T : TypeId} {x : Operand} {i off b k k' : Nat} (hf : Yha P T i off) (hx : Yc8 a x = some (.pointer (some ⟨b, k, none⟩))) (hk : k + off = k') (kk : K (a.put dst (.pointer (some ⟨b, k', none⟩))) w) :
  Oper.wp P { dst, op := .fieldAddr T x i, type, pos, after, guard } a w K Q := by
 subst hk
 replace hx := Yr hx
 unfold Yha at hf;cases hu : P.underlying T with
 | none => simp [hu] at hf
 | some d =>
  cases d <;> simp only [hu, Option.bind_some, reduceCtorEq] at hf
  case struct fs =>
   cases hi : fs[i]? with
   | none => simp [hi] at hf
   | some f =>
    simp only [hi, Option.bind_some, Option.map_eq_some_iff, Prod.mk.injEq, beq_eq_false_iff_ne, ne_eq] at hf;obtain ⟨j, hj, h1, h2⟩ := hf;unfold Oper.wp execOp;simp only [Instr.fieldAt, Sem.run_bind, run_underlying hu w, Result.andThen_ok, hi, hx, Instr.sureAddr, Sem.run_pure, fieldPlace, sizeOf, typeInfo, run_program, hj, h2, if_false, Yp, h1, Oper.upon];exact kk
theorem Ym5 {T e : TypeId} {x ix : Operand} {sz by_ b off n c k : Nat} {zs : Array Value} {kd : IntKind} {i : Int} (ht : SliceOf P T e sz by_ zs) (hx : Yc8 a x = some (.slice (some ⟨b, off, none⟩) n c)) (hi : Yc8 a ix = some (.int kd i)) (h0 : 0 <= i) (h1 : i < (n : Int)) (hk : off + i.toNat * sz = k)
  (kk : K (a.put dst (.pointer (some ⟨b, k, none⟩))) w) : Oper.wp P { dst, op := .indexAddr T x ix, type, pos, after, guard } a w K Q := by
 subst hk
 replace hx := Yr hx
 replace hi := Yr hi
 obtain ⟨j, z, hj, hz1, hz2, his, hib⟩ := ht.parts;subst his;unfold Oper.wp execOp;simp only [Instr.indexAt, hx, hi, asIntOf, Sem.run_bind, Sem.run_pure, Result.andThen_ok, run_underlying ht.1 w, h0, h1, and_self, if_true, sizeOf, typeInfo, run_program, hj, Yp, Oper.upon];exact kk
theorem Y7s {T e : TypeId} {sz by_ : Nat} {zs : Array Value} {x : Operand} {A : Option Addr} {n c : Nat} (ht : SliceOf P T e sz by_ zs) (hx : Yc8 a x = some (.slice A n c)) (kk : K (a.put dst (.int .i64 (n : Int))) w) :
  Oper.wp P { dst, op := .call { callee := .builtin .len, args := #[x], argTypes := #[T] }, type, pos, after, guard } a w K Q := by
 replace hx := Yr hx
 unfold Oper.wp execOp;simp only [resolve, invoke, builtin, Sem.run_bind, Sem.run_pure, Result.andThen_ok, List.map_toArray, List.map_cons, List.map_nil, hx];have : (Builtin.len_ #[T] type #[.slice A n c]).run P w = .ok (.int .i64 (n : Int)) w := by
  simp [Builtin.len_, Sem.run_bind, run_underlying ht.1 w, goInt]
 simp only [this, Result.andThen_ok, Oper.upon];exact kk
theorem Y0w {t : Operand} {i : Nat} {vs : Array Value} {v : Value} (hx : Yc8 a t = some (.tuple vs)) (hv : nthO vs.toList i = some v) (hi : Nat.blt i vs.size = true) (kk : K (a.put dst v) w) :
  Oper.wp P { dst, op := .extract t i, type, pos, after, guard } a w K Q := by
 replace hx := Yr hx
 have := Y4a hv hi;unfold Oper.wp execOp;simp only [Instr.extract, hx, this, Sem.run_bind, Sem.run_pure, Result.andThen_ok, Oper.upon];exact kk
theorem Y5k {c x y : Operand} {b : Bool} {v : Value} (hc : Yc8 a c = some (.bool b)) (hv : Yc8 a (if b then x else y) = some v) (kk : K (a.put dst v) w) :
  Oper.wp P { dst, op := .pick c x y, type, pos, after, guard } a w K Q := by
 replace hc := Yr hc
 replace hv := Yr hv
 unfold Oper.wp execOp;simp only [hc, asBool, Sem.run_bind, Sem.run_pure, Result.andThen_ok, Oper.upon];have e : (if b = true then a.eval x else a.eval y) = v := by rw [<- hv]; split <;> rfl
 rw [e];exact kk
section
variable {T T' : TypeId} {x y : Operand} {m n : Int} {kd : IntKind}
theorem Y5f {op : BinOp} {v : Value} {u t : Value} (hx : Yc8 a x = some u) (hy : Yc8 a y = some t) (hr : (do eqGuard op T x y u t; binOp op T u t : Sem Value).run P w = .ok v w) (kk : K (a.put dst v) w) :
  Oper.wp P { dst, op := .binOp op T x y T', type, pos, after, guard } a w K Q := by
 replace hx := Yr hx
 replace hy := Yr hy
 unfold Oper.wp execOp;simp only [hx, hy];rw [Sem.run_bind, hr];simp only [Result.andThen_ok, Sem.run_pure, Oper.upon];exact kk
end
theorem yes {c : Prop} [Decidable c] (h : c) : decide c = true := decide_eq_true h
theorem no {c : Prop} [Decidable c] (h : ¬ c) : decide c = false := decide_eq_false h
variable {ops : Array Oper} {o : Oper} {rest : List Oper}
def Y3l (l : List Value) (d : Nat) : Option Bool :=
 match nthO l d with
 | some (.bool b) => some b
 | _ => none
def Yru : List Oper -> Nat -> Option Tmp
 | [], _ => none
 | o :: _, 0 => o.dst
 | _ :: l, n + 1 => Yru l n
theorem Yxx (l : List Oper) : ∀ j, Yru l j = (l[j]?).bind (·.dst) := by
 induction l with
 | nil => intro j; rfl
 | cons o l ih =>
  intro j;cases j with
  | zero => rfl
  | succ j => simp [Yru, ih]
theorem Yox {ol : List Oper} {a : Act} {j d : Nat} (hj : Yru ol j = some d) : yielded ol.toArray a.tmps j = Y3l a.tmps.toList d := by
 rw [Yxx] at hj;simp only [yielded, List.getElem?_toArray, hj, Option.bind_some, Y3l, Ygv];rw [List.getD_eq_getElem?_getD];cases h : a.tmps.toList[d]? with
 | none => simp at h; simp [h]; rfl
 | some v => simp at h; simp [h]; cases v <;> rfl
theorem Yr8 {ol : List Oper} {j d : Nat} {b c r : Bool} {op : Op} (hj : Yru ol j = some d) (hb : nthO a.tmps.toList d = some (.bool c)) (hc : (c == b) = r) :
  Region.wanted { dst, op, type, pos, after, guard := some (j, b) } (yielded ol.toArray a.tmps) = r := by
 simp only [Region.wanted, Yox hj, Y3l, hb, <- hc];cases c <;> cases b <;> rfl
theorem Yu3 {ol : List Oper} {j d : Nat} {b : Bool} {vs : Array Value} {op : Op} (hj : Yru ol j = some d) (hb : nthO a.tmps.toList d = some (.tuple vs)) :
  Region.wanted { dst, op, type, pos, after, guard := some (j, b) } (yielded ol.toArray a.tmps) = false := by
 simp only [Region.wanted, Yox hj, Y3l, hb];cases b <;> rfl
variable {ol : List Oper}
end
end Go.Proofs.YtladoaeefkpdiaaGreatDoor
namespace Go.Proofs.YtladoaeefkpdiaaGreatDoor
open Go.RowKit
variable [InW]
section
variable {P : Program} {ops : Array Oper} {n : Nat} {w0 : World} {Q : Exit -> Act -> World -> Prop} {R : Act -> Prop} {o : Oper} {rest : List Oper} {a : Act} {d : Tmp} {v : Value}
end
section
variable {P : Program} {w0 w w' : World} {M : List Nat} {L L' : RL} {K : Act -> World -> Prop} {Q : Exit -> Act -> World -> Prop} {a : Act} {dst : Option Tmp} {type : TypeId} {pos : String} {after : Array Edge} {guard : Option (Nat × Bool)}
theorem Take.look {L R : RL} {r x : Res} (h : Take L r R) (hl : Look R x) : Look L x := by
 induction h with
 | head => exact .tail hl
 | tail _ ih =>
  cases hl with
  | head => exact .head
  | tail hl => exact .tail (ih hl)
theorem Yjn (vs : List Value) : ∀ (cs : Array Value) (off j : Nat), (vs.zipIdx j).foldl (fun cs x => cs.setIfInBounds (off + x.2) x.1) cs = Yb9 cs (off + j) vs := by
 induction vs with
 | nil => intro cs off j; rfl
 | cons v vs ih =>
  intro cs off j;simp only [List.zipIdx_cons, List.foldl_cons, Yb9];rw [ih, Nat.add_assoc]
theorem Ycn (vs : List Value) : ∀ (cs : Array Value) (k : Nat), k + vs.length <= cs.size -> (Yb9 cs k vs).toList = cs.toList.take k ++ vs ++ cs.toList.drop (k + vs.length) := by
 induction vs with
 | nil => intro cs k _; simp [Yb9]
 | cons v vs ih =>
  intro cs k h;simp only [List.length_cons] at h;rw [Yb9, ih _ _ (by simp; omega), Array.toList_setIfInBounds, List.take_add_one, List.take_set_of_le (Nat.le_refl _), List.getElem?_set_self (by simp; omega), List.drop_set_of_lt (by omega)];simp [show k + 1 + vs.length = k + (vs.length + 1) by omega]
theorem Yud (sz : Nat) : ∀ (vs : List Value) (k : Nat) (cells : Array Value), (∀ v ∈ vs, v.cells.size = sz) -> cells.size = (k + vs.length) * sz ->
  Instr.fill (fun i => some (i * sz, sz)) cells ((List.range' k vs.length).zip vs) = some (cells.toList.take (k * sz) ++ (vs.map fun v => v.cells.toList).flatten).toArray
 | [], k, cells, _, h => by
  simp only [List.length_nil, Nat.add_zero] at h;simp only [Instr.fill, List.map_nil, List.flatten_nil, List.append_nil, <- h];rw [List.take_of_length_le (by simp), Array.toArray_toList];rfl
 | v :: vs, k, cells, h1, h => by
  have hv := h1 v List.mem_cons_self;have hle : k * sz + sz <= cells.size := by
   rw [h, List.length_cons, show k + (vs.length + 1) = (k + 1) + vs.length by omega, Nat.add_mul, Nat.succ_mul];omega
  simp only [List.length_cons, List.range'_succ, List.zip_cons_cons, Instr.fill];rw [if_neg (by rw [hv]; simp; omega)];have e : v.cells.zipIdx.foldl (fun cs x => cs.setIfInBounds (k * sz + x.2) x.1) cells = Yb9 cells (k * sz) v.cells.toList := by
   have := Yjn v.cells.toList cells (k * sz) 0;rw [Nat.add_zero] at this;rw [<- this, <- Array.foldl_toList, Array.toList_zipIdx]
  rw [e, Yud sz vs (k + 1) _ (fun u hu => h1 u (List.mem_cons_of_mem _ hu)) (by rw [Ygi, h, List.length_cons]; congr 1; omega), Ycn _ _ _ (by simpa [hv] using hle)]
  congr 2
  rw [Nat.succ_mul, List.take_append_of_le_length (by simp [hv]; omega), List.take_of_length_le (by simp [hv]; omega)];simp [List.append_assoc]
def AllParts (a : Act) (sz : Nat) : Nat -> List (Nat × Operand) -> List Value -> Prop
 | _, [], [] => True
 | k, (i, x) :: ps, v :: vs => i = k /\ Yc8 a x = some v /\ v.cells.size = sz /\ AllParts a sz (k + 1) ps vs
 | _, _, _ => False
theorem AllParts.zip {a : Act} {sz : Nat} : ∀ {ps : List (Nat × Operand)} {vs : List Value} {k : Nat}, AllParts a sz k ps vs -> (ps.map fun (i, x) => (i, a.eval x)) = (List.range' k vs.length).zip vs /\ ∀ v ∈ vs, v.cells.size = sz
 | [], [], k, _ => by simp
 | [], _ :: _, k, h => h.elim
 | _ :: _, [], k, h => h.elim
 | (i, x) :: ps, v :: vs, k, h => by
  obtain ⟨rfl, h1, h2, h3⟩ := h;obtain ⟨e, h4⟩ := AllParts.zip h3;refine ⟨?_, fun u hu => ?_⟩
  ·simp only [List.map_cons, List.length_cons, List.range'_succ, List.zip_cons_cons, e, Yr h1]
  ·rcases List.mem_cons.1 hu with rfl | hu
   ·exact h2
   ·exact h4 u hu
theorem Y0d {T e : TypeId} {sz by_ len : Nat} {zs : Array Value} {parts : List (Nat × Operand)} {vs : List Value} (h : St w0 M L w) (ht : SliceOf P T e sz by_ zs) (hp : AllParts a sz 0 parts vs) (hl : vs.length = len) (hlen : Nat.ble (len * sz) 16777216 = true)
  (kk : ∀ b w', St w0 M (.blk b (.cells ((vs.map fun v => v.cells.toList).flatten).toArray e (0, 0)) :: L) w' -> K (a.put dst (.slice (some ⟨b, 0, none⟩) len len)) w') :
  Oper.wp P { dst, op := .buildSlice T len parts.toArray, type, pos, after, guard } a w K Q := by
 obtain ⟨e1, e2⟩ := hp.zip;refine Yq7 h ht (ps := (List.range' 0 vs.length).zip vs) (by simpa using e1) (by simpa using hlen) ?_ kk;rw [Yud sz vs 0 _ e2 (by simp [hl])];simp
end
end Go.Proofs.YtladoaeefkpdiaaGreatDoor
namespace Go.Proofs.YtladoaeefkpdiaaGreatDoor
open Go.RowKit
inductive Ty where
 | int (k : IntKind)
 | bool
 | str
 | sl (ts : List Ty)
inductive Cl where
 | z
 | i (n : Int)
 | b (x : Bool)
 | s (x : ByteArray)
 | l (xs : List (List Cl))
abbrev Dt := List (List Cl)
def Cl.int : Cl -> Int
 | .i n => n
 | _ => 0
def Cl.bool : Cl -> Bool
 | .b x => x
 | _ => false
def Cl.str : Cl -> ByteArray
 | .s x => x
 | _ => ByteArray.empty
def Cl.lst : Cl -> Dt
 | .l xs => xs
 | _ => []
@[simp] theorem Cl.int_i (n : Int) : (Cl.i n).int = n := rfl
@[simp] theorem Cl.bool_b (x : Bool) : (Cl.b x).bool = x := rfl
@[simp] theorem Cl.str_s (x : ByteArray) : (Cl.s x).str = x := rfl
@[simp] theorem Cl.lst_l (x : Dt) : (Cl.l x).lst = x := rfl
def cel (xs : Dt) (i k : Nat) : Cl := (xs.getD i []).getD k .z
def Ty.zeroV : Ty -> Value
 | .int k => .int k 0
 | .bool => .bool false
 | .str => .string ByteArray.empty
 | .sl _ => .slice none 0 0
def Ty.val : Ty -> Cl -> Value
 | .int k, c => .int k c.int
 | .bool, c => .bool c.bool
 | .str, c => .string c.str
 | .sl _, _ => .slice none 0 0
noncomputable def tyAt (ts : List Ty) (k : Nat) : Ty := List.rec (motive := fun _ => Nat -> Ty) (fun _ => .bool) (fun t _ ih k => Nat.rec (motive := fun _ => Ty) t (fun m _ => ih m) k) ts k
theorem Yeb : ∀ (ts : List Ty) (k : Nat), tyAt ts k = ts.getD k .bool
 | [], _ => rfl
 | _ :: _, 0 => rfl
 | _ :: ts, k + 1 => by
  exact (Yeb ts k).trans (by simp)
section
variable [InW]
inductive RdV : Ty -> Value -> Cl -> Prop
 | int (k : IntKind) (c : Cl) : RdV (.int k) (.int k c.int) c
 | bool (c : Cl) : RdV .bool (.bool c.bool) c
 | str (c : Cl) : RdV .str (.string c.str) c
 | sl (ts : List Ty) (A : Option Addr) (c : Nat) (d : Cl) (u : Nat -> Nat -> Value) (hc : d.lst.length <= c) (hm : d.lst.length <= maxLen)
   (ha : d.lst ≠ [] -> ∃ b off, A = some ⟨b, off, none⟩ /\ InW.F b /\ ∀ i k, i < d.lst.length -> k < ts.length -> InW.w.cell? ⟨b, off + i * ts.length + k, none⟩ = some (u i k))
   (h : ∀ i k t, i < d.lst.length -> ts[k]? = some t -> RdV t (u i k) (cel d.lst i k)) : RdV (.sl ts) (.slice A d.lst.length c) d
theorem RdV.lst {ts : List Ty} {v : Value} {c : Cl} (h : RdV (.sl ts) v c) : RdV (.sl ts) v (.l c.lst) := by
 cases h with
 | sl _ A cp d u hc hm ha h => exact .sl ts A cp (.l c.lst) u hc hm ha h
theorem RdV.nil {ts : List Ty} {c : Cl} (h : c.lst = []) : RdV (.sl ts) (.slice none 0 0) c := by
 have := RdV.sl ts none 0 c (fun _ _ => undef) (by simp [h]) (by simp [h]) (fun hn => absurd h hn) (fun i k t hi => by simp [h] at hi);rwa [h] at this
def Ro (ts : List Ty) : Type := { p : Value × Dt // RdV (.sl ts) p.1 (.l p.2) }
variable {ts : List Ty}
def Ro.v (r : Ro ts) : Value := r.1.1
def Ro.xs (r : Ro ts) : Dt := r.1.2
def Ro.nil (ts : List Ty) : Ro ts := ⟨(.slice none 0 0, []), RdV.nil rfl⟩
theorem Ro.inv (r : Ro ts) : ∃ A c, r.v = .slice A r.xs.length c /\ r.xs.length <= c /\ r.xs.length <= maxLen /\ ∃ u : Nat -> Nat -> Value,
  (r.xs ≠ [] -> ∃ b off, A = some ⟨b, off, none⟩ /\ InW.F b /\ ∀ i k, i < r.xs.length -> k < ts.length -> InW.w.cell? ⟨b, off + i * ts.length + k, none⟩ = some (u i k)) /\ ∀ i k t, i < r.xs.length -> ts[k]? = some t -> RdV t (u i k) (cel r.xs i k) := by
 obtain ⟨⟨v, xs⟩, h⟩ := r;unfold Ro.v Ro.xs;dsimp only at h ⊢;cases h with
 | sl _ A c d u hc hm ha h => exact ⟨A, c, rfl, hc, hm, u, ha, h⟩
def Ycy (v : Value) (k : Nat) : Addr := match v with | .slice (some a) _ _ => ⟨a.block, a.off + k, none⟩ | _ => ⟨0, k, none⟩
noncomputable def Ro.val (r : Ro ts) (i k : Nat) : Value := if i < r.xs.length /\ k < ts.length then (InW.w.cell? (Ycy r.v (i * ts.length + k))).getD undef else (tyAt ts k).val (cel r.xs i k)
theorem Ro.cell (r : Ro ts) {i k : Nat} (hi : i < r.xs.length) (hk : k < ts.length) : InW.w.cell? (Ycy r.v (i * ts.length + k)) = some (r.val i k) /\ (Ycy r.v (i * ts.length + k)).block < InW.B := by
 obtain ⟨A, c, hv, _, _, u, h1, h2⟩ := r.inv;obtain ⟨b, off, rfl, hb, h3⟩ := h1 (fun e => by rw [e] at hi; simp at hi);have h4 := h3 i k hi hk;rw [Nat.add_assoc] at h4;unfold Ro.val;rw [if_pos ⟨hi, hk⟩, hv];simp only [Ycy, h4, Option.getD_some, true_and];exact InW.lt _ hb
theorem Ro.ok (r : Ro ts) (i k : Nat) : RdV (tyAt ts k) (r.val i k) (cel r.xs i k) := by
 by_cases h : i < r.xs.length /\ k < ts.length
 ·obtain ⟨A, c, hv, _, _, u, h1, h2⟩ := r.inv;obtain ⟨b, off, rfl, hb, h3⟩ := h1 (fun e => by rw [e] at h; simp at h);have h4 := h3 i k h.1 h.2;rw [Nat.add_assoc] at h4;have e : r.val i k = u i k := by
   unfold Ro.val;rw [if_pos h, hv];simp only [Ycy, h4, Option.getD_some]
  rw [e, Yeb];exact h2 i k _ h.1 (by rw [List.getD_eq_getElem?_getD, List.getElem?_eq_getElem h.2]; rfl)
 ·have e : r.val i k = (tyAt ts k).val (cel r.xs i k) := by unfold Ro.val; rw [if_neg h]
  rw [e];cases ht : tyAt ts k with
  | int kd => exact .int _ _
  | bool => exact .bool _
  | str => exact .str _
  | sl ts' =>
   refine .nil ?_;have hk : k < ts.length := by
    rcases Nat.lt_or_ge k ts.length with h1 | h1
    ·exact h1
    ·rw [Yeb, List.getD_eq_getElem?_getD, List.getElem?_eq_none h1] at ht; cases ht
   unfold cel;rw [List.getD_eq_getElem?_getD (l := r.xs), List.getElem?_eq_none (by have : ¬ i < r.xs.length := fun hi => h ⟨hi, hk⟩; omega)];rfl
noncomputable def Ro.sub (r : Ro ts) (ts' : List Ty) (i k : Nat) (h : RdV (.sl ts') (r.val i k) (cel r.xs i k)) : Ro ts' := ⟨(r.val i k, (cel r.xs i k).lst), h.lst⟩
theorem RdV.isInt {k : IntKind} {v : Value} {c : Cl} (h : RdV (.int k) v c) : v = .int k c.int := by cases h; rfl
theorem RdV.isBool {v : Value} {c : Cl} (h : RdV .bool v c) : v = .bool c.bool := by cases h <;> rfl
theorem RdV.isStr {v : Value} {c : Cl} (h : RdV .str v c) : v = .string c.str := by cases h <;> rfl
theorem Ro.len (r : Ro ts) : r.xs.length <= maxLen := by
 obtain ⟨A, c, _, _, h2, _⟩ := r.inv;exact h2
theorem Yhw (v : Value) (k m : Nat) : Ycy v (k + m) = ⟨(Ycy v k).block, (Ycy v k).off + m, none⟩ := by
 unfold Ycy
 split <;> simp [Nat.add_assoc]
theorem Yiq (v : Value) (k : Nat) : Ycy v k = ⟨(Ycy v k).block, (Ycy v k).off, none⟩ := Yhw v k 0
def zeroV (v : Value) : Value := match v with | .slice A _ _ => .slice A 0 0 | v => v
def capV (v : Value) : Nat := match v with | .slice _ _ c => c | _ => 0
theorem Ro.zero_ok (r : Ro ts) : RdV (.sl ts) (zeroV r.v) (.l []) := by
 obtain ⟨A, c, hv, _⟩ := r.inv;rw [hv];exact .sl ts A 0 (.l []) (fun _ _ => undef) (by simp) (by simp) (fun hn => absurd rfl hn) (fun i k t hi => by simp at hi)
def Ro.zero (r : Ro ts) : Ro ts := ⟨(zeroV r.v, []), r.zero_ok⟩
theorem Ro.zero_v (r : Ro ts) : r.zero.v = zeroV r.v := rfl
def Ro.cutV (v : Value) (sz l h : Nat) : Value := match v with | .slice A _ c => .slice (if c = l then A else A.map (·.add (l * sz))) (h - l) (c - l) | v => v
theorem Ro.cut_ok (r : Ro ts) (l h : Nat) (hl : l <= h) (hh : h <= r.xs.length) : RdV (.sl ts) (Ro.cutV r.v ts.length l h) (.l ((r.xs.take h).drop l)) := by
 obtain ⟨A, c, hv, hc, hm, u, h1, h2⟩ := r.inv;rw [hv];unfold Ro.cutV;dsimp only;have hlen : ((r.xs.take h).drop l).length = h - l := by simp; omega
 have hget : ∀ i, i < h - l -> ((r.xs.take h).drop l).getD i [] = r.xs.getD (l + i) [] := fun i hi => by
  rw [List.getD_eq_getElem?_getD, List.getD_eq_getElem?_getD, List.getElem?_drop, List.getElem?_take, if_pos (by omega)]
 rw [<- hlen];refine .sl ts _ (c - l) (.l ((r.xs.take h).drop l)) (fun i k => u (l + i) k) (by simp only [Cl.lst]; omega) (by simp only [Cl.lst]; omega) (fun hne => ?_) (fun i k t hi ht => ?_)
 ·simp only [Cl.lst] at hne ⊢;have hpos : 0 < h - l := by
   rcases Nat.eq_zero_or_pos (h - l) with e | e
   ·exact absurd (List.length_eq_zero_iff.1 (hlen.trans e)) hne
   ·exact e
  obtain ⟨b, off, rfl, hb, h3⟩ := h1 (fun e => by rw [e] at hh; simp only [List.length_nil] at hh; omega);refine ⟨b, off + l * ts.length, by rw [if_neg (by omega), Option.map_some, Yp], hb, fun i k hi hk => ?_⟩;rw [hlen] at hi;rw [<- h3 (l + i) k (by omega) hk]
  congr 2
  rw [Nat.add_mul]; omega
 ·simp only [Cl.lst] at hi ⊢;rw [hlen] at hi;have e : cel ((r.xs.take h).drop l) i k = cel r.xs (l + i) k := by unfold cel; rw [hget i hi]
  rw [e];exact h2 (l + i) k t (by omega) ht
theorem Y68 (xs : Dt) (l h : Nat) : (xs.take (min h xs.length)).drop (min l (min h xs.length)) = (xs.take h).drop l := by
 have e1 : xs.take (min h xs.length) = xs.take h := by
  rcases Nat.le_total h xs.length with h1 | h1
  ·rw [Nat.min_eq_left h1]
  ·rw [Nat.min_eq_right h1, List.take_of_length_le (Nat.le_refl _), List.take_of_length_le h1]
 rw [e1];rcases Nat.le_total l (min h xs.length) with h1 | h1
 ·rw [Nat.min_eq_left h1]
 ·rw [Nat.min_eq_right h1, List.drop_eq_nil_of_le (by simp), List.drop_eq_nil_of_le (by simp; omega)]
def Ro.cut (r : Ro ts) (l h : Nat) : Ro ts := ⟨(Ro.cutV r.v ts.length (min l (min h r.xs.length)) (min h r.xs.length), (r.xs.take h).drop l), by
 have := r.cut_ok (min l (min h r.xs.length)) (min h r.xs.length) (Nat.min_le_right _ _) (Nat.min_le_right _ _);rwa [Y68] at this⟩
theorem Ro.cut_v (r : Ro ts) (l h : Nat) (hl : l <= h) (hh : h <= r.xs.length) : (r.cut l h).v = Ro.cutV r.v ts.length l h := by
 show Ro.cutV r.v ts.length (min l (min h r.xs.length)) (min h r.xs.length) = _
 rw [Nat.min_eq_left hh, Nat.min_eq_left hl]
end
theorem RdV.mono2 {W1 W2 : InW} (hF : ∀ b, W1.F b -> W2.F b) (hw : ∀ b, W1.F b -> W2.w.heap[b]? = W1.w.heap[b]?) {t : Ty} {v : Value} {c : Cl} (h : @RdV W1 t v c) : @RdV W2 t v c := by
 induction h with
 | int k c => exact @RdV.int W2 k c
 | bool c => exact @RdV.bool W2 c
 | str c => exact @RdV.str W2 c
 | sl ts A c d u hc hm ha h ih =>
  refine @RdV.sl W2 ts A c d u hc hm (fun hne => ?_) ih;obtain ⟨b, off, h1, h2, h3⟩ := ha hne;exact ⟨b, off, h1, hF b h2, fun i k hi hk => (World.cell?_of_block (show W2.w.heap[(⟨b, off + i * ts.length + k, none⟩ : Addr).block]? = W1.w.heap[(⟨b, off + i * ts.length + k, none⟩ : Addr).block]? from hw b h2)).trans (h3 i k hi hk)⟩
@[reducible] def atF (w : World) (F : Nat -> Prop) : InW := ⟨w, w.heap.size, fun b => b < w.heap.size /\ F b, fun _ h => h.1⟩
theorem RdV.grow {w w' : World} {F F' : Nat -> Prop} {t : Ty} {v : Value} {c : Cl} (h : @RdV (atF w F) t v c) (hF : ∀ b, b < w.heap.size -> F b -> b < w'.heap.size /\ F' b) (hw : ∀ b, b < w.heap.size -> F b -> w'.heap[b]? = w.heap[b]?) : @RdV (atF w' F') t v c :=
 RdV.mono2 (W1 := atF w F) (W2 := atF w' F') (fun b hb => hF b hb.1 hb.2) (fun b hb => hw b hb.1 hb.2) h
def froP (v : Value) (ts : List Ty) (xs : Dt) (F : Nat -> Prop) (w : World) : Prop := @RdV (atF w F) (.sl ts) v (.l xs)
def RowsRd (w : World) (F : Nat -> Prop) (ts : List Ty) (vs : List Value) (xs : Dt) : Prop := ∀ i k t, i < xs.length -> ts[k]? = some t -> ∃ u, vs[i * ts.length + k]? = some u /\ @RdV (atF w F) t u (cel xs i k)
def nstP (v : Value) (e : TypeId) (ts : List Ty) (n : Nat) (xs : Dt) (F : Nat -> Prop) (w : World) : Prop := xs.length = n /\ ∃ vs, w.ownsRow 0 e ts.length v n vs /\ RowsRd w F ts vs xs
def Res.fro (v : Value) (ts : List Ty) (xs : Dt) (F : Nat -> Prop) : Res := .abs [] F (froP v ts xs F)
def Res.nst (v : Value) (e : TypeId) (ts : List Ty) (n : Nat) (xs : Dt) (F : Nat -> Prop) : Res := .abs v.ownBlock.toList F (nstP v e ts n xs F)
theorem Ygj {w w' : World} {b : Nat} (hb : b < w.heap.size) (h : w'.heap[b]? = w.heap[b]?) : b < w'.heap.size := by
 rcases Nat.lt_or_ge b w'.heap.size with h3 | h3
 ·exact h3
 ·rw [Array.getElem?_eq_none h3, Array.getElem?_eq_getElem hb] at h; cases h
theorem RowsRd.grow {w w' : World} {F F' : Nat -> Prop} {ts : List Ty} {vs : List Value} {xs : Dt} (h : RowsRd w F ts vs xs) (hF : ∀ b, b < w.heap.size -> F b -> b < w'.heap.size /\ F' b) (hw : ∀ b, b < w.heap.size -> F b -> w'.heap[b]? = w.heap[b]?) : RowsRd w' F' ts vs xs :=
 fun i k t hi ht => by
  obtain ⟨u, h1, h2⟩ := h i k t hi ht;exact ⟨u, h1, h2.grow hF hw⟩
theorem Yjm {v : Value} {ts : List Ty} {xs : Dt} {F : Nat -> Prop} {w : World} (hb : ∀ b, F b -> b < w.heap.size) (h : froP v ts xs F w) : (Res.fro v ts xs F).holds w :=
 ⟨fun b h => hb b (h.resolve_left (by simp)), by simp, fun w' hk => h.grow (fun b h1 h2 => ⟨Ygj h1 (hk b (.inr h2)), h2⟩) fun b _ h2 => hk b (.inr h2)⟩
theorem Yxq {v : Value} {ts : List Ty} {xs : Dt} {F : Nat -> Prop} {w : World} (h : (Res.fro v ts xs F).holds w) : froP v ts xs F w := h.2.2 w fun _ _ => rfl
theorem Ygw {v : Value} {e : TypeId} {ts : List Ty} {n : Nat} {xs : Dt} {F : Nat -> Prop} {w : World} (hb : ∀ b, F b -> b < w.heap.size) (hn : ∀ b ∈ v.ownBlock.toList, ¬ F b) (h : nstP v e ts n xs F w) : (Res.nst v e ts n xs F).holds w := by
 obtain ⟨h1, vs, h2, h3⟩ := h;have hr : (Res.row v e ts.length n vs).holds w := h2;refine ⟨fun b h => h.elim (fun h => Res.lt hr b h) (hb b), hn, fun w' hk => ⟨h1, vs, ?_, h3.grow (fun b h1 h2 => ⟨Ygj h1 (hk b (.inr h2)), h2⟩) fun b _ h2 => hk b (.inr h2)⟩⟩;exact Res.keep hr fun b hb => hk b (.inl (hb.resolve_right fun h => False.elim h))
theorem Y7v {v : Value} {e : TypeId} {ts : List Ty} {n : Nat} {xs : Dt} {F : Nat -> Prop} {w : World} (h : (Res.nst v e ts n xs F).holds w) : nstP v e ts n xs F w := h.2.2 w fun _ _ => rfl
def Yz : List Ty -> List Cl -> List Value
 | [], _ => []
 | t :: ts, l => t.val (l.headD .z) :: Yz ts l.tail
def Yl (ts : List Ty) : Dt -> List Value
 | [] => []
 | l :: xs => Yz ts l ++ Yl ts xs
theorem Ybr : ∀ (ts : List Ty) (l : List Cl), (Yz ts l).length = ts.length
 | [], _ => rfl
 | t :: ts, l => by simp [Yz, Ybr ts]
theorem Yq (ts : List Ty) : ∀ xs : Dt, (Yl ts xs).length = xs.length * ts.length
 | [] => by simp [Yl]
 | l :: xs => by simp only [Yl, List.length_append, Ybr, Yq ts xs, List.length_cons, Nat.succ_mul]; omega
theorem Yj0 : ∀ (ts : List Ty) (l : List Cl) (k : Nat), (Yz ts l)[k]? = (ts[k]?).map fun t => t.val (l.getD k .z)
 | [], _, _ => by simp [Yz]
 | t :: ts, l, 0 => by cases l <;> simp [Yz]
 | t :: ts, l, k + 1 => by
  simp only [Yz, List.getElem?_cons_succ, Yj0 ts l.tail k];cases l <;> simp
theorem Yjo (ts : List Ty) : ∀ (xs : Dt) (i k : Nat), i < xs.length -> k < ts.length -> (Yl ts xs)[i * ts.length + k]? = (ts[k]?).map fun t => t.val (cel xs i k)
 | [], i, k, hi, _ => by simp at hi
 | l :: xs, 0, k, _, hk => by
  simp only [Yl, Nat.zero_mul, Nat.zero_add];rw [List.getElem?_append_left (by rw [Ybr]; exact hk), Yj0];rfl
 | l :: xs, i + 1, k, hi, hk => by
  simp only [Yl];rw [List.getElem?_append_right (by rw [Ybr, Nat.succ_mul]; omega), Ybr, show (i + 1) * ts.length + k - ts.length = i * ts.length + k by rw [Nat.succ_mul]; omega,
   Yjo ts xs i k (by simpa using hi) hk]
  rfl
theorem Ybb (ts : List Ty) : ∀ xs ys : Dt, Yl ts (xs ++ ys) = Yl ts xs ++ Yl ts ys
 | [], _ => rfl
 | l :: xs, ys => by simp [Yl, Ybb ts xs ys]
variable [InW]
inductive AV where
 | v (x : Value)
 | ptr (id k : Nat)
 | sl (id off lo n : Nat)
 | slc (id off n c : Nat)
 | emp (id : Nat)
 | agg (cs : List AV)
 | tup (cs : List AV)
 | fn (f : Fn) (first cap : List AV)
 | ifc (t : TypeId) (x : AV)
 | mp (id : Nat)
 | yl (id : Nat)
 | held (x : AV)
 | junk
 | si (k : IntKind) (n : Int)
 | sb (b : Bool)
 | ss (s : ByteArray)
 | rs (ts : List Ty) (r : Ro ts)
 | rp (ts : List Ty) (r : Ro ts) (i k : Nat)
 | rw (id : Nat)
 | ep (id sz i k : Nat)
 | rwp (id sz l n : Nat)
 | opq (id : Nat)
 | fp (id sz i k : Nat)
structure Hd where
 b : Nat
 nil : Bool
 c : Nat
 a : Option Addr := none
 fn : Nat := 0
 v : Value := undef
 F : Nat -> Prop := fun _ => False
abbrev Phi := Nat -> Hd
mutual
def AV.conc (φ : Phi) : AV -> Value
 | .v x => x
 | .ptr id k => .pointer (some ⟨(φ id).b, k, none⟩)
 | .sl id off lo n => .slice (if (φ id).nil then none else some ⟨(φ id).b, off, none⟩) n ((φ id).c - lo)
 | .slc id off n c => .slice (some ⟨(φ id).b, off, none⟩) n c
 | .emp id => .slice (φ id).a 0 (φ id).c
 | .agg cs => .agg (AV.concL φ cs).toArray
 | .tup cs => .tuple (AV.concL φ cs).toArray
 | .fn f a b => .func f (AV.concL φ a).toArray (AV.concL φ b).toArray
 | .ifc t x => .iface t (AV.conc φ x)
 | .mp id => .map (some (φ id).b)
 | .yl id => .func (.yield (φ id).b) #[] #[]
 | .held _ => undef
 | .junk => undef
 | .si k n => .int k n
 | .sb b => .bool b
 | .ss s => .string s
 | .rs _ r => r.v
 | .rp ts r i k => .pointer (some (Ycy r.v (i * ts.length + k)))
 | .rw id => .slice (if (φ id).nil then none else some ⟨(φ id).b, 0, none⟩) (φ id).fn (φ id).c
 | .ep id sz i k => .pointer (some ⟨(φ id).b, i * sz + k, none⟩)
 | .rwp id sz l n => .slice (if (φ id).c = l then (if (φ id).nil then none else some ⟨(φ id).b, 0, none⟩) else (if (φ id).nil then none else some ⟨(φ id).b, 0, none⟩ : Option Addr).map (·.add (l * sz))) n ((φ id).c - l)
 | .opq id => (φ id).v
 | .fp id sz i k => .pointer (some (Ycy (φ id).v (i * sz + k)))
def AV.concL (φ : Phi) : List AV -> List Value
 | [] => []
 | x :: xs => AV.conc φ x :: AV.concL φ xs
end
mutual
def AV.has (i : Nat) : AV -> Bool
 | .v _ => false
 | .ptr id _ => Nat.beq id i
 | .sl id _ _ _ => Nat.beq id i
 | .slc id _ _ _ => Nat.beq id i
 | .emp id => Nat.beq id i
 | .agg cs => AV.hasL i cs
 | .tup cs => AV.hasL i cs
 | .fn _ a b => AV.hasL i a || AV.hasL i b
 | .ifc _ x => AV.has i x
 | .mp id => Nat.beq id i
 | .yl id => Nat.beq id i
 | .held x => AV.has i x
 | .junk => false
 | .si _ _ => false
 | .sb _ => false
 | .ss _ => false
 | .rs _ _ => false
 | .rp _ _ _ _ => false
 | .rw id => Nat.beq id i
 | .ep id _ _ _ => Nat.beq id i
 | .rwp id _ _ _ => Nat.beq id i
 | .opq id => Nat.beq id i
 | .fp id _ _ _ => Nat.beq id i
def AV.hasL (i : Nat) : List AV -> Bool
 | [] => false
 | x :: xs => AV.has i x || AV.hasL i xs
end
def AV.rd : AV -> Bool
 | .junk => false
 | .held _ => false
 | _ => true
attribute [simp] AV.rd
def AV.isHeld : AV -> Bool
 | .held _ => true
 | _ => false
def AV.cut : AV -> AV
 | .held _ => .junk
 | x => x
theorem Y7n {x : AV} (h : x.cut.rd = true) : x.cut = x /\ x.rd = true := by cases x <;> simp_all [AV.cut]
theorem Yr3 (x : AV) : x.cut.isHeld = false := by cases x <;> rfl
theorem Y6q {x : AV} {i : Nat} (h : x.has i = false) : x.cut.has i = false := by cases x <;> first | exact h | rfl
def Ybf : List AV -> List AV
 | [] => []
 | .held x :: xs => x :: Ybf xs
 | _ :: xs => Ybf xs
def Ycm : List AV -> Nat -> AV -> List AV
 | [], _, _ => []
 | x :: xs, 0, v => (match x with | .held y => .held y | _ => v.cut) :: xs
 | x :: xs, n + 1, v => x :: Ycm xs n v
theorem Ygo : ∀ (tm : List AV) (d : Nat) (v : AV), (Ycm tm d v).length = tm.length
 | [], _, _ => rfl
 | x :: xs, 0, v => by simp [Ycm]
 | x :: xs, d + 1, v => by simp [Ycm, Ygo xs d v]
theorem Yi3 : ∀ (tm : List AV) {d t : Nat} (v : AV), t ≠ d -> (Ycm tm d v)[t]? = tm[t]?
 | [], _, _, _, _ => rfl
 | x :: xs, 0, 0, v, h => absurd rfl h
 | x :: xs, 0, t + 1, v, _ => by simp [Ycm]
 | x :: xs, d + 1, 0, v, _ => by simp [Ycm]
 | x :: xs, d + 1, t + 1, v, h => by simpa [Ycm] using Yi3 xs v (show t ≠ d by omega)
theorem Ylj : ∀ (tm : List AV) {d : Nat} (v : AV), (Ycm tm d v)[d]? = (tm[d]?).map fun x => if x.isHeld then x else v.cut
 | [], _, _ => by simp [Ycm]
 | x :: xs, 0, v => by cases x <;> simp [Ycm, AV.isHeld]
 | x :: xs, d + 1, v => by simpa [Ycm] using Ylj xs v
theorem Ypn : ∀ (tm : List AV) {d e : Nat} (v u : AV), d ≠ e -> Ycm (Ycm tm d v) e u = Ycm (Ycm tm e u) d v
 | [], _, _, _, _, _ => rfl
 | x :: xs, 0, 0, v, u, h => absurd rfl h
 | x :: xs, 0, e + 1, v, u, _ => by simp [Ycm]
 | x :: xs, d + 1, 0, v, u, _ => by simp [Ycm]
 | x :: xs, d + 1, e + 1, v, u, h => by simp [Ycm, Ypn xs v u (show d ≠ e by omega)]
theorem Y5 (x : AV) (xs : List AV) : Ybf (x :: xs) = (match x with | .held y => [y] | _ => []) ++ Ybf xs := by cases x <;> rfl
theorem Yg7 : ∀ (tm : List AV) (d : Nat) (v : AV), Ybf (Ycm tm d v) = Ybf tm
 | [], _, _ => rfl
 | x :: xs, 0, v => by
  cases x <;> simp only [Ycm, Y5, List.nil_append]
  all_goals (have := Yr3 v; cases hv : v.cut <;> simp_all [AV.isHeld])
 | x :: xs, d + 1, v => by simp only [Ycm, Y5, Yg7 xs d v]
def Agree (ks : List Nat) (φ φ' : Phi) : Prop := ∀ i, i ∉ ks -> φ' i = φ i
theorem Agree.refl (ks : List Nat) (φ : Phi) : Agree ks φ φ := fun _ _ => rfl
mutual
theorem Yfl {ks : List Nat} {φ φ' : Phi} (h : Agree ks φ φ') : ∀ x : AV, (∀ i ∈ ks, x.has i = false) -> x.conc φ' = x.conc φ
 | .v _, _ => rfl
 | .ptr id k, hx => by
  have : id ∉ ks := fun hm => by have := hx id hm; simp [AV.has, Nat.beq_refl] at this
  simp only [AV.conc, h id this]
 | .sl id _ _ _, hx => by
  have : id ∉ ks := fun hm => by have := hx id hm; simp [AV.has, Nat.beq_refl] at this
  simp only [AV.conc, h id this]
 | .slc id _ _ _, hx => by
  have : id ∉ ks := fun hm => by have := hx id hm; simp [AV.has, Nat.beq_refl] at this
  simp only [AV.conc, h id this]
 | .emp id, hx => by
  have : id ∉ ks := fun hm => by have := hx id hm; simp [AV.has, Nat.beq_refl] at this
  simp only [AV.conc, h id this]
 | .agg cs, hx => by simp only [AV.conc, Yy h cs fun i hi => by simpa [AV.has] using hx i hi]
 | .tup cs, hx => by simp only [AV.conc, Yy h cs fun i hi => by simpa [AV.has] using hx i hi]
 | .fn f a b, hx => by
  have hx' : ∀ i ∈ ks, AV.hasL i a = false /\ AV.hasL i b = false := fun i hi => by simpa [AV.has] using hx i hi
  simp only [AV.conc, Yy h a fun i hi => (hx' i hi).1, Yy h b fun i hi => (hx' i hi).2]
 | .ifc t x, hx => by simp only [AV.conc, Yfl h x fun i hi => by simpa [AV.has] using hx i hi]
 | .mp id, hx => by
  have : id ∉ ks := fun hm => by have := hx id hm; simp [AV.has, Nat.beq_refl] at this
  simp only [AV.conc, h id this]
 | .yl id, hx => by
  have : id ∉ ks := fun hm => by have := hx id hm; simp [AV.has, Nat.beq_refl] at this
  simp only [AV.conc, h id this]
 | .held _, _ => rfl
 | .junk, _ => rfl
 | .si _ _, _ => rfl
 | .sb _, _ => rfl
 | .ss _, _ => rfl
 | .rs _ _, _ => rfl
 | .rp _ _ _ _, _ => rfl
 | .rw id, hx => by
  have : id ∉ ks := fun hm => by have := hx id hm; simp [AV.has, Nat.beq_refl] at this
  simp only [AV.conc, h id this]
 | .ep id _ _ _, hx => by
  have : id ∉ ks := fun hm => by have := hx id hm; simp [AV.has, Nat.beq_refl] at this
  simp only [AV.conc, h id this]
 | .rwp id _ _ _, hx => by
  have : id ∉ ks := fun hm => by have := hx id hm; simp [AV.has, Nat.beq_refl] at this
  simp only [AV.conc, h id this]
 | .opq id, hx => by
  have : id ∉ ks := fun hm => by have := hx id hm; simp [AV.has, Nat.beq_refl] at this
  simp only [AV.conc, h id this]
 | .fp id _ _ _, hx => by
  have : id ∉ ks := fun hm => by have := hx id hm; simp [AV.has, Nat.beq_refl] at this
  simp only [AV.conc, h id this]
theorem Yy {ks : List Nat} {φ φ' : Phi} (h : Agree ks φ φ') : ∀ xs : List AV, (∀ i ∈ ks, AV.hasL i xs = false) -> AV.concL φ' xs = AV.concL φ xs
 | [], _ => rfl
 | x :: xs, hx => by
  have hx' : ∀ i ∈ ks, x.has i = false /\ AV.hasL i xs = false := fun i hi => by simpa [AV.hasL] using hx i hi
  simp only [AV.concL, Yfl h x fun i hi => (hx' i hi).1, Yy h xs fun i hi => (hx' i hi).2]
end
theorem Yw (φ : Phi) : ∀ xs : List AV, AV.concL φ xs = xs.map (AV.conc φ)
 | [] => rfl
 | x :: xs => by simp [AV.concL, Yw φ xs]
theorem Yo (i : Nat) : ∀ xs : List AV, AV.hasL i xs = xs.any (AV.has i)
 | [] => rfl
 | x :: xs => by simp [AV.hasL, Yo i xs]
theorem Yjk {i : Nat} {xs : List AV} (h : AV.hasL i xs = false) {x : AV} (hx : x ∈ xs) : x.has i = false := by
 rw [Yo, List.any_eq_false] at h;simpa using h x hx
def entI : Nat -> List (Int × Int) -> List MapEntry
 | _, [] => []
 | n, p :: es => ⟨.int .i64 p.1, .int .i64 p.2, n⟩ :: entI (n + 1) es
def entP : Nat -> Dt -> List MapEntry
 | _, [] => []
 | n, r :: es => ⟨.agg #[.int .i64 (r.getD 0 .z).int, .int .i64 (r.getD 1 .z).int, .int .i64 (r.getD 2 .z).int, .int .i64 (r.getD 3 .z).int, .int .i64 (r.getD 4 .z).int, .int .i64 (r.getD 5 .z).int], .int .i64 (r.getD 6 .z).int, n⟩ :: entP (n + 1) es
inductive OI where
 | sit (s : ByteArray) (pos : Nat)
 | mpV (es : List MapEntry) (clock : Nat)
 | dfb (open_ : Bool)
 | mpI (es : List (Int × Int))
 | mpP (xs : Dt)
def OI.obj : OI -> Obj
 | .sit s pos => .stringIter s pos
 | .mpV es clock => .map es.toArray clock
 | .dfb true => .deferred (some [])
 | .dfb false => .deferred none
 | .mpI es => .map (entI 0 es).toArray es.length
 | .mpP xs => .map (entP 0 xs).toArray xs.length
structure LI where
 st : LoopState
 pend : Option Code
 ps : Array Tmp
 assign : Code
 body : Code
def defB : List Value -> Nat
 | .map (some b) :: _ => b
 | _ => 0
def LI.obj (L : LI) (fn : Nat) (vs : List Value) : Obj := .loop { state := L.st, pending := L.pend, fn := fn, tmps := vs.tail.toArray, params := L.ps, assign := L.assign, body := L.body, defers := defB vs }
inductive It where
 | blk (T : TypeId) (cs : List AV)
 | row (T sz n : Nat) (cs : List AV)
 | rowV (T sz n : Nat) (xs : List Value)
 | obj (x : OI)
 | lp (L : LI) (cs : List AV)
 | dead
 | arr (T : Nat) (ts : List Ty) (xs : Dt)
 | bk (T : Nat) (ts : List Ty) (xs : Dt) (j : Nat)
 | bkv (T sz n : Nat) (cs : List AV) (j : Nat)
 | nst (T : Nat) (ts : List Ty) (xs : Dt)
 | fro (ts : List Ty) (xs : Dt)
def Yv7 (h h' : Hd) (T : Nat) (ts : List Ty) (xs : Dt) : Res :=
 if h.nil = false /\ h'.nil = false /\ h.b = h'.b then (if h.c = h'.c /\ h.fn = xs.length /\ h.fn <= h.c then .row (.slice none 0 0) 0 0 0 [] else .row (.slice none 0 0) 0 0 1 [])
 else .row (.slice (if h.nil then none else some ⟨h.b, 0, none⟩) h.fn h.c) T ts.length h.fn (Yl ts xs)
def Yv6 (h h' : Hd) (T sz n : Nat) (xs : List Value) : Res :=
 if h.nil = false /\ h'.nil = false /\ h.b = h'.b then (if h.c = h'.c /\ n <= h.c then .row (.slice none 0 0) 0 0 0 [] else .row (.slice none 0 0) 0 0 1 [])
 else .row (.slice (if h.nil then none else some ⟨h.b, 0, none⟩) n h.c) T sz n xs
def It.conc (φ : Phi) (id : Nat) : It -> Res
 | .blk T cs => .blk (φ id).b (.cells (AV.concL φ cs).toArray T (0, 0))
 | .row T sz n cs => .row (.slice (if (φ id).nil then none else some ⟨(φ id).b, 0, none⟩) n (φ id).c) T sz n (AV.concL φ cs)
 | .rowV T sz n xs => .row (.slice (if (φ id).nil then none else some ⟨(φ id).b, 0, none⟩) n (φ id).c) T sz n xs
 | .obj x => .blk (φ id).b x.obj
 | .lp L cs => .blk (φ id).b (L.obj (φ id).fn (AV.concL φ cs))
 | .dead => .row (.slice none 0 0) 0 0 0 []
 | .arr T ts xs => .row (.slice (if (φ id).nil then none else some ⟨(φ id).b, 0, none⟩) (φ id).fn (φ id).c) T ts.length (φ id).fn (Yl ts xs)
 | .bk T ts xs j => Yv7 (φ id) (φ j) T ts xs
 | .bkv T sz n cs j => Yv6 (φ id) (φ j) T sz n (AV.concL φ cs)
 | .nst T ts xs => .nst (.slice (if (φ id).nil then none else some ⟨(φ id).b, 0, none⟩) (φ id).fn (φ id).c) T ts (φ id).fn xs (φ id).F
 | .fro ts xs => .fro (φ id).v ts xs (φ id).F
def It.has (i : Nat) : It -> Bool
 | .blk _ cs => AV.hasL i cs
 | .row _ _ _ cs => AV.hasL i cs
 | .rowV .. => false
 | .obj _ => false
 | .lp _ cs => AV.hasL i cs
 | .dead => false
 | .arr .. => false
 | .bk _ _ _ j => Nat.beq j i
 | .bkv _ _ _ cs j => Nat.beq j i || AV.hasL i cs
 | .nst .. => false
 | .fro .. => false
abbrev Heap := List (Nat × It)
def keys (h : Heap) : List Nat := h.map (·.1)
def Yb (φ : Phi) (h : Heap) : RL := h.map fun p => p.2.conc φ p.1
theorem Yhq {ks : List Nat} {φ φ' : Phi} (h : Agree ks φ φ') {id : Nat} (hid : id ∉ ks) : ∀ x : It, (∀ i ∈ ks, x.has i = false) -> x.conc φ' id = x.conc φ id
 | .blk T cs, hx => by simp only [It.conc, h id hid, Yy h cs fun i hi => by simpa [It.has] using hx i hi]
 | .row T sz n cs, hx => by simp only [It.conc, h id hid, Yy h cs fun i hi => by simpa [It.has] using hx i hi]
 | .rowV .., hx => by simp only [It.conc, h id hid]
 | .obj _, hx => by simp only [It.conc, h id hid]
 | .lp L cs, hx => by simp only [It.conc, h id hid, Yy h cs fun i hi => by simpa [It.has] using hx i hi]
 | .dead, hx => rfl
 | .arr .., hx => by simp only [It.conc, h id hid]
 | .bk _ _ _ j, hx => by
  have : j ∉ ks := fun hm => by have := hx j hm; simp [It.has, Nat.beq_refl] at this
  simp only [It.conc, h id hid, h j this]
 | .nst .., hx => by simp only [It.conc, h id hid]
 | .fro .., hx => by simp only [It.conc, h id hid]
 | .bkv _ _ _ cs j, hx => by
  have : j ∉ ks := fun hm => by have := hx j hm; simp [It.has, Nat.beq_refl] at this
  simp only [It.conc, h id hid, h j this, Yy h cs fun i hi => by have := hx i hi; simp only [It.has, Bool.or_eq_false_iff] at this; exact this.2]
def hasH (i : Nat) : Heap -> Bool
 | [] => false
 | p :: h => Nat.beq p.1 i || p.2.has i || hasH i h
theorem Yx {i : Nat} {h : Heap} (hh : hasH i h = false) {p : Nat × It} (hp : p ∈ h) : p.1 ≠ i /\ p.2.has i = false := by
 induction h with
 | nil => cases hp
 | cons q h ih =>
  simp only [hasH, Bool.or_eq_false_iff] at hh;rcases List.mem_cons.1 hp with rfl | hp
  ·exact ⟨fun e => by rw [e, Nat.beq_refl] at hh; simp at hh, hh.1.2⟩
  ·exact ih hh.2 hp
theorem Ye1 {i : Nat} {h : Heap} (hh : ∀ p ∈ h, p.1 ≠ i /\ p.2.has i = false) : hasH i h = false := by
 induction h with
 | nil => rfl
 | cons q h ih =>
  have h1 := hh q List.mem_cons_self;simp only [hasH, Bool.or_eq_false_iff];refine ⟨⟨?_, h1.2⟩, ih fun p hp => hh p (List.mem_cons_of_mem _ hp)⟩;cases hb : Nat.beq q.1 i with
  | false => rfl
  | true => exact absurd (Nat.eq_of_beq_eq_true hb) h1.1
theorem Ybm {ks : List Nat} {φ φ' : Phi} (h : Agree ks φ φ') {hp : Heap} (hx : ∀ i ∈ ks, hasH i hp = false) : Yb φ' hp = Yb φ hp := by
 unfold Yb;refine List.map_congr_left fun p hp' => Yhq h (fun hm => (Yx (hx _ hm) hp').1 rfl) _ fun i hi => (Yx (hx i hi) hp').2
theorem Yn (φ : Phi) (a b : Heap) : Yb φ (a ++ b) = Yb φ a ++ Yb φ b := by simp [Yb]
def look : Heap -> Nat -> Option It
 | [], _ => none
 | p :: h, i => match Nat.beq p.1 i with | true => some p.2 | false => look h i
def upd : Heap -> Nat -> It -> Heap
 | [], _, _ => []
 | p :: h, i, x => match Nat.beq p.1 i with | true => (p.1, x) :: h | false => p :: upd h i x
def ins : Heap -> Nat -> It -> Heap
 | [], i, x => [(i, x)]
 | p :: h, i, x => match Nat.ble p.1 i with | true => p :: ins h i x | false => (i, x) :: p :: h
def Yh (h : Heap) : Heap -> Heap
 | [] => h
 | p :: us => Yh (upd h p.1 p.2) us
def Ybe (h : Heap) : Heap -> Heap
 | [] => h
 | p :: us => Ybe (ins h p.1 p.2) us
theorem Ye {a b : Nat} : Nat.beq a b = true ↔ a = b := ⟨Nat.eq_of_beq_eq_true, fun h => by rw [h, Nat.beq_refl]⟩
theorem Y4 {a b : Nat} : Nat.beq a b = false ↔ a ≠ b := by
 rw [<- Bool.not_eq_true, ne_eq, Ye]
theorem Yt (p : Nat × It) (h : Heap) (i : Nat) : look (p :: h) i = if p.1 = i then some p.2 else look h i := by
 by_cases e : p.1 = i
 ·simp only [look, Ye.2 e, if_pos e]
 ·simp only [look, Y4.2 e, if_neg e]
theorem Yrk (h : Heap) (i : Nat) (x : It) (k : Nat) : look (upd h i x) k = if k = i /\ (look h i).isSome then some x else look h k := by
 induction h with
 | nil => simp [upd, look]
 | cons p h ih =>
  unfold upd
  by_cases e : p.1 = i
  ·rw [Ye.2 e];simp only [Yt, e]
   by_cases ek : i = k
   ·subst ek; simp
   ·simp [ek, show ¬ k = i from fun h => ek h.symm]
  ·rw [Y4.2 e];simp only [Yt, ih, e, if_false]
   by_cases ek : p.1 = k
   ·subst ek; simp [e]
   ·simp [ek]
theorem Ylq (h : Heap) (i : Nat) (x : It) : keys (upd h i x) = keys h := by
 induction h with
 | nil => rfl
 | cons p h ih =>
  unfold upd;cases Nat.beq p.1 i <;> simp_all [keys]
theorem Y4d (h : Heap) (i : Nat) (x : It) (k : Nat) (hn : look h i = none) : look (ins h i x) k = if k = i then some x else look h k := by
 induction h with
 | nil => simp only [ins, Yt, look]; by_cases e : i = k <;> simp [e, eq_comm]
 | cons p h ih =>
  have hp : p.1 ≠ i := fun e => by simp [Yt, e] at hn
  have hn' : look h i = none := by simpa [Yt, hp] using hn
  unfold ins;cases Nat.ble p.1 i with
  | true =>
   simp only [Yt, ih hn']
   by_cases ek : p.1 = k
   ·subst ek; simp [hp]
   ·simp [ek]
  | false =>
   simp only [Yt]
   by_cases ek : i = k
   ·subst ek; simp
   ·simp [ek, show ¬ k = i from fun h => ek h.symm]
theorem Yxm (h : Heap) (i : Nat) (x : It) : (keys (ins h i x)).Perm (i :: keys h) := by
 induction h with
 | nil => exact List.Perm.refl _
 | cons p h ih =>
  unfold ins;cases Nat.ble p.1 i with
  | true => exact (List.Perm.cons _ ih).trans (List.Perm.swap _ _ _)
  | false => exact List.Perm.refl _
theorem Ybq {h : Heap} {i : Nat} (hh : i ∉ keys h) : look h i = none := by
 induction h with
 | nil => rfl
 | cons p h ih =>
  simp only [keys, List.map_cons, List.mem_cons, not_or] at hh;rw [Yt, if_neg (Ne.symm hh.1)];exact ih hh.2
theorem Ycs {h : Heap} {i : Nat} {x : It} (hl : look h i = some x) : i ∈ keys h := by
 cases Classical.em (i ∈ keys h) with
 | inl h => exact h
 | inr hh => rw [Ybq hh] at hl; cases hl
theorem Yba {h : Heap} {i : Nat} {x : It} (hl : look h i = some x) : (i, x) ∈ h := by
 induction h with
 | nil => simp [look] at hl
 | cons p h ih =>
  rw [Yt] at hl
  split at hl
  ·rename_i e;cases hl;rw [<- e];exact List.mem_cons_self
  ·exact List.mem_cons_of_mem _ (ih hl)
theorem Yb3 {h : Heap} (hn : (keys h).Nodup) {p : Nat × It} (hm : p ∈ h) : look h p.1 = some p.2 := by
 induction h with
 | nil => cases hm
 | cons q h ih =>
  simp only [keys, List.map_cons, List.nodup_cons] at hn;rw [Yt];rcases List.mem_cons.1 hm with rfl | hm
  ·simp
  ·rw [if_neg (fun e => hn.1 (by rw [e]; exact List.mem_map_of_mem hm))];exact ih hn.2 hm
theorem Yi9 {h : Heap} (hn : (keys h).Nodup) : h.Nodup := by
 induction h with
 | nil => exact List.nodup_nil
 | cons q h ih =>
  simp only [keys, List.map_cons, List.nodup_cons] at hn;exact List.nodup_cons.2 ⟨fun hm => hn.1 (List.mem_map_of_mem hm), ih hn.2⟩
theorem Ygr {h k : Heap} (hn : (keys h).Nodup) (kn : (keys k).Nodup) (e : ∀ i, look h i = look k i) : h.Perm k := by
 refine (List.perm_ext_iff_of_nodup (Yi9 hn) (Yi9 kn)).2 fun p => ⟨fun hm => ?_, fun hm => ?_⟩
 ·exact Yba ((e _).symm.trans (Yb3 hn hm))
 ·exact Yba ((e _).trans (Yb3 kn hm))
theorem Yei : ∀ (us h : Heap), keys (Yh h us) = keys h
 | [], h => rfl
 | p :: us, h => by rw [Yh, Yei us, Ylq]
theorem Yjf (a b : Heap) (i : Nat) : look (a ++ b) i = (look a i).or (look b i) := by
 induction a with
 | nil => rfl
 | cons p a ih =>
  rw [List.cons_append, Yt, Yt, ih]
  split <;> rfl
theorem Ybo (a b : Heap) : keys (a ++ b) = keys a ++ keys b := by simp [keys]
theorem Yii : ∀ (us h : Heap), (keys us).Nodup -> (∀ i ∈ keys us, i ∉ keys h) -> ∀ k, look (Ybe h us) k = (look us k).or (look h k)
 | [], h, _, _, k => rfl
 | p :: us, h, hn, hf, k => by
  simp only [keys, List.map_cons, List.nodup_cons, List.mem_cons, forall_eq_or_imp] at hn hf;rw [Ybe, Yii us _ hn.2 (fun i hi hm => ?_) k, Y4d _ _ _ _ (Ybq hf.1), Yt]
  ·by_cases e : k = p.1
   ·subst e; simp [Ybq hn.1]
   ·simp [e, show ¬ p.1 = k from fun h => e h.symm]
  ·rcases List.mem_cons.1 ((Yxm h p.1 p.2).mem_iff.1 hm) with e | hm
   ·exact hn.1 (e ▸ hi)
   ·exact hf.2 i hi hm
theorem Yij : ∀ (us h : Heap), (keys (Ybe h us)).Perm (keys us ++ keys h)
 | [], h => List.Perm.refl _
 | p :: us, h => by
  rw [Ybe];refine (Yij us _).trans ?_;refine ((List.Perm.refl _).append (Yxm h p.1 p.2)).trans ?_;simp only [keys, List.map_cons, List.cons_append];exact List.perm_middle
end Go.Proofs.YtladoaeefkpdiaaGreatDoor
namespace Go.Proofs.YtladoaeefkpdiaaGreatDoor
open Go.RowKit
variable [InW]
def rgg : Nat -> Nat -> List Nat
 | _, 0 => []
 | a, n + 1 => a :: rgg (a + 1) n
def Stuck (n : Nat) : Prop := n = n + 1
theorem Stuck.elim {n : Nat} {α : Prop} (h : Stuck n) : α := absurd h (by unfold Stuck; omega)
attribute [irreducible] Stuck
def vcIf (b : Bool) (A B : Prop) : Prop := match b with | true => A | false => B
def Y1f (b : Bool) : Prop := b = false /\ False
def Yc (b : Bool) (A : Prop) : Prop := match b with | true => A | false => Y1f b
def Y3 (n : Nat) (K : Nat -> Prop) : Prop := match n with | 0 => K 0 | m + 1 => K (m + 1)
def Yqa (n : Int) (K : Int -> Prop) : Prop := match n with | .ofNat m => Y3 m fun m => K (.ofNat m) | .negSucc m => Y3 m fun m => K (.negSucc m)
theorem Ye7 {b : Bool} {A B : Prop} (h : vcIf b A B) : (b = true /\ A) \/ (b = false /\ B) := by cases b <;> simp_all [vcIf]
theorem Ya {b : Bool} {A : Prop} (h : Yc b A) : b = true /\ A := by cases b <;> simp_all [Yc, Y1f]
theorem Yk {n : Nat} {K : Nat -> Prop} : Y3 n K ↔ K n := by cases n <;> exact Iff.rfl
theorem Yhr {n : Int} {K : Int -> Prop} : Yqa n K ↔ K n := by
 cases n with
 | ofNat m => exact Yk (K := fun m => K (.ofNat m))
 | negSucc m => exact Yk (K := fun m => K (.negSucc m))
inductive Vif (b : Bool) (A B : Prop) : Prop where
 | mk (h1 : b = true -> A) (h2 : b = false -> B)
inductive Need (b : Bool) (A : Prop) : Prop where
 | mk (h : b = true) (a : A)
inductive Ar (k : IntKind) (n : Int) (K : Int -> Prop) : Prop where
 | mk (h : K (k.wrap n))
theorem Vif.spec {b : Bool} {A B : Prop} (h : Vif b A B) : (b = true /\ A) \/ (b = false /\ B) := by
 obtain ⟨h1, h2⟩ := h;cases b
 ·exact .inr ⟨rfl, h2 rfl⟩
 ·exact .inl ⟨rfl, h1 rfl⟩
theorem Y5a {b : Bool} {A : Prop} : Need b A ↔ b = true /\ A := ⟨fun ⟨a, b⟩ => ⟨a, b⟩, fun ⟨a, b⟩ => ⟨a, b⟩⟩
section
variable {α : Type}
def getK (l : List α) : Nat -> (α -> Prop) -> Prop :=
 List.rec (motive := fun _ => Nat -> (α -> Prop) -> Prop) (fun _ _ => Stuck 2) (fun x _ ih n K => Nat.rec (motive := fun _ => Prop) (K x) (fun m _ => ih m K) n) l
def Ykq : List α -> Nat -> (List α -> Prop) -> Prop
 | l, 0, K => K l
 | [], _ + 1, _ => Stuck 4
 | _ :: xs, n + 1, K => Ykq xs n K
def Yiu : List α -> Nat -> (List α -> Prop) -> Prop
 | _, 0, K => K []
 | [], _ + 1, _ => Stuck 5
 | x :: xs, n + 1, K => Yiu xs n fun r => K (x :: r)
def Y31 : List α -> List α -> (List α -> Prop) -> Prop
 | l, [], K => K l
 | [], _ :: _, _ => Stuck 6
 | _ :: xs, v :: vs, K => Y31 xs vs fun r => K (v :: r)
def Yos : List α -> Nat -> List α -> (List α -> Prop) -> Prop
 | l, 0, vs, K => Y31 l vs K
 | [], _ + 1, _, _ => Stuck 7
 | x :: xs, n + 1, vs, K => Yos xs n vs fun r => K (x :: r)
def appK : List α -> List α -> (List α -> Prop) -> Prop
 | [], m, K => K m
 | x :: xs, m, K => appK xs m fun r => K (x :: r)
theorem Ybh {K : α -> Prop} : ∀ {l : List α} {n : Nat}, getK l n K -> ∃ x, l[n]? = some x /\ K x
 | [], _, h => h.elim
 | x :: xs, 0, h => ⟨x, rfl, h⟩
 | x :: xs, n + 1, h => by simpa using Ybh (l := xs) h
theorem Yb8 {K : List α -> Prop} : ∀ {l : List α} {n : Nat}, Ykq l n K -> n <= l.length /\ K (l.drop n)
 | l, 0, h => ⟨Nat.zero_le _, by simpa [Ykq] using h⟩
 | [], _ + 1, h => h.elim
 | x :: xs, n + 1, h => by simpa using Yb8 (l := xs) h
theorem Ybw : ∀ {l : List α} {n : Nat} {K : List α -> Prop}, Yiu l n K -> n <= l.length /\ K (l.take n)
 | l, 0, _, h => ⟨Nat.zero_le _, by simpa [Yiu] using h⟩
 | [], _ + 1, _, h => h.elim
 | x :: xs, n + 1, K, h => by simpa using Ybw (l := xs) h
theorem Ypr : ∀ {l vs : List α} {K : List α -> Prop}, Y31 l vs K -> vs.length <= l.length /\ K (vs ++ l.drop vs.length)
 | l, [], _, h => ⟨Nat.zero_le _, by simpa [Y31] using h⟩
 | [], _ :: _, _, h => h.elim
 | x :: xs, v :: vs, K, h => by simpa using Ypr (l := xs) h
theorem Yde {vs : List α} : ∀ {l : List α} {k : Nat} {K : List α -> Prop}, Yos l k vs K -> k + vs.length <= l.length /\ K (l.take k ++ vs ++ l.drop (k + vs.length))
 | l, 0, K, h => by simpa [Yos] using Ypr (by simpa [Yos] using h)
 | [], _ + 1, _, h => h.elim
 | x :: xs, n + 1, K, h => by
  have := Yde (l := xs) h;simp only [List.length_cons, List.take_succ_cons, List.cons_append, show n + 1 + vs.length = n + vs.length + 1 by omega, List.drop_succ_cons];exact ⟨by omega, this.2⟩
theorem Yct : ∀ {l m : List α} {K : List α -> Prop}, appK l m K ↔ K (l ++ m)
 | [], m, K => Iff.rfl
 | x :: xs, m, K => by simpa [appK] using Yct (l := xs)
end
def Yu : Heap -> Nat -> (It -> Prop) -> Prop
 | [], _, _ => Stuck 8
 | p :: h, i, K => match Nat.beq p.1 i with | true => K p.2 | false => Yu h i K
def updK : Heap -> Nat -> It -> (Heap -> Prop) -> Prop
 | [], _, _, K => K []
 | p :: h, i, x, K => match Nat.beq p.1 i with | true => K ((p.1, x) :: h) | false => updK h i x fun r => K (p :: r)
def insK : Heap -> Nat -> It -> (Heap -> Prop) -> Prop
 | [], i, x, K => K [(i, x)]
 | p :: h, i, x, K => match Nat.ble p.1 i with | true => insK h i x fun r => K (p :: r) | false => K ((i, x) :: p :: h)
def Yge : Heap -> Heap -> (Heap -> Prop) -> Prop
 | h, [], K => K h
 | h, p :: us, K => updK h p.1 p.2 fun h => Yge h us K
def Yf3 : Heap -> Heap -> (Heap -> Prop) -> Prop
 | h, [], K => K h
 | h, p :: us, K => insK h p.1 p.2 fun h => Yf3 h us K
theorem Yf {K : It -> Prop} : ∀ {h : Heap} {i : Nat}, Yu h i K -> ∃ x, look h i = some x /\ K x
 | [], _, h => h.elim
 | p :: h, i, hk => by
  unfold Yu at hk;unfold look;cases hb : Nat.beq p.1 i with
  | true => rw [hb] at hk; exact ⟨_, rfl, hk⟩
  | false => rw [hb] at hk; exact Yf hk
theorem Yeu : ∀ {h : Heap} {i : Nat} {x : It} {K : Heap -> Prop}, updK h i x K ↔ K (upd h i x)
 | [], _, _, _ => Iff.rfl
 | p :: h, i, x, K => by
  unfold updK upd;cases hb : Nat.beq p.1 i with
  | true => exact Iff.rfl
  | false => exact Yeu (h := h)
theorem Yxn : ∀ {h : Heap} {i : Nat} {x : It} {K : Heap -> Prop}, insK h i x K ↔ K (ins h i x)
 | [], _, _, _ => Iff.rfl
 | p :: h, i, x, K => by
  unfold insK ins;cases hb : Nat.ble p.1 i with
  | true => exact Yxn (h := h)
  | false => exact Iff.rfl
theorem Yda : ∀ {us h : Heap} {K : Heap -> Prop}, Yge h us K ↔ K (Yh h us)
 | [], _, _ => Iff.rfl
 | p :: us, h, K => by simp only [Yge, Yh, Yeu, Yda (us := us)]
theorem Ycw : ∀ {us h : Heap} {K : Heap -> Prop}, Yf3 h us K ↔ K (Ybe h us)
 | [], _, _ => Iff.rfl
 | p :: us, h, K => by simp only [Yf3, Ybe, Yxn, Ycw (us := us)]
structure TI where
 agg : Option Bool
 size : Option Nat
 zero : Option (List AV)
 fields : List (Option (Nat × Nat))
 slice : Option (Nat × Nat × Nat × List AV)
 arr : Option (Nat × Nat × Bool)
def mkTI (P : Program) (T : TypeId) : TI :=
  { agg := (P.underlying T).map fun d => match d with | .struct _ | .array _ _ => true | _ => false
    size := (P.info? T).map (·.size)
    zero := (Yis P T).map fun zs => zs.toList.map AV.v
    fields := match P.underlying T with | some (.struct fs) => fs.toList.map (fun f => (P.info? f.type).map fun j => (f.offset, j.size)) | _ => []
    slice := match P.underlying T with | some (.slice e) => (P.info? e).bind fun i => i.zero.map fun z => (e, i.size, i.bytes, z.cells.toList.map AV.v) | _ => none
    arr := match P.underlying T with | some (.array n e) => (P.info? e).bind fun i => (P.underlying e).map fun d => (n, i.size, match d with | .struct _ | .array _ _ => true | _ => false) | _ => none }
inductive Tr (α : Type) where
 | nil
 | node (l : Tr α) (x : α) (r : Tr α)
def Tr.at {α : Type} : Tr α -> Nat -> Option α
 | .nil, _ => none
 | .node l x r, n => match n with | 0 => some x | n + 1 => (match Nat.beq (n % 2) 0 with | true => l.at (n / 2) | false => r.at (n / 2))
def trK {α : Type} : Tr α -> Nat -> (α -> Prop) -> Prop
 | .nil, _, _ => Stuck 8
 | .node l x r, n, K => match n with | 0 => K x | n + 1 => (match Nat.beq (n % 2) 0 with | true => trK l (n / 2) K | false => trK r (n / 2) K)
theorem Yqs {α : Type} : ∀ {t : Tr α} {n : Nat} {K : α -> Prop}, trK t n K -> ∃ x, t.at n = some x /\ K x
 | .nil, _, _, h => h.elim
 | .node l x r, n, K, h => by
  cases n with
  | zero => exact ⟨x, rfl, h⟩
  | succ n =>
   simp only [trK, Tr.at] at h ⊢;cases hb : Nat.beq (n % 2) 0 with
   | true => rw [hb] at h; exact Yqs h
   | false => rw [hb] at h; exact Yqs h
def Yx8 {α : Type} : Nat -> (Nat -> α) -> Tr α
 | 0, _ => .nil
 | d + 1, f => .node (Yx8 d fun n => f (2 * n + 1)) (f 0) (Yx8 d fun n => f (2 * n + 2))
theorem Yqr {α : Type} : ∀ (d : Nat) (f : Nat -> α) (n : Nat) (x : α), (Yx8 d f).at n = some x -> x = f n
 | 0, _, _, _, h => by cases h
 | d + 1, f, n, x, h => by
  cases n with
  | zero => simp only [Yx8, Tr.at, Option.some.injEq] at h; exact h.symm
  | succ n =>
   simp only [Yx8, Tr.at] at h;cases hb : Nat.beq (n % 2) 0 with
   | true =>
    rw [hb] at h;rw [Yqr d _ _ x h];have := Nat.eq_of_beq_eq_true hb
    congr 1
    omega
   | false =>
    rw [hb] at h;rw [Yqr d _ _ x h];have : n % 2 ≠ 0 := fun e => by rw [e] at hb; cases hb
    congr 1
    omega
def TabOk (P : Program) (tt : Tr TI) : Prop := ∀ T ti, tt.at T = some ti -> ti = mkTI P T
theorem TabOk.of {P : Program} {tt : Tr TI} (d : Nat) (h : tt = Yx8 d (mkTI P)) : TabOk P tt := fun T ti ht => by
 rw [h] at ht;exact Yqr d _ T ti ht
section
variable {P : Program} {tt : Tr TI} {T : TypeId}
theorem Ycr {b : Bool} (h : (mkTI P T).agg = some b) : Yfp P T b := h
theorem Ycq {n : Nat} (h : (mkTI P T).size = some n) : Ycd P T n := h
theorem Yjc {zs : List AV} (h : (mkTI P T).zero = some zs) (φ : Phi) : Yis P T = some (AV.concL φ zs).toArray /\ ∀ i, AV.hasL i zs = false := by
 simp only [mkTI, Option.map_eq_some_iff] at h;obtain ⟨a, h1, rfl⟩ := h;refine ⟨by rw [h1, Yw]; simp [Function.comp_def, AV.conc], fun i => by simp [Yo, AV.has]⟩
theorem Yfe {i off n : Nat} (h : (mkTI P T).fields[i]? = some (some (off, n + 1))) : Yha P T i off := by
 simp only [mkTI] at h;unfold Yha;cases hu : P.underlying T with
 | none => simp [hu] at h
 | some d =>
  cases d <;> simp only [hu, List.getElem?_nil, reduceCtorEq] at h
  case struct fs =>
   simp only [List.getElem?_map, Array.getElem?_toList, Option.map_eq_some_iff] at h;obtain ⟨f, hf, j, hj, h2⟩ := h;simp only [Prod.mk.injEq] at h2;simp [hf, hj, h2]
theorem Yi {e sz by_ : Nat} {zs : List AV} (h : (mkTI P T).slice = some (e, sz, by_, zs)) (φ : Phi) : SliceOf P T e sz by_ (AV.concL φ zs).toArray /\ ∀ i, AV.hasL i zs = false := by
 simp only [mkTI] at h;cases hu : P.underlying T with
 | none => simp [hu] at h
 | some d =>
  cases d <;> simp only [hu, reduceCtorEq] at h
  case slice e' =>
   simp only [Option.bind_eq_some_iff, Option.map_eq_some_iff, Prod.mk.injEq] at h;obtain ⟨i, hi, z, hz, rfl, rfl, rfl, rfl⟩ := h;refine ⟨⟨hu, ?_⟩, fun i => by simp [Yo, AV.has]⟩;rw [hi, Yw];simp [hz, Function.comp_def, AV.conc]
end
theorem Yfw {P : Program} {T : TypeId} {n sz : Nat} {b : Bool} (h : (mkTI P T).arr = some (n, sz, b)) : ∃ e, P.underlying T = some (.array n e) /\ Ycd P e sz /\ Yfp P e b := by
 simp only [mkTI] at h;cases hu : P.underlying T with
 | none => simp [hu] at h
 | some d =>
  cases d <;> simp only [hu, reduceCtorEq] at h
  case array n' e =>
   simp only [Option.bind_eq_some_iff, Option.map_eq_some_iff, Prod.mk.injEq] at h;obtain ⟨i, hi, d, hd, rfl, rfl, rfl⟩ := h;exact ⟨e, rfl, by simp [Ycd, hi], by unfold Yfp; rw [hd]; cases d <;> rfl⟩
def tiK (tt : Tr TI) (T : TypeId) (K : TI -> Prop) : Prop := trK tt T K
theorem Yj {P : Program} {tt : Tr TI} {T : TypeId} {K : TI -> Prop} (ht : TabOk P tt) (h : tiK tt T K) : K (mkTI P T) := by
 obtain ⟨ti, h1, h2⟩ := Yqs h;rwa [<- ht T ti h1]
def Yxc (x : AV) (K : AV -> Prop) : Prop := match x with | .junk => Stuck 9 | .held _ => Stuck 74 | y => K y
theorem Yif {x : AV} {K : AV -> Prop} (h : Yxc x K) : x.rd = true /\ K x := by
 cases x <;> first | exact h.elim | exact ⟨rfl, h⟩
def At (tm : List AV) (x : Operand) (v : AV) : Prop :=
 match x with | .tmp t => tm[t]? = some v | .const c => v = .v c | .global _ => False | .func f => v = .fn (.func f) [] []
def evK (tm : List AV) (x : Operand) (K : AV -> Prop) : Prop :=
 match x with | .tmp t => getK tm t fun v => Yxc v K | .const c => K (.v c) | .global _ => Stuck 11 | .func f => K (.fn (.func f) [] [])
theorem Yd {tm : List AV} {x : Operand} {K : AV -> Prop} (h : evK tm x K) : ∃ v, v.rd = true /\ At tm x v /\ K v := by
 cases x with
 | tmp t =>
  obtain ⟨v, h1, h2⟩ := Ybh h;have := Yif h2;exact ⟨v, this.1, h1, this.2⟩
 | const c => exact ⟨_, by simp, rfl, h⟩
 | global g => exact h.elim
 | func f => exact ⟨_, by simp, rfl, h⟩
def evsK (tm : List AV) : List Operand -> (List AV -> Prop) -> Prop
 | [], K => K []
 | x :: xs, K => evK tm x fun v => evsK tm xs fun vs => K (v :: vs)
inductive Ats (tm : List AV) : List Operand -> List AV -> Prop
 | nil : Ats tm [] []
 | cons {x : Operand} {v : AV} {xs : List Operand} {vs : List AV} (hj : v.rd = true) (h : At tm x v) (t : Ats tm xs vs) : Ats tm (x :: xs) (v :: vs)
theorem Yfj {tm : List AV} : ∀ {xs : List Operand} {K : List AV -> Prop}, evsK tm xs K -> ∃ vs, Ats tm xs vs /\ K vs
 | [], K, h => ⟨[], .nil, h⟩
 | x :: xs, K, h => by
  obtain ⟨v, hj, h1, h2⟩ := Yd h;obtain ⟨vs, h3, h4⟩ := Yfj (xs := xs) h2;exact ⟨v :: vs, .cons hj h1 h3, h4⟩
def Ye4 (φ : Phi) (x : AV) : Deferred := match x.conc φ with | .func fn first cap => { target := .fn fn cap, args := first } | .map (some b) => { target := .collected b, args := #[] } | _ => { target := .nil, args := #[] }
structure RepT (φ : Phi) (tm : List AV) (a : Act) : Prop where
 size : ∀ (t : Nat) (v : AV), tm[t]? = some v -> v.isHeld = false -> t < a.tmps.size
 held : ∀ (t : Nat) (v : AV), tm[t]? = some v -> v.isHeld = true -> a.tmps.size <= t
 slot : ∀ (t : Nat) (v : AV), tm[t]? = some v -> v.rd = true -> a.tmps[t]? = some (v.conc φ)
 df : a.defers = ((Ybf tm).map (Ye4 φ)).reverse
 len : a.tmps.size <= tm.length
def OpsAt (φ : Phi) (tm : List AV) (a : Act) (op : Op) : Prop := ∀ x ∈ op.operands, ∀ v, At tm x v -> v.rd = true -> a.eval x = v.conc φ
theorem RepT.ev {φ : Phi} {tm : List AV} {a : Act} (h : RepT φ tm a) {x : Operand} {v : AV} (hx : At tm x v) (hj : v.rd = true) : a.eval x = v.conc φ := by
 cases x with
 | tmp t => simp [Act.eval, Array.getD_eq_getD_getElem?, h.slot t v hx hj]
 | const c => have hx' : v = .v c := hx; subst hx'; rfl
 | global g => exact hx.elim
 | func f => have hx' : v = .fn (.func f) [] [] := hx; subst hx'; rfl
theorem RepT.ops {φ : Phi} {tm : List AV} {a : Act} (h : RepT φ tm a) (op : Op) : OpsAt φ tm a op := fun x _ v hx hj => h.ev hx hj
theorem Yb7 (a : Act) (x : Operand) : Yc8 a x = some (a.eval x) := by
 cases x with
 | tmp t => simp [Yc8, Ygv, Act.eval, Array.getD_eq_getD_getElem?, List.getD_eq_getElem?_getD]
 | const v => rfl
 | global g => rfl
 | func f => rfl
theorem OpsAt.ev {φ : Phi} {tm : List AV} {a : Act} {op : Op} (h : OpsAt φ tm a op) {x : Operand} (hm : x ∈ op.operands) {v : AV} (hx : At tm x v) (hj : v.rd = true) : Yc8 a x = some (v.conc φ) := by
 rw [Yb7, h x hm v hx hj]
def NewFor (ks : List Nat) (tm : List AV) (hs : Heap) : Prop := ∀ i ∈ ks, AV.hasL i tm = false /\ hasH i hs = false
def Does (P : Program) (o : Oper) (tm : List AV) (hs : Heap) (val : AV) (us nw : Heap) : Prop :=
 ∀ (φ : Phi) (w0 : World) (M : List Nat) (R : RL) (a : Act) (w : World) (K : Act -> World -> Prop) (Q : Exit -> Act -> World -> Prop),
  OpsAt φ tm a o.op -> NewFor (keys nw) tm hs -> St w0 M (Yb φ hs ++ R) w ->
  (∀ φ' w', Agree (keys nw) φ φ' -> St w0 M (Yb φ' (Yh hs us ++ nw) ++ R) w' -> K (a.put o.dst (val.conc φ')) w') -> o.wp P a w K Q
theorem At.new {tm : List AV} {x : Operand} {v : AV} (h : At tm x v) {i : Nat} (hn : AV.hasL i tm = false) : v.has i = false := by
 cases x with
 | tmp t => exact Yjk hn (List.mem_of_getElem? h)
 | const c => have h' : v = .v c := h; subst h'; rfl
 | global g => exact h.elim
 | func f => have h' : v = .fn (.func f) [] [] := h; subst h'; rfl
theorem Ats.new {tm : List AV} {xs : List Operand} {vs : List AV} (h : Ats tm xs vs) {i : Nat} (hn : AV.hasL i tm = false) : AV.hasL i vs = false := by
 induction h with
 | nil => rfl
 | cons hj h _ ih => simp only [AV.hasL, At.new h hn, ih, Bool.or_self]
theorem Does.pure {P : Program} {o : Oper} {tm : List AV} {hs : Heap} {val : AV} (h : ∀ (φ : Phi) (a : Act), OpsAt φ tm a o.op -> ∀ w, (execOp a.eval o).run P w = .ok (.value (val.conc φ)) w) : Does P o tm hs val [] [] :=
 fun φ w0 M R a w K Q ho _ hS kk => by
  unfold Oper.wp;rw [h φ a ho w];exact kk φ w (Agree.refl _ _) (by simpa [Yh] using hS)
end Go.Proofs.YtladoaeefkpdiaaGreatDoor
namespace Go.Proofs.YtladoaeefkpdiaaGreatDoor
open Go.RowKit
variable [InW]
attribute [local irreducible] Go.Oper.wp
section
variable {P : Program} {tm : List AV} {dst : Option Tmp} {type : TypeId} {pos : String} {after : Array Edge} {guard : Option (Nat × Bool)}
theorem Yg (φ : Phi) (xs : List AV) : (AV.concL φ xs).length = xs.length := by rw [Yw, List.length_map]
theorem Yck (φ : Phi) (xs : List AV) (k : Nat) : (AV.concL φ xs)[k]? = (xs[k]?).map (AV.conc φ) := by rw [Yw, List.getElem?_map]
theorem Ybz (φ : Phi) (xs ys : List AV) : AV.concL φ (xs ++ ys) = AV.concL φ xs ++ AV.concL φ ys := by simp only [Yw, List.map_append]
theorem Yea (φ : Phi) (xs : List AV) (n : Nat) : AV.concL φ (xs.take n) = (AV.concL φ xs).take n := by simp only [Yw, List.map_take]
theorem Yfm (φ : Phi) (xs : List AV) (n : Nat) : AV.concL φ (xs.drop n) = (AV.concL φ xs).drop n := by simp only [Yw, List.map_drop]
def Yrj : List Value -> (List AV -> Prop) -> Prop
 | [], K => K []
 | x :: xs, K => Yrj xs fun r => K (.v x :: r)
theorem Yeg : ∀ {xs : List Value} {K : List AV -> Prop}, Yrj xs K ↔ K (xs.map .v)
 | [], K => Iff.rfl
 | x :: xs, K => by simpa [Yrj] using Yeg (xs := xs)
def Yjv (x : AV) (K : List AV -> Prop) : Prop :=
 match x with
 | .agg cs => K cs
 | .tup _ => Stuck 12
 | .junk => Stuck 13
 | .held _ => Stuck 13
 | .opq _ => Stuck 13
 | .v (.agg cs) => Yrj cs.toList K
 | y => K [y]
theorem Ydk {x : AV} {K : List AV -> Prop} (h : Yjv x K) : ∃ cs, K cs /\ (∀ φ, (x.conc φ).cells = (AV.concL φ cs).toArray) /\ ∀ i, x.has i = false -> AV.hasL i cs = false := by
 cases x with
 | agg cs => exact ⟨cs, h, fun φ => rfl, fun i hi => by simpa [AV.has] using hi⟩
 | tup _ => exact h.elim
 | junk => exact h.elim
 | held _ => exact h.elim
 | opq _ => exact h.elim
 | v y =>
  cases y with
  | agg cs => exact ⟨_, Yeg.1 h, fun φ => by simp [AV.conc, Value.cells, Yw, Function.comp_def], fun i _ => by simp [Yo, AV.has]⟩
  | _ => exact ⟨_, h, fun φ => rfl, fun i hi => by simp [AV.hasL, AV.has]⟩
 | ptr _ _ => exact ⟨_, h, fun φ => rfl, fun i hi => by simp [AV.hasL, hi]⟩
 | sl _ _ _ _ => exact ⟨_, h, fun φ => rfl, fun i hi => by simp [AV.hasL, hi]⟩
 | slc _ _ _ _ => exact ⟨_, h, fun φ => rfl, fun i hi => by simp [AV.hasL, hi]⟩
 | emp _ => exact ⟨_, h, fun φ => rfl, fun i hi => by simp [AV.hasL, hi]⟩
 | fn _ _ _ => exact ⟨_, h, fun φ => rfl, fun i hi => by simp [AV.hasL, hi]⟩
 | ifc _ _ => exact ⟨_, h, fun φ => rfl, fun i hi => by simp [AV.hasL, hi]⟩
 | mp _ => exact ⟨_, h, fun φ => rfl, fun i hi => by simp [AV.hasL, hi]⟩
 | yl _ => exact ⟨_, h, fun φ => rfl, fun i hi => by simp [AV.hasL, hi]⟩
 | si _ _ => exact ⟨_, h, fun φ => rfl, fun i hi => by simp [AV.hasL, hi]⟩
 | sb _ => exact ⟨_, h, fun φ => rfl, fun i hi => by simp [AV.hasL, hi]⟩
 | ss _ => exact ⟨_, h, fun φ => rfl, fun i hi => by simp [AV.hasL, hi]⟩
 | rs ts r =>
  refine ⟨_, h, fun φ => ?_, fun i hi => by simp [AV.hasL, hi]⟩;obtain ⟨A, c, hv, _⟩ := r.inv;simp only [AV.conc, AV.concL, hv];rfl
 | rp _ _ _ _ => exact ⟨_, h, fun φ => rfl, fun i hi => by simp [AV.hasL, hi]⟩
 | rw _ => exact ⟨_, h, fun φ => rfl, fun i hi => by simp [AV.hasL, hi]⟩
 | ep _ _ _ _ => exact ⟨_, h, fun φ => rfl, fun i hi => by simp [AV.hasL, hi]⟩
 | rwp _ _ _ _ => exact ⟨_, h, fun φ => rfl, fun i hi => by simp [AV.hasL, hi]⟩
 | fp _ _ _ _ => exact ⟨_, h, fun φ => rfl, fun i hi => by simp [AV.hasL, hi]⟩
def AV.one : AV -> Bool
 | .v x => x.oneCell'
 | .agg _ => false
 | .tup _ => false
 | .junk => false
 | .held _ => false
 | .opq _ => false
 | _ => true
theorem Y39 {x : AV} (h : x.one = true) (φ : Phi) : (x.conc φ).oneCell' = true := by
 cases x
 case rs ts r =>
  obtain ⟨A, c, hv, _⟩ := r.inv;simp only [AV.conc, hv];rfl
 all_goals first | exact h | rfl | (simp [AV.one] at h)
def Yfb : List AV -> Bool
 | [] => true
 | x :: xs => match x.one with | true => Yfb xs | false => false
theorem Yb6 : ∀ {xs : List AV}, Yfb xs = true -> ∀ (φ : Phi), ∀ u ∈ AV.concL φ xs, u.oneCell' = true
 | [], _, φ, u, hu => by simp [AV.concL] at hu
 | x :: xs, h, φ, u, hu => by
  unfold Yfb at h
  split at h
  ·rename_i h1;simp only [AV.concL, List.mem_cons] at hu;rcases hu with rfl | hu
   ·exact Y39 h1 φ
   ·exact Yb6 h φ u hu
  ·cases h
def It.vals (φ : Phi) : It -> List Value
 | .blk _ cs => AV.concL φ cs
 | .row _ _ _ cs => AV.concL φ cs
 | .rowV _ _ _ xs => xs
 | .obj _ => []
 | .lp _ _ => []
 | .dead => []
 | .arr _ ts xs => Yl ts xs
 | .bk .. => []
 | .bkv .. => []
 | .nst .. => []
 | .fro .. => []
theorem Yew {w : World} {b c n sz : Nat} {nil : Bool} {T : TypeId} {xs : List Value} (h : w.ownsRow 0 T sz (.slice (if nil then none else some ⟨b, 0, none⟩) n c) n xs) {k : Nat} {v : Value} (hv : xs[k]? = some v) : w.cell? ⟨b, k, none⟩ = some v := by
 cases nil with
 | true =>
  rcases h.2 with ⟨_, h0⟩ | ⟨g, cap, cur, hg, _⟩
  ·have h1 := h.1;rw [h0, Nat.zero_mul] at h1;rw [List.length_eq_zero_iff.1 h1] at hv;simp at hv
  ·simp at hg
 | false =>
  have := h.cells rfl k v hv;rwa [Yp, Nat.zero_add] at this
theorem Ybg {w0 w : World} {M : List Nat} {R : RL} {φ : Phi} {id : Nat} {it : It} (h : St w0 M (it.conc φ id :: R) w) {k : Nat} {v : Value} (hv : (it.vals φ)[k]? = some v) : w.cell? ⟨(φ id).b, k, none⟩ = some v := by
 have hh := h.look Look.head;cases it with
 | blk T cs => exact Yj6 hh (by simpa [It.vals] using hv)
 | row T sz n cs => exact Yew hh hv
 | rowV T sz n xs => exact Yew hh hv
 | obj _ => simp [It.vals] at hv
 | lp _ _ => simp [It.vals] at hv
 | dead => simp [It.vals] at hv
 | arr T ts xs => exact Yew hh hv
 | bk _ _ _ _ => simp [It.vals] at hv
 | bkv _ _ _ _ _ => simp [It.vals] at hv
 | nst _ _ _ => simp [It.vals] at hv
 | fro _ _ => simp [It.vals] at hv
theorem Y77 {x : Operand} {v : AV} (hx : At tm x v) (hj : v.rd = true) : Does P { dst, op := .move x, type, pos, after, guard } tm [] v [] [] :=
 fun φ w0 M R a w K Q ho _ hS kk => Y7r (ho.ev (by simp [Op.operands]) hx hj) (kk φ w (Agree.refl _ _) hS)
theorem Y41 {x : Operand} {v : AV} (hx : At tm x v) (hj : v.rd = true) : Does P { dst, op := .assign x, type, pos, after, guard } tm [] v [] [] :=
 fun φ w0 M R a w K Q ho _ hS kk => Y30 (ho.ev (by simp [Op.operands]) hx hj) (kk φ w (Agree.refl _ _) hS)
theorem Y5r {c x y : Operand} {b : Bool} {v : AV} (hc : At tm c (.v (.bool b))) (hv : At tm (if b then x else y) v) (hj : v.rd = true) : Does P { dst, op := .pick c x y, type, pos, after, guard } tm [] v [] [] :=
 fun φ w0 M R a w K Q ho _ hS kk => Y5k (ho.ev (by simp [Op.operands]) hc (by simp)) (ho.ev (by cases b <;> simp [Op.operands]) hv hj) (kk φ w (Agree.refl _ _) hS)
theorem Y62 {T : TypeId} {x : Operand} {i off id k : Nat} (hf : Yha P T i off) (hx : At tm x (.ptr id k)) : Does P { dst, op := .fieldAddr T x i, type, pos, after, guard } tm [] (.ptr id (k + off)) [] [] :=
 fun φ w0 M R a w K Q ho _ hS kk => Yre hf (ho.ev (by simp [Op.operands]) hx (by simp)) rfl (kk φ w (Agree.refl _ _) hS)
theorem Y2o {t : Operand} {i : Nat} {cs : List AV} {v : AV} (hx : At tm t (.tup cs)) (hv : cs[i]? = some v) : Does P { dst, op := .extract t i, type, pos, after, guard } tm [] v [] [] :=
 fun φ w0 M R a w K Q ho _ hS kk => by
  have h1 : (AV.concL φ cs).toArray[i]? = some (v.conc φ) := by simp [Yck, hv]
  have hlt : i < (AV.concL φ cs).toArray.size := (Array.getElem?_eq_some_iff.1 h1).1;refine Y0w (ho.ev (by simp [Op.operands]) hx (by simp)) (v := v.conc φ) ?_ (by simpa [Nat.blt_eq] using hlt) (kk φ w (Agree.refl _ _) hS);rw [Ygv];simp [List.getD_eq_getElem?_getD, Yck, hv]
theorem Yum {T e : TypeId} {sz by_ : Nat} {zs : List AV} {x ix : Operand} {id off lo n : Nat} {kd : IntKind} {i : Int} (ht : (mkTI P T).slice = some (e, sz, by_, zs)) {it : It} (hx : At tm x (.sl id off lo n)) (hi : At tm ix (.v (.int kd i)))
  (h0 : 0 <= i) (h1 : i < (n : Int)) (hnn : ∀ (φ : Phi) (w0 : World) (M : List Nat) (R : RL) (w : World), St w0 M (it.conc φ id :: R) w -> (φ id).nil = false) :
  Does P { dst, op := .indexAddr T x ix, type, pos, after, guard } tm [(id, it)] (.ptr id (off + i.toNat * sz)) [] [] :=
 fun φ w0 M R a w K Q ho _ hS kk => by
  have hn := hnn φ w0 M R w hS;have h2 := ho.ev (x := x) (by simp [Op.operands]) hx (by simp);simp only [AV.conc, hn, Bool.false_eq_true, if_false] at h2;exact Ym5 (Yi ht φ).1 h2 (ho.ev (x := ix) (by simp [Op.operands]) hi (by simp)) h0 h1 rfl (kk φ w (Agree.refl _ _) hS)
theorem Ydd {w0 w : World} {M : List Nat} {R : RL} {φ : Phi} {id T sz n : Nat} {cs : List AV} (hn : 0 < n) (h : St w0 M ((It.row T sz n cs).conc φ id :: R) w) : (φ id).nil = false := by
 have hh := h.look Look.head;cases hnil : (φ id).nil with
 | false => rfl
 | true =>
  have h2 : w.ownsRow 0 T sz (.slice (if (φ id).nil then none else some ⟨(φ id).b, 0, none⟩) n (φ id).c) n (AV.concL φ cs) := hh;rw [hnil] at h2;rcases h2.2 with ⟨_, h0⟩ | ⟨g, cap, cur, hg, _⟩
  ·omega
  ·simp at hg
theorem Yvr {w0 w : World} {M : List Nat} {R : RL} {φ : Phi} {id T sz n : Nat} {cs : List Value} (hn : 0 < n) (h : St w0 M ((It.rowV T sz n cs).conc φ id :: R) w) : (φ id).nil = false := by
 have hh := h.look Look.head;cases hnil : (φ id).nil with
 | false => rfl
 | true =>
  have h2 : w.ownsRow 0 T sz (.slice (if (φ id).nil then none else some ⟨(φ id).b, 0, none⟩) n (φ id).c) n cs := hh;rw [hnil] at h2;rcases h2.2 with ⟨_, h0⟩ | ⟨g, cap, cur, hg, _⟩
  ·omega
  ·simp at hg
theorem Y61 {T : TypeId} {x : Operand} {id k : Nat} {it : It} {v : AV} (ha : Yfp P T false) (hx : At tm x (.ptr id k)) (hv : ∀ φ, (it.vals φ)[k]? = some (v.conc φ)) : Does P { dst, op := .load T x, type, pos, after, guard } tm [(id, it)] v [] [] :=
 fun φ w0 M R a w K Q ho _ hS kk => by
  have h2 := Yr (ho.ev (x := x) (by simp [Op.operands]) hx (by simp));unfold Oper.wp execOp;simp only [AV.conc] at h2;simp only [h2, Sem.run_bind, Ycx ha (Ybg hS (hv φ)), Result.andThen_ok, Sem.run_pure, Oper.upon];exact kk φ w (Agree.refl _ _) hS
theorem Y6z {T : TypeId} {x : Operand} {id k n : Nat} {it : It} {v : AV} (ha : Yfp P T true) (hs : Ycd P T n) (hx : At tm x (.ptr id k)) {vs : Phi -> List Value} (hv : ∀ φ, v.conc φ = .agg (vs φ).toArray) (hc : ∀ φ, ((it.vals φ).drop k).take n = vs φ) (hn : ∀ φ, (vs φ).length = n) : Does P { dst, op := .load T x, type, pos, after, guard } tm [(id, it)] v [] [] :=
 fun φ w0 M R a w K Q ho _ hS kk => by
  have h2 := Yr (ho.ev (x := x) (by simp [Op.operands]) hx (by simp));have hcs : Yog w (φ id).b k (vs φ) := fun j u hj => by
   refine Ybg hS ?_;rw [<- hc φ, List.getElem?_take] at hj
   split at hj
   ·rw [List.getElem?_drop] at hj; exact hj
   ·cases hj
  unfold Oper.wp execOp;simp only [AV.conc] at h2;have h3 := kk φ w (Agree.refl _ _) hS;rw [hv φ] at h3;simp only [h2, Sem.run_bind, Yds ha hs (hn φ) hcs, Result.andThen_ok, Sem.run_pure, Oper.upon];exact h3
theorem Ym (φ : Phi) (id : Nat) (hd : Hd) : Agree [id] φ (fun i => if i = id then hd else φ i) := fun i hi => by
 simp only [List.mem_singleton] at hi;simp [hi]
theorem Y67 {T : TypeId} {zs : List AV} {id : Nat} (hz : (mkTI P T).zero = some zs) : Does P { dst, op := .alloc T, type, pos, after, guard } tm [] (.ptr id 0) [] [(id, .blk T zs)] :=
 fun φ w0 M R a w K Q ho _ hS kk => by
  refine Y3o hS (Yjc hz φ).1 fun b w' hS' => ?_;have hag := Ym φ id ⟨b, false, 0, none, 0, undef, fun _ => False⟩;have e : AV.concL (fun i => if i = id then (⟨b, false, 0, none, 0, undef, fun _ => False⟩ : Hd) else φ i) zs = AV.concL φ zs := Yy hag zs fun i _ => (Yjc hz φ).2 i;have := kk _ w' hag (by simpa [Yh, Yb, It.conc, e] using hS');simpa [AV.conc] using this
theorem d_box {T : TypeId} {x : Operand} {v : AV} {cs : List AV} {id : Nat} (hx : At tm x v) (hj : v.rd = true) (hc : ∀ φ, (v.conc φ).cells = (AV.concL φ cs).toArray) (hh : ∀ i, v.has i = false -> AV.hasL i cs = false) : Does P { dst, op := .box T x, type, pos, after, guard } tm [] (.ptr id 0) [] [(id, .blk T cs)] :=
 fun φ w0 M R a w K Q ho hn hS kk => by
  have h2 := Yr (ho.ev (x := x) (by simp [Op.operands]) hx hj);have hnew : AV.hasL id cs = false := hh id (hx.new (hn id (by simp [keys])).1);unfold Oper.wp execOp;simp only [Sem.run_bind, Y0m, Result.andThen_ok, Sem.run_pure, Oper.upon];have hS' := hS.alloc (.cells (a.eval x).cells T);rw [h2, hc φ] at hS' ⊢;have hag := Ym φ id ⟨w.heap.size, false, 0, none, 0, undef, fun _ => False⟩;have e : AV.concL (fun i => if i = id then (⟨w.heap.size, false, 0, none, 0, undef, fun _ => False⟩ : Hd) else φ i) cs = AV.concL φ cs := Yy hag cs fun i hi => by rw [List.mem_singleton.1 hi]; exact hnew
  have := kk _ _ hag (by simpa [Yh, Yb, It.conc, e] using hS');simpa [AV.conc] using this
end
end Go.Proofs.YtladoaeefkpdiaaGreatDoor
namespace Go.Proofs.YtladoaeefkpdiaaGreatDoor
open Go.RowKit
variable [InW]
attribute [local irreducible] Go.Oper.wp
section
variable {P : Program} {tm : List AV} {dst : Option Tmp} {type : TypeId} {pos : String} {after : Array Edge} {guard : Option (Nat × Bool)}
theorem Ysy {w0 w : World} {M : List Nat} {R : RL} {K : Act -> World -> Prop} {Q : Exit -> Act -> World -> Prop} {a : Act} {e T : TypeId} {x y : Operand} {b k n : Nat} {cs : Array Value} {v : Value} (h : St w0 M (.blk b (.cells cs T (0, 0)) :: R) w) (hs : Ycd P e n)
  (hx : a.eval x = .pointer (some ⟨b, k, none⟩)) (hy : a.eval y = v) (hn : v.cells.size = n) (h1 : ∀ u ∈ v.cells.toList, u.oneCell' = true) (hk : k + n <= cs.size) (kk : ∀ w', St w0 M (.blk b (.cells (Yb9 cs k v.cells.toList) T (0, 0)) :: R) w' -> K (a.put dst undef) w') :
  Oper.wp P { dst, op := .store e x y, type, pos, after, guard } a w K Q := by
 obtain ⟨w', hr, hb, hsz, hm, hkk⟩ := Ybx (P := P) v.cells.toList 0 k cs w (h.blk .head) (by simp [hn]; omega) h1;simp only [Nat.add_zero] at hb;subst hy;unfold Oper.wp execOp;simp only [hx, Instr.storeAt, Instr.sureAddr, storeVar, Sem.run_bind, Sem.run_pure, Ybc hs, hn, Result.andThen_ok, Oper.upon, ne_eq, not_true_eq_false, if_false, hr];exact kk w' (h.upd .head ⟨hm.1, hm.2.1, hm.2.2, by omega, fun k hk' hk2 => hkk k (by simpa [Res.foot] using hk2)⟩ hb (fun b' hb' => .inl hb'))
theorem Yi2 (φ : Phi) (cs vs : List AV) (k : Nat) : AV.concL φ (cs.take k ++ vs ++ cs.drop (k + vs.length)) = (AV.concL φ cs).take k ++ AV.concL φ vs ++ (AV.concL φ cs).drop (k + (AV.concL φ vs).length) := by
 rw [Ybz, Ybz, Yea, Yfm, Yg]
theorem Y4r {T T' : TypeId} {x y : Operand} {id k n : Nat} {cs vs : List AV} {v : AV} (hs : Ycd P T n) (hx : At tm x (.ptr id k)) (hy : At tm y v) (hj : v.rd = true) (hc : ∀ φ, (v.conc φ).cells = (AV.concL φ vs).toArray) (hn : vs.length = n) (h1 : Yfb vs = true) (hk : k + n <= cs.length) :
  Does P { dst, op := .store T x y, type, pos, after, guard } tm [(id, .blk T' cs)] (.v undef) [(id, .blk T' (cs.take k ++ vs ++ cs.drop (k + vs.length)))] [] :=
 fun φ w0 M R a w K Q ho _ hS kk => by
  have h2 := Yr (ho.ev (x := x) (by simp [Op.operands]) hx (by simp));have h3 := Yr (ho.ev (x := y) (by simp [Op.operands]) hy hj);refine Ysy (v := v.conc φ) hS hs h2 h3 (by rw [hc φ]; simp [Yg, hn]) (fun u hu => Yb6 h1 φ u (by rw [hc φ] at hu; simpa using hu)) (by simp [Yg]; omega) fun w' hS' => ?_;have e : Yb9 (AV.concL φ cs).toArray k (v.conc φ).cells.toList = (AV.concL φ (cs.take k ++ vs ++ cs.drop (k + vs.length))).toArray := by
   apply Array.ext';rw [Ycn _ _ _ (by rw [hc φ]; simp [Yg]; omega), hc φ, Yi2]
  rw [e] at hS';exact kk φ w' (Agree.refl _ _) (by simpa [Yh, upd, Nat.beq_refl, Yb, It.conc] using hS')
theorem Yvn : ∀ (vs xs : List Value) (k : Nat), k + vs.length <= xs.length -> setL xs k vs = xs.take k ++ vs ++ xs.drop (k + vs.length)
 | [], xs, k, _ => by simp [setL]
 | v :: vs, xs, k, h => by
  simp only [List.length_cons] at h;rw [setL, Yvn vs _ _ (by simp; omega), List.take_add_one, List.take_set_of_le (Nat.le_refl _), List.getElem?_set_self (by omega), List.drop_set_of_lt (by omega)];simp [show k + 1 + vs.length = k + (vs.length + 1) by omega]
theorem Yj5 {w0 w : World} {M : List Nat} {R : RL} {K : Act -> World -> Prop} {Q : Exit -> Act -> World -> Prop} {a : Act} {e T : TypeId} {x y : Operand} {b c k n sz m : Nat} {nil : Bool} {xs : List Value} {v : Value} (h : St w0 M (.row (.slice (if nil then none else some ⟨b, 0, none⟩) n c) T sz n xs :: R) w) (hs : Ycd P e m)
  (hx : a.eval x = .pointer (some ⟨b, k, none⟩)) (hy : a.eval y = v) (hn : v.cells.size = m) (hm : 0 < m) (h1 : ∀ u ∈ v.cells.toList, u.oneCell' = true) (hk : k + m <= xs.length)
  (kk : ∀ w', St w0 M (.row (.slice (if nil then none else some ⟨b, 0, none⟩) n c) T sz n (xs.take k ++ v.cells.toList ++ xs.drop (k + m)) :: R) w' -> K (a.put dst undef) w') :
  Oper.wp P { dst, op := .store e x y, type, pos, after, guard } a w K Q := by
 cases nil with
 | true =>
  have hrow := h.row .head;rcases hrow.2 with ⟨_, h0⟩ | ⟨g, cap, cur, hg, _⟩
  ·have h3 := hrow.1;rw [h0, Nat.zero_mul] at h3;omega
  ·simp at hg
 | false =>
  refine Y0b (L' := .row (.slice (some ⟨b, 0, none⟩) n c) T sz n (xs.take k ++ v.cells.toList ++ xs.drop (k + m)) :: R) h hs (by rw [Yb7, hx]) (by rw [Yb7, hy]) hn (List.all_eq_true.2 h1) .head hk ?_ kk;have hl : v.cells.toList.length = m := by simpa using hn
  rw [Yvn _ _ _ (by rw [hl]; exact hk), hl]
theorem Y4q {T T' sz n' : Nat} {x y : Operand} {id k n : Nat} {cs vs : List AV} {v : AV} (hs : Ycd P T n) (hx : At tm x (.ptr id k)) (hy : At tm y v) (hj : v.rd = true) (hc : ∀ φ, (v.conc φ).cells = (AV.concL φ vs).toArray) (hn : vs.length = n) (h0 : 0 < n) (h1 : Yfb vs = true) (hk : k + n <= cs.length) :
  Does P { dst, op := .store T x y, type, pos, after, guard } tm [(id, .row T' sz n' cs)] (.v undef) [(id, .row T' sz n' (cs.take k ++ vs ++ cs.drop (k + vs.length)))] [] :=
 fun φ w0 M R a w K Q ho _ hS kk => by
  have h2 := Yr (ho.ev (x := x) (by simp [Op.operands]) hx (by simp));have h3 := Yr (ho.ev (x := y) (by simp [Op.operands]) hy hj);refine Yj5 (v := v.conc φ) hS hs h2 h3 (by rw [hc φ]; simp [Yg, hn]) h0 (fun u hu => Yb6 h1 φ u (by rw [hc φ] at hu; simpa using hu)) (by simp [Yg]; omega) fun w' hS' => ?_;rw [hc φ, show n = (AV.concL φ vs).length by rw [Yg, hn], <- Yi2] at hS';exact kk φ w' (Agree.refl _ _) (by simpa [Yh, upd, Nat.beq_refl, Yb, It.conc] using hS')
theorem Y78 {T e : TypeId} {sz by_ n : Nat} {zs : List AV} {x y : Operand} {kl kc : IntKind} {id : Nat} (ht : (mkTI P T).slice = some (e, sz, by_, zs)) (hx : At tm x (.v (.int kl (n : Int)))) (hy : At tm y (.v (.int kc (n : Int)))) (hb : by_ * n <= 281474976710656) (hm : n <= maxLen) {cs : List AV} (hc : ∀ φ, (madeCells (AV.concL φ zs).toArray (n * sz)).toList = AV.concL φ cs) (hh : ∀ i, AV.hasL i cs = false) :
  Does P { dst, op := .makeSlice T x y, type, pos, after, guard } tm [] (.sl id 0 0 n) [] [(id, .row e sz n cs)] :=
 fun φ w0 M R a w K Q ho _ hS kk => by
  refine Y0c hS (Yi ht φ).1 (ho.ev (x := x) (by simp [Op.operands]) hx (by simp)) (ho.ev (x := y) (by simp [Op.operands]) hy (by simp)) hb hm fun g w' hS' => ?_;have hag := Ym φ id ⟨g, false, n, none, 0, undef, fun _ => False⟩;have e' : AV.concL (fun i => if i = id then (⟨g, false, n, none, 0, undef, fun _ => False⟩ : Hd) else φ i) cs = AV.concL φ cs := Yy hag cs fun i _ => hh i;rw [hc φ] at hS';have := kk _ w' hag (by simpa [Yh, Yb, It.conc, e'] using hS');simpa [AV.conc] using this
inductive Parts (tm : List AV) (sz : Nat) : Nat -> List (Nat × Operand) -> List AV -> List AV -> Prop
 | nil {k : Nat} : Parts tm sz k [] [] []
 | cons {k : Nat} {x : Operand} {v : AV} {ps : List (Nat × Operand)} {vs cs ds : List AV} (hx : At tm x v) (hj : v.rd = true) (hc : ∀ φ, (v.conc φ).cells = (AV.concL φ cs).toArray) (hn : cs.length = sz) (hh : ∀ i, v.has i = false -> AV.hasL i cs = false) (t : Parts tm sz (k + 1) ps vs ds) : Parts tm sz k ((k, x) :: ps) (v :: vs) (cs ++ ds)
theorem Parts.all {sz : Nat} {φ : Phi} {a : Act} : ∀ {k : Nat} {ps : List (Nat × Operand)} {vs cs : List AV}, Parts tm sz k ps vs cs -> (∀ p ∈ ps, ∀ v, At tm p.2 v -> v.rd = true -> a.eval p.2 = v.conc φ) ->
  AllParts a sz k ps (AV.concL φ vs) /\ ((AV.concL φ vs).map fun v => v.cells.toList).flatten = AV.concL φ cs := by
 intro k ps vs cs h
 induction h with
 | nil => intro _; exact ⟨trivial, rfl⟩
 | cons hx hj hc hn hh t ih =>
  intro ho;obtain ⟨h1, h2⟩ := ih fun p hp => ho p (List.mem_cons_of_mem _ hp);refine ⟨⟨rfl, by rw [Yb7, ho _ List.mem_cons_self _ hx hj], by rw [hc φ]; simp [Yg, hn], h1⟩, ?_⟩;rw [Ybz, AV.concL, List.map_cons, List.flatten_cons, h2, hc φ]
theorem Parts.new {sz : Nat} : ∀ {k : Nat} {ps : List (Nat × Operand)} {vs cs : List AV}, Parts tm sz k ps vs cs -> ∀ {i : Nat}, AV.hasL i tm = false -> AV.hasL i cs = false := by
 intro k ps vs cs h
 induction h with
 | nil => intro i _; rfl
 | cons hx hj hc hn hh t ih =>
  intro i hi;rw [Yo, List.any_append, <- Yo, <- Yo, ih hi, hh i (hx.new hi)];rfl
theorem Parts.len {sz : Nat} : ∀ {k : Nat} {ps : List (Nat × Operand)} {vs cs : List AV}, Parts tm sz k ps vs cs -> vs.length = ps.length /\ cs.length = ps.length * sz := by
 intro k ps vs cs h
 induction h with
 | nil => simp
 | cons hx hj hc hn hh t ih =>
  simp only [List.length_cons, List.length_append, ih.1, ih.2, hn, Nat.succ_mul, true_and];omega
theorem d_lit {T e : TypeId} {sz by_ len : Nat} {zs : List AV} {parts : List (Nat × Operand)} {vs cs : List AV} {id : Nat} (ht : (mkTI P T).slice = some (e, sz, by_, zs)) (hp : Parts tm sz 0 parts vs cs) (hl : parts.length = len) (hlen : len * sz <= 16777216) (hm : len <= maxLen) :
  Does P { dst, op := .buildSlice T len parts.toArray, type, pos, after, guard } tm [] (.sl id 0 0 len) [] [(id, .row e sz len cs)] :=
 fun φ w0 M R a w K Q ho hn hS kk => by
  obtain ⟨h1, h2⟩ := hp.all (φ := φ) (a := a) fun p hp v hv hj => ho p.2 (by simp only [Op.operands, List.mem_toArray, List.mem_map]; exact ⟨p, by simpa using hp, rfl⟩) v hv hj;refine Y0d hS (Yi ht φ).1 h1 (by rw [Yg, hp.len.1, hl]) (by simpa [Nat.ble_eq] using hlen) fun b w' hS' => ?_;rw [h2] at hS';have hS2 := hS'.toRow (n := len) (sz := sz) .head hm (by simp [Yg, hp.len.2, hl]);have hag := Ym φ id ⟨b, false, len, none, 0, undef, fun _ => False⟩;have e' : AV.concL (fun i => if i = id then (⟨b, false, len, none, 0, undef, fun _ => False⟩ : Hd) else φ i) cs = AV.concL φ cs := Yy hag cs fun i hi => by rw [List.mem_singleton.1 hi]; exact hp.new (hn id (by simp [keys])).1
  have := kk _ w' hag (by simpa [Yh, Yb, It.conc, e'] using hS2);simpa [AV.conc] using this
theorem Ypi {w : World} {T sz n : Nat} {v : Value} {xs : List Value} (h : w.ownsRow 0 T sz v n xs) : ∃ hd : Hd, v = .slice (if hd.nil then none else some ⟨hd.b, 0, none⟩) n hd.c := by
 rcases h.2 with ⟨rfl, rfl⟩ | ⟨g, cap, cur, rfl, _⟩
 ·exact ⟨⟨0, true, 0, none, 0, undef, fun _ => False⟩, rfl⟩
 ·exact ⟨⟨g, false, cap, none, 0, undef, fun _ => False⟩, rfl⟩
theorem St.dead {w0 w : World} {M : List Nat} {L : RL} (h : St w0 M L w) : St w0 M (.row (.slice none 0 0) 0 0 0 [] :: L) w :=
 h.add (Ext.refl _) ⟨by simp, .inl ⟨rfl, rfl⟩⟩ (by simp [Res.foot, Value.ownBlock])
theorem Yup {T e : TypeId} {sz by_ n m lo2 off2 id id2 id' : Nat} {zs : List AV} {s x : Operand} {cs : List AV} {it2 : It} {news : List AV} (ht : (mkTI P T).slice = some (e, sz, by_, zs)) (hz : zs.length = sz) (hsz : 0 < sz)
  (hs : At tm s (.sl id 0 0 n)) (hx : At tm x (.sl id2 off2 lo2 m)) (hne : id ≠ id2)
  (hnn : ∀ (φ : Phi) (w0 : World) (M : List Nat) (R : RL) (w : World), St w0 M (it2.conc φ id2 :: R) w -> (φ id2).nil = false)
  (hl : news.length = m * sz) (hcs : ∀ (φ : Phi) (j : Nat) (u : Value), (AV.concL φ news)[j]? = some u -> (it2.vals φ)[off2 + j]? = some u) (h1 : Yfb news = true)
  (hnew2 : ∀ i, it2.has i = false -> AV.hasL i news = false) (h63 : n + m <= maxLen) (hb : (n + m) * by_ <= 140737488355328) :
  Does P { dst, op := .call { callee := .builtin .append, args := #[s, x], argTypes := #[T, T] }, type, pos, after, guard } tm [(id, .row e sz n cs), (id2, it2)] (.sl id' 0 0 (n + m)) [(id, .dead)] [(id', .row e sz (n + m) (cs ++ news))] :=
 fun φ w0 M R a w K Q ho hn hS kk => by
  have hS2 : St w0 M (it2.conc φ id2 :: (It.row e sz n cs).conc φ id :: R) w := hS.perm (List.Perm.swap _ _ _);have hnil := hnn φ w0 M _ w hS2;have e1 := ho.ev (x := s) (by simp [Op.operands, Call.operands]) hs (by simp);have e2 := ho.ev (x := x) (by simp [Op.operands, Call.operands]) hx (by simp);simp only [AV.conc, hnil, Bool.false_eq_true, if_false] at e2;simp only [AV.conc, Nat.sub_zero] at e1;have hnx := hn id' (by simp [keys]);have hh : hasH id' [(id, It.row e sz n cs), (id2, it2)] = false := hnx.2;have hcs' : AV.hasL id' cs = false := by have := (Yx hh (p := (id, It.row e sz n cs)) (by simp)).2; simpa [It.has] using this
  have hnw' : AV.hasL id' news = false := hnew2 id' (Yx hh (p := (id2, it2)) (by simp)).2;have hid2 : id2 ≠ id' := (Yx hh (p := (id2, it2)) (by simp)).1;have hit2 : it2.has id' = false := (Yx hh (p := (id2, it2)) (by simp)).2;refine Ygh (xs := AV.concL φ cs) (news := AV.concL φ news) hS (Yi ht φ).1 (by simp [Yg, hz]) hsz e1 e2 (.head) (by rw [Yg, hl]) (fun j u hj => ?_) (Yb6 h1 φ) h63 hb fun v' w' _ hS' => ?_
  ·rw [Yp];exact Ybg hS2 (hcs φ j u hj)
  ·obtain ⟨hd, rfl⟩ := Ypi (hS'.row .head);have hag := Ym φ id' hd;have ea : AV.concL (fun i => if i = id' then hd else φ i) (cs ++ news) = AV.concL φ cs ++ AV.concL φ news := by
    rw [Yy hag _ fun i hi => by rw [List.mem_singleton.1 hi, Yo, List.any_append, <- Yo, <- Yo, hcs', hnw']; rfl, Ybz]
   have eb : it2.conc (fun i => if i = id' then hd else φ i) id2 = it2.conc φ id2 := Yhq hag (by simpa using hid2) _ fun i hi => by rw [List.mem_singleton.1 hi]; exact hit2
   have hS3 := (hS'.perm (List.Perm.swap _ _ _)).dead;have := kk _ w' hag (by
    simp only [Yh, upd, Nat.beq_refl, Yb, List.cons_append, List.nil_append, List.map_cons, List.map_nil, eb];simp only [Yb, List.map_cons, List.map_nil] at hS3;generalize it2.conc φ id2 = r2 at hS3 ⊢;simp only [It.conc, ea, if_true];exact hS3)
   simpa [AV.conc] using this
theorem Yyd {w0 w : World} {M : List Nat} {R : RL} {K : Act -> World -> Prop} {Q : Exit -> Act -> World -> Prop} {a : Act} {T e : TypeId} {sz by_ m c n : Nat} {zs : Array Value} {s x : Operand} {v : Value} {ad : Addr} {xs news : List Value} (h : St w0 M (.row v e sz n xs :: R) w) (ht : SliceOf P T e sz by_ zs) (hz : zs.size = sz) (hsz : 0 < sz)
  (hs : Yc8 a s = some v) (hx : Yc8 a x = some (.slice (some ad) m c)) (hl : news.length = m * sz) (hnews : ∀ j u, news[j]? = some u -> w.cell? (ad.add j) = some u) (h1 : ∀ u ∈ news, u.oneCell' = true) (h63 : n + m <= maxLen) (hb : (n + m) * by_ <= 140737488355328)
  (kk : ∀ v' w', (∃ g cap, v = .slice (some ⟨g, 0, none⟩) n cap /\ v' = .slice (some ⟨g, 0, none⟩) (n + m) cap /\ n <= cap /\ St w0 M (.row v' e sz (n + m) (xs ++ news) :: R) w') \/ ((v = .slice none 0 0 \/ v'.ownBlock ≠ v.ownBlock) /\ St w0 M (.row v' e sz (n + m) (xs ++ news) :: .row v e sz n xs :: R) w') -> K (a.put dst v') w') :
  Oper.wp P { dst, op := .call { callee := .builtin .append, args := #[s, x], argTypes := #[T, T] }, type, pos, after, guard } a w K Q := by
 have hrow := h.row .head;rcases hrow.2 with ⟨rfl, rfl⟩ | ⟨g, cap, cur, rfl, hbg, hg, hnc, hcm, hcs, htake⟩
 ·refine Ygh h ht hz hsz hs hx .head hl hnews h1 h63 hb fun v' w' _ hS' => kk v' w' (.inr ⟨.inl rfl, ?_⟩);have := hS'.add (Ext.refl _) (r := .row (.slice none 0 0) e sz 0 xs) ⟨hrow.1, .inl ⟨rfl, rfl⟩⟩ (by simp [Res.foot, Value.ownBlock]);exact this.perm (List.Perm.swap _ _ _)
 ·replace hs := Yr hs
  replace hx := Yr hx
  obtain ⟨i, z, hi, hz1, hz2, his, hib⟩ := ht.parts
  by_cases hroom : n + m <= cap
  ·have hfit : n * i.size + news.length <= cur.size := by rw [hl, hcs, his, <- Nat.add_mul]; exact Nat.mul_le_mul_right _ hroom
   have hr := run_append_room (P := P) w T type e i ht.1 hi g n cap cur hg ad m c news (by rw [hl, his]) hnews h1 hroom hfit;have hlen : (xs ++ news).length = (n + m) * sz := by rw [List.length_append, hrow.1, hl, Nat.add_mul]
   have hS' := h.upd (w' := w.setRow g (cur.toList.take (n * i.size) ++ news ++ cur.toList.drop (n * i.size + news.length)).toArray) (r' := .row (.slice (some ⟨g, 0, none⟩) (n + m) cap) e sz (n + m) (xs ++ news)) .head
    ⟨rfl, rfl, rfl, by simp, fun k _ hk => setRow_other w g k _ (fun e => hk (by simp [Res.foot, Value.ownBlock, e]))⟩
    ⟨hlen, .inr ⟨g, cap, _, rfl, hbg, setRow_heap w g cur _ e _ hg, hroom, hcm, by
     simp only [List.size_toArray, List.length_append, List.length_take, List.length_drop, Array.length_toList];omega, by
     rw [his, htake];simp only [];rw [<- hlen];exact List.take_left⟩⟩ (fun b' hb' => .inl (by simpa [Res.foot, Value.ownBlock] using hb'))
   have h4 := kk _ _ (.inl ⟨g, cap, rfl, rfl, hnc, hS'⟩);unfold Oper.wp execOp;simp only [resolve, invoke, builtin, Sem.run_bind, Sem.run_pure, Result.andThen_ok, List.map_toArray, List.map_cons, List.map_nil, hs, hx, hr, Oper.upon];exact h4
  ·obtain ⟨v', w', hr, ho', hgr⟩ := run_append_arg_grows (P := P) w T type e i z sz by_ ht.1 hi hz1 his hib (by rw [hz2, hz]) hsz ⟨g, 0, none⟩ n cap xs hrow.1 (hrow.cells rfl)
    ad m c news hl hnews (by omega) h63 hb
   have hext : Ext w w' := ⟨hgr.os, hgr.tape, hgr.output, hgr.size, fun k hk => hgr.block k hk (by simp)⟩;have hS' := h.add hext (r := .row v' e sz (n + m) (xs ++ news)) ⟨ho'.1, ho'.2.imp (fun h => h) fun ⟨g, cap, cur, a, _, c⟩ => ⟨g, cap, cur, a, Nat.zero_le _, c⟩⟩ (fun b hb' => by
    simp only [Res.foot, Option.mem_toList] at hb';exact (ho'.lt b hb').1)
   have h4 := kk v' w' (.inr ⟨.inr (fun e => by
    have h5 := (ho'.lt g e).1;have h6 := (hrow.lt g rfl).2;omega), hS'⟩)
   unfold Oper.wp execOp;simp only [resolve, invoke, builtin, Sem.run_bind, Sem.run_pure, Result.andThen_ok, List.map_toArray, List.map_cons, List.map_nil, hs, hx, hr, Oper.upon];exact h4
theorem Yr2 {T e : TypeId} {sz by_ n m lo2 off2 id id2 id' : Nat} {zs : List AV} {s x : Operand} {cs : List AV} {it2 : It} {news : List AV} (ht : (mkTI P T).slice = some (e, sz, by_, zs)) (hz : zs.length = sz) (hsz : 0 < sz)
  (hs : At tm s (.sl id 0 0 n)) (hx : At tm x (.sl id2 off2 lo2 m)) (hne : id ≠ id2)
  (hnn : ∀ (φ : Phi) (w0 : World) (M : List Nat) (R : RL) (w : World), St w0 M (it2.conc φ id2 :: R) w -> (φ id2).nil = false)
  (hl : news.length = m * sz) (hcs : ∀ (φ : Phi) (j : Nat) (u : Value), (AV.concL φ news)[j]? = some u -> (it2.vals φ)[off2 + j]? = some u) (h1 : Yfb news = true)
  (hnew2 : ∀ i, it2.has i = false -> AV.hasL i news = false) (h63 : n + m <= maxLen) (hb : (n + m) * by_ <= 140737488355328) :
  Does P { dst, op := .call { callee := .builtin .append, args := #[s, x], argTypes := #[T, T] }, type, pos, after, guard } tm [(id, .row e sz n cs), (id2, it2)] (.sl id' 0 0 (n + m)) [(id, .bkv e sz n cs id')] [(id', .row e sz (n + m) (cs ++ news))] :=
 fun φ w0 M R a w K Q ho hn hS kk => by
  have hS2 : St w0 M (it2.conc φ id2 :: (It.row e sz n cs).conc φ id :: R) w := hS.perm (List.Perm.swap _ _ _);have hnil := hnn φ w0 M _ w hS2;have e1 := ho.ev (x := s) (by simp [Op.operands, Call.operands]) hs (by simp);have e2 := ho.ev (x := x) (by simp [Op.operands, Call.operands]) hx (by simp);simp only [AV.conc, hnil, Bool.false_eq_true, if_false] at e2;simp only [AV.conc, Nat.sub_zero] at e1;have hnx := hn id' (by simp [keys]);have hh : hasH id' [(id, It.row e sz n cs), (id2, it2)] = false := hnx.2;have hcs' : AV.hasL id' cs = false := by have := (Yx hh (p := (id, It.row e sz n cs)) (by simp)).2; simpa [It.has] using this
  have hid : id ≠ id' := (Yx hh (p := (id, It.row e sz n cs)) (by simp)).1;have hnw' : AV.hasL id' news = false := hnew2 id' (Yx hh (p := (id2, it2)) (by simp)).2;have hid2 : id2 ≠ id' := (Yx hh (p := (id2, it2)) (by simp)).1;have hit2 : it2.has id' = false := (Yx hh (p := (id2, it2)) (by simp)).2;have hS1 : St w0 M ((It.row e sz n cs).conc φ id :: it2.conc φ id2 :: R) w := by simpa [Yb] using hS
  refine Yyd (xs := AV.concL φ cs) (news := AV.concL φ news) hS1 (Yi ht φ).1 (by simp [Yg, hz]) hsz e1 e2 (by rw [Yg, hl]) (fun j u hj => ?_) (Yb6 h1 φ) h63 hb fun v' w' hS' => ?_
  ·rw [Yp];exact Ybg hS2 (hcs φ j u hj)
  ·obtain ⟨hd, rfl⟩ : ∃ hd : Hd, v' = .slice (if hd.nil then none else some ⟨hd.b, 0, none⟩) (n + m) hd.c := by
    rcases hS' with ⟨g, cap, _, _, _, h⟩ | ⟨_, h⟩ <;> exact Ypi (h.row .head)
   have hag := Ym φ id' hd;have ea : AV.concL (fun i => if i = id' then hd else φ i) (cs ++ news) = AV.concL φ cs ++ AV.concL φ news := by
    rw [Yy hag _ fun i hi => by rw [List.mem_singleton.1 hi, Yo, List.any_append, <- Yo, <- Yo, hcs', hnw']; rfl, Ybz]
   have ec : AV.concL (fun i => if i = id' then hd else φ i) cs = AV.concL φ cs := Yy hag _ fun i hi => by rw [List.mem_singleton.1 hi, hcs']
   have eb : it2.conc (fun i => if i = id' then hd else φ i) id2 = it2.conc φ id2 := Yhq hag (by simpa using hid2) _ fun i hi => by rw [List.mem_singleton.1 hi]; exact hit2
   have := kk _ w' hag (by
    simp only [Yh, upd, Nat.beq_refl, Yb, List.cons_append, List.nil_append, List.map_cons, List.map_nil, eb];have e5 : (It.bkv e sz n cs id').conc (fun i => if i = id' then hd else φ i) id = Yv6 (φ id) hd e sz n (AV.concL φ cs) := by simp [It.conc, hid, ec]
    have e6 : (It.row e sz (n + m) (cs ++ news)).conc (fun i => if i = id' then hd else φ i) id' = .row (.slice (if hd.nil then none else some ⟨hd.b, 0, none⟩) (n + m) hd.c) e sz (n + m) (AV.concL φ cs ++ AV.concL φ news) := by simp [It.conc, ea]
    rw [e5, e6];generalize it2.conc φ id2 = r2 at hS' ⊢;rcases hS' with ⟨g, cap, q1, q2, q3, hS'⟩ | ⟨q, hS'⟩
    ·have p1 : (φ id).nil = false /\ (φ id).b = g /\ (φ id).c = cap := by
      cases hnl : (φ id).nil <;> simp_all
     have p2 : hd.nil = false /\ hd.b = g /\ hd.c = cap := by
      cases hnl : hd.nil <;> simp_all
     have e7 : Yv6 (φ id) hd e sz n (AV.concL φ cs) = .row (.slice none 0 0) 0 0 0 [] := by
      unfold Yv6;rw [if_pos ⟨p1.1, p2.1, by rw [p1.2.1, p2.2.1]⟩, if_pos ⟨by rw [p1.2.2, p2.2.2], by rw [p1.2.2]; exact q3⟩]
     rw [e7];exact (hS'.perm (List.Perm.swap _ _ _)).dead
    ·have e7 : Yv6 (φ id) hd e sz n (AV.concL φ cs) = .row (.slice (if (φ id).nil then none else some ⟨(φ id).b, 0, none⟩) n (φ id).c) e sz n (AV.concL φ cs) := by
      unfold Yv6;rw [if_neg];rintro ⟨c1, c2, c3⟩;rcases q with q | q
      ·simp [c1] at q
      ·exact q (by simp [c1, c2, c3, Value.ownBlock])
     rw [e7];exact hS'.perm ((List.Perm.swap _ _ _).trans ((List.Perm.swap _ _ _).cons _)))
   simpa [AV.conc] using this
theorem St.lentBackV {w0 w : World} {M : List Nat} {R : RL} {φ : Phi} {T sz n n2 id j : Nat} {cs cs2 : List AV} (hl : cs.length = n * sz) (hz : cs2.take cs.length = cs) (h : St w0 M ((It.bkv T sz n cs j).conc φ id :: (It.row T sz n2 cs2).conc φ j :: R) w) : St w0 M ((It.row T sz n cs).conc φ id :: It.dead.conc φ j :: R) w := by
 simp only [It.conc] at h ⊢;unfold Yv6 at h
 split at h
 ·rename_i hc
  split at h
  ·rename_i hd;have h1 := h.drop;have hrow := h1.row .head;have h2 := h1.upd (w' := w) (r' := .row (.slice (if (φ id).nil then none else some ⟨(φ id).b, 0, none⟩) n (φ id).c) T sz n (AV.concL φ cs)) .head (Kept.of (Below.refl _ _)) (by
    refine ⟨by rw [Yg, hl], .inr ?_⟩;rcases hrow.2 with ⟨e, _⟩ | ⟨g, cap, cur, hv, hbg, hg, hnc, hcm, hcs, htake⟩
    ·simp [hc.2.1] at e
    ·have hv' : (φ j).b = g /\ (φ j).c = cap := by simpa [hc.2.1] using hv
     refine ⟨g, cap, cur, by simp [hc.1, hc.2.2, hd.1, hv'.1, hv'.2], hbg, hg, by rw [<- hv'.2, <- hd.1]; exact hd.2, hcm, hcs, ?_⟩;have h4 := hrow.1;rw [Yg] at h4;have h5 : n * sz <= n2 * sz := by rw [<- hl, <- h4, <- hz]; simp; omega
     have h6 : cur.toList.take (n * sz) = (cur.toList.take (n2 * sz)).take (n * sz) := by rw [List.take_take, Nat.min_eq_left h5]
     rw [h6, htake, <- hl, <- Yea, hz]) (fun b hb => .inl (by
      simp only [Res.foot, hc.1, hc.2.1, Value.ownBlock, Bool.false_eq_true, if_false, Option.toList, hc.2.2] at hb ⊢;exact hb))
   exact h2.dead.perm (List.Perm.swap _ _ _)
  ·have := (h.row .head).2;rcases this with ⟨_, e⟩ | ⟨_, _, _, e, _⟩ <;> cases e
 ·exact (h.perm (List.Perm.swap _ _ _)).drop.dead.perm (List.Perm.swap _ _ _)
theorem Does.back {o : Oper} {it it2 it' : It} {id j : Nat} {val : AV} (h : Does P o tm [(id, it')] val [] []) (hne : id ≠ j)
  (sh : ∀ (φ : Phi) (w0 : World) (M : List Nat) (R : RL) (w : World), St w0 M (it.conc φ id :: it2.conc φ j :: R) w -> St w0 M (it'.conc φ id :: It.dead.conc φ j :: R) w) : Does P o tm [(id, it), (j, it2)] val [(id, it'), (j, .dead)] [] :=
 fun φ w0 M R a w K Q ho hn hS kk => by
  refine h φ w0 M (It.dead.conc φ j :: R) a w K Q ho (fun i hi => by simp [keys] at hi) ?_ fun φ' w' hag hS' => ?_
  ·have := sh φ w0 M R w (by simpa [Yb] using hS);simpa [Yb] using this
  ·have e : φ' = φ := funext fun i => hag i (by simp [keys]);subst e;refine kk φ' w' hag ?_;have hb : Nat.beq id j = false := Y4.2 hne;simp only [Yh, upd, Nat.beq_refl, hb, Yb, List.map_cons, List.map_nil, List.append_nil, List.nil_append, List.cons_append] at hS' ⊢;exact hS'
end
end Go.Proofs.YtladoaeefkpdiaaGreatDoor
namespace Go.Proofs.YtladoaeefkpdiaaGreatDoor
open Go.RowKit
variable [InW]
attribute [local irreducible] Go.Oper.wp
section
variable {P : Program} {tm : List AV} {dst : Option Tmp} {type : TypeId} {pos : String} {after : Array Edge} {guard : Option (Nat × Bool)} {w : World}
def Ycb (v : Option Value) (dflt k : Nat) : Prop := match v with | none => k = dflt | some (.int _ i) => i = (k : Int) | _ => False
theorem Yc3 {v : Value} {kd : IntKind} {k y : Nat} (hv : v = .int kd (k : Int)) (hk : k <= y) (code : BoundsCode) : (Instr.sliceBound v y code).run P w = .ok k w := by
 subst hv;have h1 : (0 : Int) <= (k : Int) /\ (k : Int) <= (y : Int) := by omega
 simp only [Instr.sliceBound, asIntOf, Sem.run_bind, Sem.run_pure, Result.andThen_ok, h1, and_self, if_true, Int.toNat_natCast]
theorem Yce {T e : TypeId} {sz by_ : Nat} {zs : Array Value} (ht : SliceOf P T e sz by_ zs) (A : Option Addr) {n c l h : Nat} {lov hiv : Option Value} (hl : Ycb lov 0 l) (hh : Ycb hiv n h) (h1 : l <= h) (h2 : h <= c) :
  (Instr.sliceAt T (.slice A n c) lov hiv none).run P w = .ok (.slice (if c = l then A else A.map (·.add (l * sz))) (h - l) (c - l)) w := by
 obtain ⟨j, z, hj, hz1, hz2, his, hib⟩ := ht.parts;subst his;have e1 : (Instr.sliceBounds true n c lov hiv none).run P w = .ok (l, h, c) w := by
  unfold Instr.sliceBounds;have eh : (match hiv, (none : Option Value) with | some v, some _ => Instr.sliceBound v c .slice3B | some v, none => Instr.sliceBound v c .sliceAcap | none, none => pure n | none, some _ => stuck "Slice: max without high" : Sem Nat).run P w = .ok h w := by
   cases hiv with
   | none => simp only [Ycb] at hh; subst hh; rfl
   | some v => cases v <;> simp only [Ycb] at hh; subst hh; exact Yc3 rfl h2 _
  have el : (match lov with | some v => Instr.sliceBound v h .sliceB | none => pure 0 : Sem Nat).run P w = .ok l w := by
   cases lov with
   | none => simp only [Ycb] at hl; subst hl; rfl
   | some v => cases v <;> simp only [Ycb] at hl; subst hl; exact Yc3 rfl h1 _
  simp only [Sem.run_bind, Sem.run_pure, Result.andThen_ok, if_true, Option.isSome_none, Bool.false_eq_true, if_false];cases hiv <;> cases lov <;> simp_all [Sem.run_bind]
 simp only [Instr.sliceAt, Sem.run_bind, run_underlying ht.1 w, Result.andThen_ok, Instr.slice, e1, sizeOf, typeInfo, run_program, hj, Sem.run_pure]
theorem Yby {T : TypeId} {x : Operand} {lo hi mx : Option Operand} {a : Act} {r : Value} (h : (Instr.sliceAt T (a.eval x) (lo.map a.eval) (hi.map a.eval) (mx.map a.eval)).run P w = .ok r w) :
  (execOp a.eval { dst, op := .slice T x lo hi mx, type, pos, after, guard }).run P w = .ok (.value r) w := by
 simp only [execOp, Sem.run_bind, h, Result.andThen_ok, Sem.run_pure]
def BoundA (tm : List AV) (x : Option Operand) (dflt k : Nat) : Prop := match x with | none => k = dflt | some x => ∃ kd, At tm x (.v (.int kd (k : Int)))
theorem BoundA.is {φ : Phi} {a : Act} {x : Option Operand} {dflt k : Nat} (h : BoundA tm x dflt k) (ho : ∀ y, x = some y -> ∀ v, At tm y v -> v.rd = true -> a.eval y = v.conc φ) : Ycb (x.map a.eval) dflt k := by
 cases x with
 | none => exact h
 | some y =>
  obtain ⟨kd, hy⟩ := h;simp only [Option.map_some, ho y rfl _ hy (by simp), AV.conc, Ycb]
theorem Yj9 {w0 : World} {M : List Nat} {R : RL} {φ : Phi} {id T sz n : Nat} {cs : List AV} (h : St w0 M ((It.row T sz n cs).conc φ id :: R) w) : n <= (φ id).c := by
 have hh : w.ownsRow 0 T sz (.slice (if (φ id).nil then none else some ⟨(φ id).b, 0, none⟩) n (φ id).c) n (AV.concL φ cs) := h.look Look.head;rcases hh.2 with ⟨_, h0⟩ | ⟨g, cap, cur, hg, _, _, hnc, _⟩
 ·omega
 ·simp only [Value.slice.injEq] at hg; omega
theorem Y4v {T T' e sz sz' by_ off lo n h N id : Nat} {zs cs : List AV} {x : Operand} {hi lop : Option Operand} (ht : (mkTI P T).slice = some (e, sz, by_, zs)) (hx : At tm x (.sl id off lo n)) (hl : BoundA tm lop 0 0) (hh : BoundA tm hi n h) (h1 : h <= n) (hN : lo + n <= N) :
  Does P { dst, op := .slice T x lop hi none, type, pos, after, guard } tm [(id, .row T' sz' N cs)] (.sl id off lo h) [] [] :=
 fun φ w0 M R a w K Q ho _ hS kk => by
  have hc : N <= (φ id).c := Yj9 hS;have e1 := ho x (by simp [Op.operands]) _ hx (by simp);simp only [AV.conc] at e1;have hr := Yce (w := w) (Yi ht φ).1 (if (φ id).nil then none else some ⟨(φ id).b, off, none⟩) (n := n) (c := (φ id).c - lo) (l := 0) (h := h) (hl.is (φ := φ) (a := a) fun y hy => ho y (by simp [Op.operands, hy])) (hh.is (φ := φ) (a := a) fun y hy => ho y (by simp [Op.operands, hy])) (Nat.zero_le _) (by omega);rw [<- e1] at hr;unfold Oper.wp;rw [Yby hr];have e2 : (if (φ id).c - lo = 0 then (if (φ id).nil then none else some (⟨(φ id).b, off, none⟩ : Addr)) else (if (φ id).nil then none else some (⟨(φ id).b, off, none⟩ : Addr)).map (·.add (0 * sz))) = (if (φ id).nil then none else some ⟨(φ id).b, off, none⟩) := by
   split
   ·rfl
   ·cases (φ id).nil <;> simp [Yp]
  have h3 := kk φ w (Agree.refl _ _) hS;simp only [AV.conc] at h3;simp only [Oper.upon, e2, Nat.sub_zero];exact h3
theorem Y4t {T T' e sz sz' by_ off lo n l h N id : Nat} {zs cs : List AV} {x : Operand} {hi lop : Option Operand} (ht : (mkTI P T).slice = some (e, sz, by_, zs)) (hx : At tm x (.sl id off lo n)) (hl : BoundA tm lop 0 l) (hh : BoundA tm hi n h) (h0 : l < h) (h1 : h <= n) (hN : lo + n <= N) :
  Does P { dst, op := .slice T x lop hi none, type, pos, after, guard } tm [(id, .row T' sz' N cs)] (.sl id (off + l * sz) (lo + l) (h - l)) [] [] :=
 fun φ w0 M R a w K Q ho _ hS kk => by
  have hc : N <= (φ id).c := Yj9 hS;have e1 := ho x (by simp [Op.operands]) _ hx (by simp);simp only [AV.conc] at e1;have hr := Yce (w := w) (Yi ht φ).1 (if (φ id).nil then none else some ⟨(φ id).b, off, none⟩) (n := n) (c := (φ id).c - lo) (l := l) (h := h) (hl.is (φ := φ) (a := a) fun y hy => ho y (by simp [Op.operands, hy])) (hh.is (φ := φ) (a := a) fun y hy => ho y (by simp [Op.operands, hy])) (by omega) (by omega);rw [<- e1] at hr;unfold Oper.wp;rw [Yby hr];have h3 := kk φ w (Agree.refl _ _) hS;simp only [AV.conc] at h3;simp only [Oper.upon];rw [if_neg (by omega)];have e2 : ((if (φ id).nil then none else some (⟨(φ id).b, off, none⟩ : Addr)).map (·.add (l * sz))) = (if (φ id).nil then none else some ⟨(φ id).b, off + l * sz, none⟩) := by cases (φ id).nil <;> simp [Yp]
  rw [e2, Nat.sub_sub];exact h3
theorem Y4u {T T' e sz sz' by_ off lo n l N id id' : Nat} {zs cs : List AV} {x : Operand} {hi lop : Option Operand} (ht : (mkTI P T).slice = some (e, sz, by_, zs)) (hx : At tm x (.sl id off lo n)) (hl : BoundA tm lop 0 l) (hh : BoundA tm hi n l) (h1 : l <= n) (hN : lo + n <= N) :
  Does P { dst, op := .slice T x lop hi none, type, pos, after, guard } tm [(id, .row T' sz' N cs)] (.emp id') [] [(id', .dead)] :=
 fun φ w0 M R a w K Q ho hn hS kk => by
  have hc : N <= (φ id).c := Yj9 hS;have e1 := ho x (by simp [Op.operands]) _ hx (by simp);simp only [AV.conc] at e1;have hr := Yce (w := w) (Yi ht φ).1 (if (φ id).nil then none else some ⟨(φ id).b, off, none⟩) (n := n) (c := (φ id).c - lo) (l := l) (h := l) (hl.is (φ := φ) (a := a) fun y hy => ho y (by simp [Op.operands, hy])) (hh.is (φ := φ) (a := a) fun y hy => ho y (by simp [Op.operands, hy])) (Nat.le_refl _) (by omega);rw [<- e1] at hr;unfold Oper.wp;rw [Yby hr];have hag := Ym φ id' ⟨0, false, (φ id).c - lo - l, if (φ id).c - lo = l then (if (φ id).nil then none else some ⟨(φ id).b, off, none⟩) else (if (φ id).nil then none else some (⟨(φ id).b, off, none⟩ : Addr)).map (·.add (l * sz)), 0, undef, fun _ => False⟩;have hx2 := hn id' (by simp [keys]);have hag2 : Yb (fun i => if i = id' then _ else φ i) [(id, It.row T' sz' N cs)] = Yb φ [(id, It.row T' sz' N cs)] := Ybm hag fun i hi => by rw [List.mem_singleton.1 hi]; exact hx2.2
  have h3 := kk _ w hag (by
   rw [Yn];simp only [Yh, hag2];have := hS.dead;exact this.perm (by simp only [Yb, List.map_cons, List.map_nil, It.conc, List.cons_append, List.nil_append]; exact List.Perm.swap _ _ _))
  simp only [AV.conc, if_true] at h3;simp only [Oper.upon, Nat.sub_self];exact h3
theorem Ys3 {T e : TypeId} {sz by_ : Nat} {zs : Array Value} (ht : SliceOf P T e sz by_ zs) (A : Option Addr) {n c h m : Nat} {hv mv : Value} {k1 k2 : IntKind} (hh : hv = .int k1 (h : Int)) (hm : mv = .int k2 (m : Int)) (h1 : h <= m) (h2 : m <= c) :
  (Instr.sliceAt T (.slice A n c) none (some hv) (some mv)).run P w = .ok (.slice (if m = 0 then A else A.map (·.add (0 * sz))) h m) w := by
 obtain ⟨j, z, hj, hz1, hz2, his, hib⟩ := ht.parts;subst his;have e1 : (Instr.sliceBounds true n c none (some hv) (some mv)).run P w = .ok (0, h, m) w := by
  simp only [Instr.sliceBounds, Sem.run_bind, if_true, Yc3 hm h2, Yc3 hh h1, Result.andThen_ok, Sem.run_pure]
 simp only [Instr.sliceAt, Sem.run_bind, run_underlying ht.1 w, Result.andThen_ok, Instr.slice, e1, sizeOf, typeInfo, run_program, hj, Sem.run_pure, Nat.sub_zero]
theorem Yuq {T e : TypeId} {sz by_ m lo2 off2 id2 id' : Nat} {zs : List AV} {s x : Operand} {it2 : It} {news : List AV} (ht : (mkTI P T).slice = some (e, sz, by_, zs)) (hz : zs.length = sz) (hsz : 0 < sz)
  (hs : At tm s (.v (.slice none 0 0))) (hx : At tm x (.sl id2 off2 lo2 m))
  (hnn : ∀ (φ : Phi) (w0 : World) (M : List Nat) (R : RL) (w : World), St w0 M (it2.conc φ id2 :: R) w -> (φ id2).nil = false)
  (hl : news.length = m * sz) (hcs : ∀ (φ : Phi) (j : Nat) (u : Value), (AV.concL φ news)[j]? = some u -> (it2.vals φ)[off2 + j]? = some u) (h1 : Yfb news = true)
  (hnew2 : ∀ i, it2.has i = false -> AV.hasL i news = false) (h63 : m <= maxLen) (hb : m * by_ <= 140737488355328) :
  Does P { dst, op := .call { callee := .builtin .append, args := #[s, x], argTypes := #[T, T] }, type, pos, after, guard } tm [(id2, it2)] (.sl id' 0 0 m) [] [(id', .row e sz m news)] :=
 fun φ w0 M R a w K Q ho hn hS kk => by
  have hnil := hnn φ w0 M _ w hS;have e1 := ho.ev (x := s) (by simp [Op.operands, Call.operands]) hs (by simp);have e2 := ho.ev (x := x) (by simp [Op.operands, Call.operands]) hx (by simp);simp only [AV.conc, hnil, Bool.false_eq_true, if_false] at e2;simp only [AV.conc] at e1;have hnx := hn id' (by simp [keys]);have hnw' : AV.hasL id' news = false := hnew2 id' (Yx hnx.2 (p := (id2, it2)) (by simp)).2;have hid2 : id2 ≠ id' := (Yx hnx.2 (p := (id2, it2)) (by simp)).1;have hit2 : it2.has id' = false := (Yx hnx.2 (p := (id2, it2)) (by simp)).2;have hS2 := hS.add (Ext.refl _) (r := .row (.slice none 0 0) e sz 0 []) ⟨by simp, .inl ⟨rfl, rfl⟩⟩ (by simp [Res.foot, Value.ownBlock]);refine Ygh (n := 0) (xs := []) (news := AV.concL φ news) hS2 (Yi ht φ).1 (by simp [Yg, hz]) hsz e1 e2 (.head) (by rw [Yg, hl]) (fun j u hj => ?_) (Yb6 h1 φ) (by omega) (by simpa using hb) fun v' w' _ hS' => ?_
  ·rw [Yp];exact Ybg hS (hcs φ j u hj)
  ·rw [Nat.zero_add, List.nil_append] at hS';obtain ⟨hd, rfl⟩ := Ypi (hS'.row .head);have hag := Ym φ id' hd;have ea : AV.concL (fun i => if i = id' then hd else φ i) news = AV.concL φ news := Yy hag _ fun i hi => by rw [List.mem_singleton.1 hi]; exact hnw'
   have eb : it2.conc (fun i => if i = id' then hd else φ i) id2 = it2.conc φ id2 := Yhq hag (by simpa using hid2) _ fun i hi => by rw [List.mem_singleton.1 hi]; exact hit2
   have hS3 := hS'.perm (List.Perm.swap _ _ _);have := kk _ w' hag (by
    simp only [Yh, Yb, List.cons_append, List.nil_append, List.map_cons, List.map_nil, eb];simp only [Yb, List.map_cons, List.map_nil] at hS3;generalize it2.conc φ id2 = r2 at hS3 ⊢;simp only [It.conc, ea, if_true];exact hS3)
   simpa [AV.conc] using this
theorem Yjs {T e : TypeId} {sz by_ : Nat} {zs : List AV} {s x : Operand} {sv xv : AV} {hs : Heap} (ht : (mkTI P T).slice = some (e, sz, by_, zs)) (hsv : At tm s sv) (hsj : sv.rd = true) (hxv : At tm x xv) (hxj : xv.rd = true)
  (hx : ∀ φ, ∃ A c, xv.conc φ = .slice A 0 c) (hc : ∀ (φ : Phi) (w0 : World) (M : List Nat) (R : RL) (w : World), St w0 M (Yb φ hs ++ R) w -> ∃ A n c, sv.conc φ = .slice A n c /\ n <= c) :
  Does P { dst, op := .call { callee := .builtin .append, args := #[s, x], argTypes := #[T, T] }, type, pos, after, guard } tm hs sv [] [] :=
 fun φ w0 M R a w K Q ho hn hS kk => by
  have e1 := ho s (by simp [Op.operands, Call.operands]) _ hsv hsj;have e2 := ho x (by simp [Op.operands, Call.operands]) _ hxv hxj;obtain ⟨A, n, c, h1, h2⟩ := hc φ w0 M R w hS;obtain ⟨B, d, h3⟩ := hx φ;obtain ⟨i, z, hi, hz1, hz2, his, hib⟩ := (Yi ht φ).1.parts;have hu := (Yi ht φ).1.1;have hsrc : Src P i.size T (xv.conc φ) 0 [] w := by
   rw [h3];cases B with
   | none => exact Src.ofNil w hu d
   | some b => exact Src.ofSlice w hu b 0 d [] (by simp) (by simp) (by simp)
  have hr := run_append_nothing w T T type e i hu hi A n c h2 (xv.conc φ) hsrc;have h4 := kk φ w (Agree.refl _ _) (by simpa [Yh] using hS);unfold Oper.wp execOp;simp only [resolve, invoke, builtin, Sem.run_bind, Sem.run_pure, Result.andThen_ok, List.map_toArray, List.map_cons, List.map_nil, e1, e2];rw [h1] at h4 ⊢;rw [hr];exact h4
end
end Go.Proofs.YtladoaeefkpdiaaGreatDoor
namespace Go.Proofs.YtladoaeefkpdiaaGreatDoor
open Go.RowKit
variable [InW]
attribute [local irreducible] Go.Oper.wp
section
variable {P : Program} {tm : List AV} {dst : Option Tmp} {type : TypeId} {pos : String} {after : Array Edge} {guard : Option (Nat × Bool)} {w : World}
theorem Yfa {r : Nat} {o : Obj} (h : w.heap[r]? = some o) (hc : ∀ a b c, o ≠ .cells a b c) : (getObj r).run P w = .ok o w := by
 unfold getObj;cases o <;> first | exact absurd rfl (hc _ _ _) | simp only [Sem.run, h]
theorem Yd5 {r : Nat} {o o' : Obj} (h : w.heap[r]? = some o) (hc : ∀ a b c, o ≠ .cells a b c) : (setObj r o').run P w = .ok () { w with heap := w.heap.setIfInBounds r o' } := by
 unfold setObj;cases o <;> first | exact absurd rfl (hc _ _ _) | simp only [Sem.run, h]
theorem Yhj {w0 : World} {M : List Nat} {R : RL} {b : Nat} {o o' : Obj} (h : St w0 M (.blk b o :: R) w) : St w0 M (.blk b o' :: R) { w with heap := w.heap.setIfInBounds b o' } := by
 have hb : w.heap[b]? = some o := h.blk .head;have hlt : b < w.heap.size := (Array.getElem?_eq_some_iff.1 hb).1;refine h.upd .head ⟨rfl, rfl, rfl, by simp, fun k hk hm => ?_⟩ ?_ (fun b' hb' => .inl hb')
 ·have hne : b ≠ k := fun e => hm (by simp [Res.foot, e]);simp [Array.getElem?_setIfInBounds_ne hne]
 ·show ({ w with heap := w.heap.setIfInBounds b o' } : World).heap[b]? = some o'
  simp [hlt]
theorem Y4w {T : TypeId} {x : Operand} {s : ByteArray} {id : Nat} (hu : P.underlying T = some .string) (hx : At tm x (.v (.string s))) : Does P { dst, op := .range T x, type, pos, after, guard } tm [] (.ptr id 0) [] [(id, .obj (.sit s 0))] :=
 fun φ w0 M R a w K Q ho _ hS kk => by
  have e1 := ho x (by simp [Op.operands]) _ hx (by simp);have hr : (Instr.range T (.string s)).run P w = .ok (.pointer (some ⟨w.heap.size, 0, none⟩)) (w.alloc (.stringIter s 0)) := by
   simp only [Instr.range, Sem.run_bind, run_underlying hu w, Result.andThen_ok, Sem.run_pure];rfl
  unfold Oper.wp execOp;simp only [e1, AV.conc, Sem.run_bind, hr, Result.andThen_ok, Sem.run_pure, Oper.upon];have hS' := hS.alloc (.stringIter s 0);have hag := Ym φ id ⟨w.heap.size, false, 0, none, 0, undef, fun _ => False⟩;have := kk _ _ hag (by simpa [Yh, Yb, It.conc, OI.obj] using hS');simpa [AV.conc] using this
theorem Y2c {x : Operand} {s : ByteArray} {p id : Nat} (hx : At tm x (.ptr id 0)) {val : AV} {o' : OI}
  (hv : (p < s.size /\ val = .tup [.v (.bool true), .v (.int .i64 (p : Int)), .v (.int .i32 (Utf8.decode s p).1)] /\ o' = .sit s (p + (Utf8.decode s p).2)) \/ (¬ p < s.size /\ val = .tup [.v (.bool false)] /\ o' = .sit s p)) :
  Does P { dst, op := .next x true, type, pos, after, guard } tm [(id, .obj (.sit s p))] val [(id, .obj o')] [] :=
 fun φ w0 M R a w K Q ho _ hS kk => by
  have e1 := ho x (by simp [Op.operands]) _ hx (by simp);have hS1 : St w0 M (.blk (φ id).b (.stringIter s p) :: R) w := hS;have hb : w.heap[(φ id).b]? = some (.stringIter s p) := hS1.blk .head;have hg := Yfa (P := P) hb (by simp);unfold Oper.wp execOp;rcases hv with ⟨hlt, rfl, rfl⟩ | ⟨hge, rfl, rfl⟩
  ·have hr : (Instr.next (.pointer (some ⟨(φ id).b, 0, none⟩)) true type).run P w = .ok (.tuple #[.bool true, .int .i64 (p : Int), .int .i32 (Utf8.decode s p).1]) { w with heap := w.heap.setIfInBounds (φ id).b (.stringIter s (p + (Utf8.decode s p).2)) } := by
    simp only [Instr.next, Sem.run_bind, hg, Result.andThen_ok, hlt, if_true, Yd5 hb (by simp), Sem.run_pure, goInt]
   simp only [e1, AV.conc, Sem.run_bind, hr, Result.andThen_ok, Sem.run_pure, Oper.upon];have hS2 := Yhj (o' := .stringIter s (p + (Utf8.decode s p).2)) hS1;have := kk φ _ (Agree.refl _ _) (by simpa [Yh, upd, Nat.beq_refl, Yb, It.conc, OI.obj] using hS2);simpa [AV.conc, AV.concL] using this
  ·have hr : (Instr.next (.pointer (some ⟨(φ id).b, 0, none⟩)) true type).run P w = .ok (.tuple #[.bool false]) w := by
    simp only [Instr.next, Sem.run_bind, hg, Result.andThen_ok, hge, if_false, Sem.run_pure]
   simp only [e1, AV.conc, Sem.run_bind, hr, Result.andThen_ok, Sem.run_pure, Oper.upon];have := kk φ _ (Agree.refl _ _) (by simpa [Yh, upd, Nat.beq_refl, Yb, It.conc, OI.obj] using hS1);simpa [AV.conc, AV.concL] using this
theorem Y2d {T : TypeId} {id : Nat} : Does P { dst, op := .makeMap T none, type, pos, after, guard } tm [] (.mp id) [] [(id, .obj (.mpV [] 0))] :=
 fun φ w0 M R a w K Q ho _ hS kk => by
  have hr : (Instr.makeMap T none).run P w = .ok (.map (some w.heap.size)) (w.alloc (.map #[] 0)) := by
   simp only [Instr.makeMap, Sem.run_bind, Sem.run_pure, Result.andThen_ok];rfl
  unfold Oper.wp execOp;simp only [Option.map_none, Sem.run_bind, hr, Result.andThen_ok, Sem.run_pure, Oper.upon];have hS' := hS.alloc (.map #[] 0);have hag := Ym φ id ⟨w.heap.size, false, 0, none, 0, undef, fun _ => False⟩;have := kk _ _ hag (by simpa [Yh, Yb, It.conc, OI.obj] using hS');simpa [AV.conc] using this
def Yfz (T : TypeId) (es : Array MapEntry) (index : Value) (commaOk : Bool) : Sem Value := do
 let .map key elem <- underlying T | stuck "Lookup: map type expected"
 Instr.checkKey es.isEmpty 10000 key index
 let (v, ok) <- match <- Instr.findKey key index es.toList with
  | some (_, v) => pure (v, true)
  | none => pure (<- zeroValue elem, false)
 pure (if commaOk then .tuple #[v, .bool ok] else v)
def Yfr (T : TypeId) (es : Array MapEntry) (clock : Nat) (key value : Value) : Sem (Array MapEntry × Nat) := do
 let .map keyType _ <- underlying T | stuck "MapUpdate: map type expected"
 Instr.checkKey false 10000 keyType key
 match <- Instr.findKey keyType key es.toList with
 | some (i, _) => do
  let key <- Instr.keyThatStays (((es[i]?).map (·.key)).getD key) key
  pure (es.modify i fun e => { e with key, val := value }, clock)
 | none => pure (es.push { key, val := value, born := clock }, clock + 1)
def Yrb {α : Type} (P : Program) : Sem α -> (α -> Prop) -> Prop
 | .pure a, K => K a
 | .program k, K => Yrb P (k P) K
 | _, _ => Stuck 62
theorem Yd6 {α : Type} {K : α -> Prop} : ∀ {s : Sem α}, Yrb P s K -> ∃ v, K v /\ ∀ w, s.run P w = .ok v w
 | .pure a, h => ⟨a, h, fun w => rfl⟩
 | .program k, h => by
  obtain ⟨v, h1, h2⟩ := Yd6 (s := k P) h;exact ⟨v, h1, fun w => h2 w⟩
 | .load .., h => h.elim
 | .store .., h => h.elim
 | .new .., h => h.elim
 | .shape .., h => h.elim
 | .freeze .., h => h.elim
 | .frozen .., h => h.elim
 | .getObj .., h => h.elim
 | .setObj .., h => h.elim
 | .choose .., h => h.elim
 | .sys .., h => h.elim
 | .mark .., h => h.elim
 | .halt .., h => h.elim
theorem Yyi {T key elem : TypeId} {b : Nat} {es : Array MapEntry} {clock : Nat} {index v : Value} {ok : Bool} (hu : P.underlying T = some (.map key elem)) (hb : w.heap[b]? = some (.map es clock)) (h : (Yfz T es index ok).run P w = .ok v w) : (Instr.lookup T (.map (some b)) index ok).run P w = .ok v w := by
 have hg := Yfa (P := P) hb (by simp);unfold Yfz at h;unfold Instr.lookup;simp only [Sem.run_bind, run_underlying hu w, Result.andThen_ok, hg, Sem.run_pure] at h ⊢;exact h
theorem Yyg {T key elem : TypeId} {b : Nat} {es : Array MapEntry} {clock : Nat} {k v : Value} {r : Array MapEntry × Nat} (hu : P.underlying T = some (.map key elem)) (hb : w.heap[b]? = some (.map es clock)) (h : (Yfr T es clock k v).run P w = .ok r w) : (Instr.mapUpdate T (.map (some b)) k v).run P w = .ok () { w with heap := w.heap.setIfInBounds b (.map r.1 r.2) } := by
 have hg := Yfa (P := P) hb (by simp);unfold Yfr at h;unfold Instr.mapUpdate;simp only [Sem.run_bind, run_underlying hu w, Result.andThen_ok, hg, Sem.run_pure] at h ⊢;generalize (Instr.checkKey false 10000 key k).run P w = r1 at h ⊢;cases r1 with
 | halt x w' => simp [Result.andThen] at h
 | ok u w1 =>
  simp only [Result.andThen_ok] at h ⊢;generalize (Instr.findKey key k es.toList).run P w1 = r2 at h ⊢;cases r2 with
  | halt x w' => simp [Result.andThen] at h
  | ok f w2 =>
   simp only [Result.andThen_ok] at h ⊢;cases f with
   | none =>
    simp only [Sem.run_pure, Result.ok.injEq] at h;obtain ⟨rfl, rfl⟩ := h;exact Yd5 hb (by simp)
   | some q =>
    simp only [Sem.run_bind] at h ⊢;generalize (Instr.keyThatStays (((es[q.1]?).map (·.key)).getD k) k).run P w2 = r3 at h ⊢;cases r3 with
    | halt x w' => simp [Result.andThen] at h
    | ok k' w3 =>
     simp only [Result.andThen_ok, Sem.run_pure, Result.ok.injEq] at h ⊢;obtain ⟨rfl, rfl⟩ := h;exact Yd5 hb (by simp)
theorem Yr1 {T key elem : TypeId} {x ix : Operand} {id clock : Nat} {es : List MapEntry} {iv : AV} {k v : Value} {ok : Bool} (hu : P.underlying T = some (.map key elem)) (hx : At tm x (.mp id)) (hi : At tm ix iv) (hj : iv.rd = true) (hk : ∀ φ, iv.conc φ = k) (hr : ∀ w, (Yfz T es.toArray k ok).run P w = .ok v w) :
  Does P { dst, op := .lookup T x ix ok, type, pos, after, guard } tm [(id, .obj (.mpV es clock))] (.v v) [] [] :=
 fun φ w0 M R a w K Q ho _ hS kk => by
  have e1 := ho x (by simp [Op.operands]) _ hx (by simp);have e2 := ho ix (by simp [Op.operands]) _ hi hj;rw [hk φ] at e2;have hS1 : St w0 M (.blk (φ id).b (.map es.toArray clock) :: R) w := hS;have hrun := Yyi (ok := ok) hu (hS1.blk .head) (hr w);unfold Oper.wp execOp;simp only [e1, e2, AV.conc, Sem.run_bind, hrun, Result.andThen_ok, Sem.run_pure, Oper.upon];exact kk φ w (Agree.refl _ _) hS
theorem Yrz {T key elem : TypeId} {x ix y : Operand} {id clock : Nat} {es : List MapEntry} {iv yv : AV} {k v : Value} {r : Array MapEntry × Nat} (hu : P.underlying T = some (.map key elem)) (hx : At tm x (.mp id)) (hi : At tm ix iv) (hj : iv.rd = true) (hk : ∀ φ, iv.conc φ = k) (hy : At tm y yv) (hyj : yv.rd = true) (hyk : ∀ φ, yv.conc φ = v) (hr : ∀ w, (Yfr T es.toArray clock k v).run P w = .ok r w) :
  Does P { dst, op := .mapUpdate T x ix y, type, pos, after, guard } tm [(id, .obj (.mpV es clock))] (.v undef) [(id, .obj (.mpV r.1.toList r.2))] [] :=
 fun φ w0 M R a w K Q ho _ hS kk => by
  have e1 := ho x (by simp [Op.operands]) _ hx (by simp);have e2 := ho ix (by simp [Op.operands]) _ hi hj;have e3 := ho y (by simp [Op.operands]) _ hy hyj;rw [hk φ] at e2;rw [hyk φ] at e3;have hS1 : St w0 M (.blk (φ id).b (.map es.toArray clock) :: R) w := hS;have hrun := Yyg hu (hS1.blk .head) (hr w);have hS2 := Yhj (o' := .map r.1 r.2) hS1;unfold Oper.wp execOp;simp only [e1, e2, e3, AV.conc, Sem.run_bind, hrun, Result.andThen_ok, Sem.run_pure, Oper.upon];exact kk φ _ (Agree.refl _ _) (by simpa [Yh, upd, Nat.beq_refl, Yb, It.conc, OI.obj] using hS2)
def Ym2 : List AV -> (List Value -> Prop) -> Prop
 | [], K => K []
 | x :: xs, K => match x with | .v y => Ym2 xs fun r => K (y :: r) | _ => Stuck 63
def Ygq (x : AV) (K : Value -> Prop) : Prop :=
 match x with
 | .v y => K y
 | .agg cs => Ym2 cs fun l => K (.agg l.toArray)
 | _ => Stuck 64
theorem Ygp : ∀ {xs : List AV} {K : List Value -> Prop}, Ym2 xs K -> ∃ l, K l /\ ∀ φ, AV.concL φ xs = l
 | [], K, h => ⟨[], h, fun φ => rfl⟩
 | x :: xs, K, h => by
  unfold Ym2 at h
  split at h
  ·obtain ⟨l, h1, h2⟩ := Ygp h;exact ⟨_, h1, fun φ => by simp only [AV.concL, AV.conc, h2 φ]⟩
  ·exact h.elim
theorem Ydf {x : AV} {K : Value -> Prop} (h : Ygq x K) : ∃ y, K y /\ ∀ φ, x.conc φ = y := by
 unfold Ygq at h
 split at h
 ·exact ⟨_, h, fun φ => rfl⟩
 ·obtain ⟨l, h1, h2⟩ := Ygp h;exact ⟨_, h1, fun φ => by simp only [AV.conc, h2 φ]⟩
 ·exact h.elim
end
end Go.Proofs.YtladoaeefkpdiaaGreatDoor
namespace Go.Proofs.YtladoaeefkpdiaaGreatDoor
open Go.RowKit
variable [InW]
structure RepS (φ0 φ : Phi) (w0 : World) (M : List Nat) (R : RL) (tm : List AV) (hp : Heap) (a : Act) (w : World) : Prop where
 tmps : RepT φ tm a
 st : St w0 M (Yb φ hp ++ R) w
 nd : (keys hp).Nodup
 base : ∀ x, φ (3 * x + 1) = φ0 x
structure PartOf (hs hp : Heap) : Prop where
 nd : (keys hs).Nodup
 all : ∀ p ∈ hs, look hp p.1 = some p.2
def Yri : Heap -> List AV -> Heap -> Bool
 | [], _, _ => true
 | p :: nw, tm, hp => match AV.hasL p.1 tm with
  | true => false
  | false => match hasH p.1 hp with
   | true => false
   | false => match look nw p.1 with
    | some _ => false
    | none => match Nat.beq (p.1 % 3) 1 with
     | true => false
     | false => Yri nw tm hp
theorem Ydg : ∀ {nw : Heap} {tm : List AV} {hp : Heap}, Yri nw tm hp = true -> NewFor (keys nw) tm hp /\ (keys nw).Nodup /\ ∀ i ∈ keys nw, i % 3 ≠ 1
 | [], tm, hp, _ => ⟨by intro i hi; simp [keys] at hi, by simp [keys], by simp [keys]⟩
 | p :: nw, tm, hp, h => by
  unfold Yri at h
  split at h
  ·cases h
  ·rename_i h1
   split at h
   ·cases h
   ·rename_i h2
    split at h
    ·cases h
    ·rename_i h3
     split at h
     ·cases h
     ·rename_i h4;obtain ⟨a1, a2, a3⟩ := Ydg h;refine ⟨fun i hi => ?_, ?_, fun i hi => ?_⟩
      ·simp only [keys, List.map_cons, List.mem_cons] at hi;rcases hi with rfl | hi
       ·exact ⟨h1, h2⟩
       ·exact a1 i hi
      ·simp only [keys, List.map_cons, List.nodup_cons];refine ⟨fun hm => ?_, a2⟩;obtain ⟨q, hq, e⟩ := List.mem_map.1 hm;have := Yb3 a2 hq;rw [e, h3] at this;cases this
      ·simp only [keys, List.map_cons, List.mem_cons] at hi;rcases hi with rfl | hi
       ·exact Y4.1 h4
       ·exact a3 i hi
theorem Yh0 : ∀ (us h h' : Heap) (k : Nat), look h k = look h' k -> look (Yh h us) k = look (Yh h' us) k
 | [], h, h', k, e => e
 | p :: us, h, h', k, e => by
  refine Yh0 us _ _ k ?_;rw [Yrk, Yrk]
  by_cases ek : k = p.1
  ·subst ek; rw [e]
  ·simp [ek, e]
theorem Ydq : ∀ (us h : Heap) (k : Nat), k ∉ keys us -> look (Yh h us) k = look h k
 | [], h, k, _ => rfl
 | p :: us, h, k, hk => by
  simp only [keys, List.map_cons, List.mem_cons, not_or] at hk;rw [Yh, Ydq us _ k hk.2, Yrk, if_neg (fun h => hk.1 h.1)]
def Yb0 (hs hp : Heap) : Heap := hp.filter fun p => !(keys hs).contains p.1
theorem Yf2 {hs hp : Heap} {i : Nat} : i ∈ keys (Yb0 hs hp) ↔ i ∈ keys hp /\ i ∉ keys hs := by
 simp only [keys, Yb0, List.mem_map, List.mem_filter, Bool.not_eq_true', List.contains_eq_mem, decide_eq_false_iff_not];constructor
 ·rintro ⟨p, ⟨h1, h2⟩, rfl⟩; exact ⟨⟨p, h1, rfl⟩, h2⟩
 ·rintro ⟨⟨p, h1, rfl⟩, h2⟩; exact ⟨p, ⟨h1, h2⟩, rfl⟩
theorem Ym9 {hs hp : Heap} (h : (keys hp).Nodup) : (keys (Yb0 hs hp)).Nodup := by
 unfold keys Yb0;exact (List.Nodup.sublist (List.filter_sublist.map _) h)
theorem Ync {hs hp : Heap} (hn : (keys hp).Nodup) {i : Nat} (hi : i ∉ keys hs) : look (Yb0 hs hp) i = look hp i := by
 cases hl : look hp i with
 | some x =>
  have hm : (i, x) ∈ Yb0 hs hp := by simp only [Yb0, List.mem_filter, Bool.not_eq_true', List.contains_eq_mem, decide_eq_false_iff_not]; exact ⟨Yba hl, hi⟩
  exact Yb3 (Ym9 hn) hm
 | none =>
  refine Ybq fun hm => ?_;have := (Yf2.1 hm).1;obtain ⟨p, hp', rfl⟩ := List.mem_map.1 this;rw [Yb3 hn hp'] at hl;cases hl
theorem PartOf.perm {hs hp : Heap} (h : PartOf hs hp) (hn : (keys hp).Nodup) : hp.Perm (hs ++ Yb0 hs hp) := by
 refine Ygr hn ?_ fun i => ?_
 ·rw [Ybo];exact List.nodup_append.2 ⟨h.nd, Ym9 hn, fun a ha b hb e => (Yf2.1 hb).2 (e ▸ ha)⟩
 ·rw [Yjf]
  by_cases hi : i ∈ keys hs
  ·obtain ⟨p, hp', rfl⟩ := List.mem_map.1 hi;rw [Yb3 h.nd hp', h.all p hp'];rfl
  ·rw [Ybq hi, Ync hn hi];rfl
theorem Yv {φ : Phi} {a b : Heap} (h : a.Perm b) : (Yb φ a).Perm (Yb φ b) := h.map _
theorem Yzc {hs hp us nw : Heap} (h : PartOf hs hp) (hn : (keys hp).Nodup) (hu : ∀ i ∈ keys us, i ∈ keys hs) (hw : (keys nw).Nodup) (hf : ∀ i ∈ keys nw, i ∉ keys hp) :
  (Ybe (Yh hp us) nw).Perm (Yh hs us ++ nw ++ Yb0 hs hp) /\ (keys (Ybe (Yh hp us) nw)).Nodup := by
 have hkp : ∀ i ∈ keys hs, i ∈ keys hp := fun i hi => by
  obtain ⟨p, hp', rfl⟩ := List.mem_map.1 hi;exact Ycs (h.all p hp')
 have n1 : (keys (Ybe (Yh hp us) nw)).Nodup := by
  refine (Yij nw _).nodup_iff.2 ?_;rw [Yei];exact List.nodup_append.2 ⟨hw, hn, fun a ha b hb e => hf a ha (e ▸ hb)⟩
 refine ⟨Ygr n1 ?_ fun i => ?_, n1⟩
 ·rw [Ybo, Ybo, Yei];refine List.nodup_append.2 ⟨List.nodup_append.2 ⟨h.nd, hw, fun a ha b hb e => hf b hb (e ▸ hkp a ha)⟩, Ym9 hn, fun a ha b hb e => ?_⟩;have hb' := Yf2.1 hb;rcases List.mem_append.1 ha with ha | ha
  ·exact hb'.2 (e ▸ ha)
  ·exact hf a ha (e ▸ hb'.1)
 ·rw [Yii nw _ hw (by rw [Yei]; exact hf), Yjf, Yjf]
  by_cases hi : i ∈ keys hs
  ·obtain ⟨p, hp', rfl⟩ := List.mem_map.1 hi;have e1 : look hp p.1 = look hs p.1 := by rw [h.all p hp', Yb3 h.nd hp']
   have h0 : look nw p.1 = none := Ybq fun hm => hf _ hm (hkp _ hi);have h1 : look (Yb0 hs hp) p.1 = none := Ybq fun hm => (Yf2.1 hm).2 hi;rw [Yh0 us _ _ _ e1, h0, h1];simp
  ·have h2 : look (Yh hs us) i = none := by rw [Ydq us _ _ (fun hm => hi (hu i hm)), Ybq hi]
   rw [Ydq us _ _ (fun hm => hi (hu i hm)), h2, Ync hn hi];simp
def putA (tm : List AV) (dst : Option Tmp) (v : AV) : List AV := match dst with | none => tm | some d => Ycm tm d v
def Y3x (x : AV) (xs : List AV) (v : AV) (K : List AV -> Prop) : Prop :=
 match x with
 | .held y => K (.held y :: xs)
 | _ => (match v with | .held _ => K (.junk :: xs) | v => K (v :: xs))
def Y5j (l : List AV) : Nat -> AV -> (List AV -> Prop) -> Prop :=
 List.rec (motive := fun _ => Nat -> AV -> (List AV -> Prop) -> Prop) (fun _ _ _ => Stuck 3) (fun x xs ih n v K => Nat.rec (motive := fun _ => Prop) (Y3x x xs v K) (fun m _ => ih m v fun r => K (x :: r)) n) l
theorem Ym1 {v : AV} : ∀ {tm : List AV} {d : Nat} {K : List AV -> Prop}, Y5j tm d v K -> K (Ycm tm d v)
 | [], _, _, h => h.elim
 | x :: xs, 0, K, h => by cases x <;> cases v <;> exact h
 | x :: xs, d + 1, K, h => Ym1 (tm := xs) (K := fun r => K (x :: r)) h
def putK (tm : List AV) (dst : Option Tmp) (v : AV) (K : List AV -> Prop) : Prop := match dst with | none => K tm | some d => Y5j tm d v K
theorem Yec {tm : List AV} {dst : Option Tmp} {v : AV} {K : List AV -> Prop} (h : putK tm dst v K) : K (putA tm dst v) := by
 cases dst with
 | none => exact h
 | some d => exact Ym1 h
theorem RepT.put {φ : Phi} {tm : List AV} {a : Act} (h : RepT φ tm a) (dst : Option Tmp) (v : AV) : RepT φ (putA tm dst v) (a.put dst (v.conc φ)) := by
 cases dst with
 | none => exact h
 | some d =>
  have key : ∀ (t : Nat) (u : AV), (Ycm tm d v)[t]? = some u -> (∃ x, tm[t]? = some x /\ x.isHeld = u.isHeld /\ (u = x \/ (t = d /\ x.isHeld = false /\ u = v.cut))) := fun t u hu => by
   by_cases e : t = d
   ·subst e;rw [Ylj, Option.map_eq_some_iff] at hu;obtain ⟨x, hx, e2⟩ := hu;refine ⟨x, hx, ?_⟩
    split at e2
    ·subst e2; exact ⟨rfl, .inl rfl⟩
    ·rename_i hh;subst e2;have hh' : x.isHeld = false := by simpa using hh
     exact ⟨by rw [hh', Yr3], .inr ⟨rfl, hh', rfl⟩⟩
   ·rw [Yi3 tm v e] at hu;exact ⟨u, hu, rfl, .inl rfl⟩
  refine ⟨fun t u hu hh => ?_, fun t u hu hh => ?_, fun t u hu hr => ?_, ?_, by show (a.tmps.setIfInBounds d (v.conc φ)).size <= (Ycm tm d v).length; rw [Array.size_setIfInBounds, Ygo]; exact h.len⟩
  ·obtain ⟨x, hx, e1, _⟩ := key t u hu;simp only [Act.put, Array.size_setIfInBounds];exact h.size t x hx (e1.trans hh)
  ·obtain ⟨x, hx, e1, _⟩ := key t u hu;simp only [Act.put, Array.size_setIfInBounds];exact h.held t x hx (e1.trans hh)
  ·replace hu : (Ycm tm d v)[t]? = some u := hu
   simp only [Act.put, Array.getElem?_setIfInBounds]
   by_cases e : d = t
   ·subst e;rw [if_pos rfl];rw [Ylj, Option.map_eq_some_iff] at hu;obtain ⟨x, hx, e2⟩ := hu
    split at e2
    ·rename_i hh;subst e2;cases x <;> simp_all [AV.isHeld]
    ·rename_i hh;subst e2;rw [if_pos (h.size d x hx (by simpa using hh)), (Y7n hr).1]
   ·rw [if_neg e];rw [Yi3 tm v (Ne.symm e)] at hu;exact h.slot t u hu hr
  ·rw [show putA tm (some d) v = Ycm tm d v from rfl, Yg7];exact h.df
theorem Yfh {x : AV} : ∀ {tm : List AV}, x ∈ Ybf tm -> .held x ∈ tm
 | y :: ys, h => by
  rw [Y5] at h;rcases List.mem_append.1 h with h | h
  ·cases y <;> simp_all
  ·exact List.mem_cons_of_mem _ (Yfh h)
theorem Ywq {φ φ' : Phi} {ks : List Nat} {tm : List AV} (hag : Agree ks φ φ') (hn : ∀ i ∈ ks, AV.hasL i tm = false) : (Ybf tm).map (Ye4 φ') = (Ybf tm).map (Ye4 φ) := by
 refine List.map_congr_left fun x hx => ?_;unfold Ye4;rw [Yfl hag x fun i hi => by have := Yjk (hn i hi) (Yfh hx); simpa [AV.has] using this]
theorem RepT.agree {φ φ' : Phi} {ks : List Nat} {tm : List AV} {a : Act} (h : RepT φ tm a) (hag : Agree ks φ φ') (hn : ∀ i ∈ ks, AV.hasL i tm = false) : RepT φ' tm a :=
 ⟨h.size, h.held, fun t v hv hj => by rw [h.slot t v hv hj, Yfl hag v fun i hi => Yjk (hn i hi) (List.mem_of_getElem? hv)], by rw [Ywq hag hn]; exact h.df, h.len⟩
theorem RepS.new_heap {φ0 φ φ' : Phi} {w0 : World} {M : List Nat} {R : RL} {tm : List AV} {hp hs us nw : Heap} {a : Act} {w w' : World} (h : RepS φ0 φ w0 M R tm hp a w) (hpart : PartOf hs hp) (hu : ∀ i ∈ keys us, i ∈ keys hs) (hB : NewFor (keys nw) tm hp /\ (keys nw).Nodup /\ ∀ i ∈ keys nw, i % 3 ≠ 1)
  (hag : Agree (keys nw) φ φ') (hS : St w0 M (Yb φ' (Yh hs us ++ nw) ++ (Yb φ (Yb0 hs hp) ++ R)) w') (dst : Option Tmp) (v : AV) : RepS φ0 φ' w0 M R (putA tm dst v) (Ybe (Yh hp us) nw) (a.put dst (v.conc φ')) w' := by
 have hB' := hB;obtain ⟨b1, b2, b3⟩ := hB;have hf : ∀ i ∈ keys nw, i ∉ keys hp := fun i hi hm => by
  obtain ⟨p, hp', e⟩ := List.mem_map.1 hm;exact (Yx (b1 i hi).2 hp').1 e
 obtain ⟨p1, n1⟩ := Yzc hpart h.nd hu b2 hf;refine ⟨(h.tmps.agree hag fun i hi => (b1 i hi).1).put dst v, ?_, n1, fun x => ?_⟩
 ·have e : Yb φ (Yb0 hs hp) = Yb φ' (Yb0 hs hp) := (Ybm hag fun i hi => Ye1 fun p hp' => Yx (b1 i hi).2 (List.mem_filter.1 hp').1).symm;rw [e, <- List.append_assoc, <- Yn] at hS;exact hS.perm ((Yv p1.symm).append (List.Perm.refl _))
 ·rw [hag (3 * x + 1) fun hm => b3 _ hm (by omega)];exact h.base x
def Yql (dst : Option Tmp) (tm : List AV) (hp : Heap) (val : AV) (us nw : Heap) (K : List AV -> Heap -> Prop) : Prop :=
 Yc (Yri nw tm hp) (Yge hp us fun hp => Yf3 hp nw fun hp => putK tm dst val fun tm => K tm hp)
theorem Yen {dst : Option Tmp} {tm : List AV} {hp : Heap} {val : AV} {us nw : Heap} {K : List AV -> Heap -> Prop} (h : Yql dst tm hp val us nw K) : (NewFor (keys nw) tm hp /\ (keys nw).Nodup /\ ∀ i ∈ keys nw, i % 3 ≠ 1) /\ K (putA tm dst val) (Ybe (Yh hp us) nw) := by
 obtain ⟨h1, h2⟩ := Ya h;exact ⟨Ydg h1, Yec (Ycw.1 (Yda.1 h2))⟩
theorem Yqf {P : Program} {o : Oper} {tm : List AV} {hp hs us nw : Heap} {val : AV} (hd : Does P o tm hs val us nw) (hpart : PartOf hs hp) (hu : ∀ i ∈ keys us, i ∈ keys hs) (hB : NewFor (keys nw) tm hp /\ (keys nw).Nodup /\ ∀ i ∈ keys nw, i % 3 ≠ 1)
  {φ0 φ : Phi} {w0 : World} {M : List Nat} {R : RL} {a : Act} {w : World} (h : RepS φ0 φ w0 M R tm hp a w) {K : Act -> World -> Prop} {Q : Exit -> Act -> World -> Prop}
  (kk : ∀ φ' w', RepS φ0 φ' w0 M R (putA tm o.dst val) (Ybe (Yh hp us) nw) (a.put o.dst (val.conc φ')) w' -> K (a.put o.dst (val.conc φ')) w') : o.wp P a w K Q := by
 have hB' := hB;obtain ⟨b1, b2, b3⟩ := hB;have hS : St w0 M (Yb φ hs ++ (Yb φ (Yb0 hs hp) ++ R)) w := by
  have := h.st.perm ((Yv (hpart.perm h.nd)).append (List.Perm.refl R));rwa [Yn, List.append_assoc] at this
 refine hd φ w0 M _ a w K Q (h.tmps.ops _) (fun i hi => ⟨(b1 i hi).1, Ye1 fun p hp' => ?_⟩) hS fun φ' w' hag hS' => kk φ' w' (h.new_heap hpart hu hB' hag hS' _ _);exact Yx (b1 i hi).2 (Yba (hpart.all p hp'))
theorem PartOf.nil (hp : Heap) : PartOf [] hp := ⟨by simp [keys], by simp⟩
theorem PartOf.one {hp : Heap} {i : Nat} {x : It} (h : look hp i = some x) : PartOf [(i, x)] hp := ⟨by simp [keys], by simpa using h⟩
theorem PartOf.two {hp : Heap} {i j : Nat} {x y : It} (h : look hp i = some x) (k : look hp j = some y) (hne : i ≠ j) : PartOf [(i, x), (j, y)] hp := ⟨by simp [keys, hne], by simp [h, k]⟩
end Go.Proofs.YtladoaeefkpdiaaGreatDoor
namespace Go.Proofs.YtladoaeefkpdiaaGreatDoor
open Go.RowKit
variable [InW]
attribute [local irreducible] Go.Oper.wp
section
variable {P : Program} {tm : List AV} {dst : Option Tmp} {type : TypeId} {pos : String} {after : Array Edge} {guard : Option (Nat × Bool)}
def Yuy (pan : Bool) (v : Value) : Ending := match pan with | true => .panicked [{ v, recovered := false }] | false => .returned v
def ACall (P : Program) (g : FuncId) (args : List AV) (hs : Heap) (pan : Bool) (val : AV) (us nw : Heap) : Prop :=
 ∀ (φ : Phi) (w0 : World) (M : List Nat) (R : RL) (w : World), NewFor (keys nw) args hs -> St w0 M (Yb φ hs ++ R) w ->
  Calls P g (AV.concL φ args).toArray w fun e w' => ∃ φ', Agree (keys nw) φ φ' /\ e = Yuy pan (val.conc φ') /\ St w0 M (Yb φ' (Yh hs us ++ nw) ++ R) w'
def DoesP (P : Program) (o : Oper) (tm : List AV) (hs : Heap) (val : AV) (us nw : Heap) : Prop :=
 ∀ (φ : Phi) (w0 : World) (M : List Nat) (R : RL) (a : Act) (w : World) (K : Act -> World -> Prop) (Q : Exit -> Act -> World -> Prop),
  OpsAt φ tm a o.op -> NewFor (keys nw) tm hs -> St w0 M (Yb φ hs ++ R) w ->
  (∀ φ' w', Agree (keys nw) φ φ' -> St w0 M (Yb φ' (Yh hs us ++ nw) ++ R) w' -> Q (.panic [{ v := val.conc φ', recovered := false }]) a w') -> o.wp P a w K Q
def Yf8 (P : Program) (g : FuncId) : Bool := match P.funcs[g]? with | some fn => !(fn.name == "runtime.NumGoroutine") && fn.body.isSome | none => false
theorem Ygl {g : FuncId} (h : Yf8 P g = true) (args : Array Value) (w : World) : (callFunc g args).run P w = .ok (.enter g args) w := by
 unfold Yf8 at h;cases hf : P.funcs[g]? with
 | none => simp [hf] at h
 | some fn =>
  simp only [hf, Bool.and_eq_true, Bool.not_eq_true'] at h;have h1 : ¬ fn.name = "runtime.NumGoroutine" := by simpa using h.1
  have h2 : ¬ fn.body = none := by
   have := h.2;intro e;rw [e] at this;cases this
  simp [callFunc, Sem.run_bind, run_program, hf, h1, h2]
theorem Ats.eval {φ : Phi} {a : Act} : ∀ {xs : List Operand} {vs : List AV}, Ats tm xs vs -> (∀ x ∈ xs, ∀ v, At tm x v -> v.rd = true -> a.eval x = v.conc φ) -> xs.map a.eval = AV.concL φ vs := by
 intro xs vs h
 induction h with
 | nil => intro _; rfl
 | cons hj h t ih =>
  intro ho;simp only [List.map_cons, AV.concL, ho _ List.mem_cons_self _ h hj, ih fun x hx => ho x (List.mem_cons_of_mem _ hx)]
theorem Yuf {f : Operand} {args : Array Operand} {tys : Array TypeId} {a : Act} {w : World} {g : FuncId} {F C : Array Value} (hok : Yf8 P g = true) (hf : a.eval f = .func (.func g) F C) :
  (execOp a.eval { dst, op := .call { callee := .value f, args, argTypes := tys }, type, pos, after, guard }).run P w = .ok (.enter g (F ++ args.map a.eval ++ C)) w := by
 simp only [execOp, resolve, hf, Deferred.ofValue, Sem.run_bind, Sem.run_pure, Result.andThen_ok, invoke, Ygl hok]
def funK (x : AV) (K : FuncId -> List AV -> List AV -> Prop) : Prop :=
 match x with
 | .fn (.func g) a b => K g a b
 | .v (.func (.func g) A B) => Yrj A.toList fun a => Yrj B.toList fun b => K g a b
 | _ => Stuck 14
theorem Yjl {x : AV} {K : FuncId -> List AV -> List AV -> Prop} (h : funK x K) : ∃ g a b, K g a b /\ (∀ φ, x.conc φ = .func (.func g) (AV.concL φ a).toArray (AV.concL φ b).toArray) /\ ∀ i, x.has i = false -> AV.hasL i a = false /\ AV.hasL i b = false := by
 unfold funK at h
 split at h
 ·exact ⟨_, _, _, h, fun φ => rfl, fun i hi => by simpa [AV.has] using hi⟩
 ·refine ⟨_, _, _, Yeg.1 (Yeg.1 h), fun φ => by simp [AV.conc, Yw, Function.comp_def], fun i _ => by simp [Yo, AV.has]⟩
 ·exact h.elim
theorem Y8c {f : Operand} {args : List Operand} {tys : Array TypeId} {fv : AV} {g : FuncId} {fs cs vs : List AV} {hs : Heap} {val : AV} {us nw : Heap} (hok : Yf8 P g = true) (hf : At tm f fv) (hj : fv.rd = true) (hfv : ∀ φ, fv.conc φ = .func (.func g) (AV.concL φ fs).toArray (AV.concL φ cs).toArray)
  (hfh : ∀ i, fv.has i = false -> AV.hasL i fs = false /\ AV.hasL i cs = false) (ha : Ats tm args vs) (hc : ACall P g (fs ++ vs ++ cs) hs false val us nw) :
  Does P { dst, op := .call { callee := .value f, args := args.toArray, argTypes := tys }, type, pos, after, guard } tm hs val us nw :=
 fun φ w0 M R a w K Q ho hn hS kk => by
  have e1 := ho f (by simp [Op.operands, Call.operands]) fv hf hj;have e2 := ha.eval (φ := φ) (a := a) fun x hx v hv hj => ho x (by simp [Op.operands, Call.operands, hx]) v hv hj;rw [hfv φ] at e1;unfold Oper.wp;rw [Yuf hok e1];have e3 : (AV.concL φ fs).toArray ++ args.toArray.map a.eval ++ (AV.concL φ cs).toArray = (AV.concL φ (fs ++ vs ++ cs)).toArray := by
   rw [Ybz, Ybz, <- e2]; simp
  rw [e3];refine (hc φ w0 M R w (fun i hi => ⟨?_, (hn i hi).2⟩) hS).mono fun e w' ⟨φ', hag, he, hS'⟩ => ?_
  ·have h1 := hfh i (hf.new (hn i hi).1);rw [Yo, List.any_append, List.any_append, <- Yo, <- Yo, <- Yo, h1.1, h1.2, ha.new (hn i hi).1];rfl
  ·subst he;exact kk φ' w' hag hS'
theorem Y65 {f : Operand} {args : List Operand} {tys : Array TypeId} {fv : AV} {g : FuncId} {fs cs vs : List AV} {hs : Heap} {val : AV} {us nw : Heap} (hok : Yf8 P g = true) (hf : At tm f fv) (hj : fv.rd = true) (hfv : ∀ φ, fv.conc φ = .func (.func g) (AV.concL φ fs).toArray (AV.concL φ cs).toArray)
  (hfh : ∀ i, fv.has i = false -> AV.hasL i fs = false /\ AV.hasL i cs = false) (ha : Ats tm args vs) (hc : ACall P g (fs ++ vs ++ cs) hs true val us nw) :
  DoesP P { dst, op := .call { callee := .value f, args := args.toArray, argTypes := tys }, type, pos, after, guard } tm hs val us nw :=
 fun φ w0 M R a w K Q ho hn hS kk => by
  have e1 := ho f (by simp [Op.operands, Call.operands]) fv hf hj;have e2 := ha.eval (φ := φ) (a := a) fun x hx v hv hj => ho x (by simp [Op.operands, Call.operands, hx]) v hv hj;rw [hfv φ] at e1;unfold Oper.wp;rw [Yuf hok e1];have e3 : (AV.concL φ fs).toArray ++ args.toArray.map a.eval ++ (AV.concL φ cs).toArray = (AV.concL φ (fs ++ vs ++ cs)).toArray := by
   rw [Ybz, Ybz, <- e2]; simp
  rw [e3];refine (hc φ w0 M R w (fun i hi => ⟨?_, (hn i hi).2⟩) hS).mono fun e w' ⟨φ', hag, he, hS'⟩ => ?_
  ·have h1 := hfh i (hf.new (hn i hi).1);rw [Yo, List.any_append, List.any_append, <- Yo, <- Yo, <- Yo, h1.1, h1.2, ha.new (hn i hi).1];rfl
  ·subst he;exact kk φ' w' hag hS'
theorem Y2b {x : Operand} {v : AV} {t : TypeId} {y : AV} (hx : At tm x v) (hj : v.rd = true) (hv : ∀ φ, v.conc φ = .iface t (y.conc φ)) : DoesP P { dst, op := .panic x, type, pos, after, guard } tm [] v [] [] :=
 fun φ w0 M R a w K Q ho hn hS kk => by
  have e1 := ho x (by simp [Op.operands]) v hx hj;unfold Oper.wp execOp;have h2 := kk φ w (Agree.refl _ _) (by simpa [Yh] using hS);rw [hv φ] at e1 h2;simp only [e1, Instr.panic, goPanic, Sem.run_bind, Sem.run, Result.andThen, Oper.upon];exact h2
theorem Yzl {fn : Fn} {first caught : List Operand} {fs cs : List AV} (hf : Ats tm first fs) (hc : Ats tm caught cs) : Does P { dst, op := .makeFunc fn first.toArray caught.toArray, type, pos, after, guard } tm [] (.fn fn fs cs) [] [] :=
 Does.pure fun φ a ho w => by
  have e1 := hf.eval (φ := φ) (a := a) fun x hx v hv hj => ho x (by simp [Op.operands, hx]) v hv hj;have e2 := hc.eval (φ := φ) (a := a) fun x hx v hv hj => ho x (by simp [Op.operands, hx]) v hv hj;have e1' : first.toArray.map a.eval = (AV.concL φ fs).toArray := by rw [<- e1]; simp
  have e2' : caught.toArray.map a.eval = (AV.concL φ cs).toArray := by rw [<- e2]; simp
  simp only [execOp, Instr.makeFunc, e1', e2', Sem.run_bind, Sem.run_pure, Result.andThen_ok, AV.conc]
def Y56 (P : Program) : Sem Next -> (Value -> Prop) -> Prop
 | .pure n, K => match n with | .value v => K v | _ => Stuck 15
 | .program k, K => Y56 P (k P) K
 | _, _ => Stuck 16
theorem Ypo {K : Value -> Prop} : ∀ {s : Sem Next}, Y56 P s K -> ∃ v, K v /\ ∀ w, s.run P w = .ok (.value v) w
 | .pure n, h => by
  cases n <;> first | exact Stuck.elim h | exact ⟨_, h, fun w => rfl⟩
 | .program k, h => by
  obtain ⟨v, h1, h2⟩ := Ypo (s := k P) h;exact ⟨v, h1, fun w => h2 w⟩
 | .load .., h => h.elim
 | .store .., h => h.elim
 | .new .., h => h.elim
 | .shape .., h => h.elim
 | .freeze .., h => h.elim
 | .frozen .., h => h.elim
 | .getObj .., h => h.elim
 | .setObj .., h => h.elim
 | .choose .., h => h.elim
 | .sys .., h => h.elim
 | .mark .., h => h.elim
 | .halt .., h => h.elim
def nthV : List AV -> Nat -> Option Value
 | [], _ => none
 | x :: _, 0 => match x with | .v y => some y | .fn f a b => (match a, b with | [], [] => some (.func f #[] #[]) | _, _ => none) | _ => none
 | _ :: xs, n + 1 => nthV xs n
def Ys9 (tm : List AV) : Operand -> Option Value
 | .tmp t => nthV tm t
 | .const v => some v
 | .global _ => none
 | .func f => some (.func (.func f) #[] #[])
def Yll (tm : List AV) : List Operand -> Bool
 | [] => true
 | x :: xs => match Ys9 tm x with | some _ => Yll tm xs | none => false
def rho (tm : List AV) (x : Operand) : Value := match Ys9 tm x with | some v => v | none => undef
theorem Ytk : ∀ {tm : List AV} {t : Nat} {v : Value}, nthV tm t = some v -> ∃ x : AV, tm[t]? = some x /\ x.rd = true /\ ∀ φ, x.conc φ = v
 | [], t, v, h => by simp [nthV] at h
 | x :: xs, 0, v, h => by
  refine ⟨x, rfl, ?_⟩;cases x <;> simp only [nthV, reduceCtorEq, Option.some.injEq] at h
  case v y => subst h; exact ⟨by simp, fun φ => rfl⟩
  case fn f a b =>
   cases a <;> cases b <;> simp only [reduceCtorEq, Option.some.injEq] at h;subst h;exact ⟨by simp, fun φ => rfl⟩
 | x :: xs, n + 1, v, h => by simpa using Ytk (tm := xs) h
theorem Yi5 {φ : Phi} {a : Act} {op : Op} (ho : OpsAt φ tm a op) : ∀ {xs : List Operand}, Yll tm xs = true -> (∀ x ∈ xs, x ∈ op.operands) -> ∀ x ∈ xs, a.eval x = rho tm x
 | [], _, _, x, hx => by cases hx
 | y :: ys, h, hm, x, hx => by
  unfold Yll at h
  split at h
  ·rename_i v hv;rcases List.mem_cons.1 hx with rfl | hx
   ·unfold rho;rw [hv];cases x with
    | tmp t =>
     obtain ⟨u, h1, h2, h3⟩ := Ytk hv;rw [ho _ (hm _ List.mem_cons_self) u h1 h2, h3]
    | const c => simp only [Ys9, Option.some.injEq] at hv; subst hv; rfl
    | global g => simp [Ys9] at hv
    | func f => simp only [Ys9, Option.some.injEq] at hv; subst hv; rfl
   ·exact Yi5 ho h (fun x hx => hm x (List.mem_cons_of_mem _ hx)) x hx
  ·cases h
def Ytm : Op -> Bool
 | .select _ _ => false
 | _ => true
def Yt9 (v : Value) (K : Value -> Prop) : Prop :=
 match v with
 | .int k n => Yqa n fun n => K (.int k n)
 | .bool b => (match b with | true => K (.bool true) | false => K (.bool false))
 | v => K v
theorem Ykl {v : Value} {K : Value -> Prop} : Yt9 v K ↔ K v := by
 cases v <;> try exact Iff.rfl
 case bool b => cases b <;> exact Iff.rfl
 case int k n => exact Yhr (K := fun n => K (.int k n))
def Y7o (P : Program) (o : Oper) (tm : List AV) (K : AV -> Prop) : Prop :=
 Yc (Yll tm o.op.operands.toList && Ytm o.op) (Y56 P (execOp (rho tm) o) fun v => Yt9 v fun v => K (.v v))
theorem Yyv {o : Oper} {K : AV -> Prop} (h : Y7o P o tm K) : ∃ val, K val /\ Does P o tm [] val [] [] := by
 obtain ⟨h1, h2⟩ := Ya h;rw [Bool.and_eq_true] at h1;obtain ⟨v, h3, h4⟩ := Ypo h2;refine ⟨.v v, Ykl.1 h3, Does.pure fun φ a ho w => ?_⟩;rw [execOp_congr (ρ' := rho tm) o (fun cs b e => by have := h1.2; rw [e] at this; simp [Ytm] at this) fun x hx => Yi5 ho h1.1 (fun x hx => by simpa using hx) x (by simpa using hx)];exact h4 w
end
end Go.Proofs.YtladoaeefkpdiaaGreatDoor
namespace Go.Proofs.YtladoaeefkpdiaaGreatDoor
open Go.RowKit
variable [InW]
attribute [local irreducible] Go.Oper.wp
section
variable {P : Program} {tm : List AV} {dst : Option Tmp} {type : TypeId} {pos : String} {after : Array Edge} {guard : Option (Nat × Bool)} {w : World}
theorem Ys2 {T : TypeId} {zs : Array Value} (h : Yis P T = some zs) : ∃ z, (zeroValue T).run P w = .ok z w /\ z.cells = zs := by
 unfold Yis at h;cases hi : P.info? T with
 | none => simp [hi] at h
 | some i =>
  simp only [hi, Option.bind_some, Option.map_eq_some_iff] at h;obtain ⟨z, hz, rfl⟩ := h;exact ⟨z, by simp [zeroValue, typeInfo, hi, hz], rfl⟩
theorem Ymt (fs : List Field) : ∀ (places : List (Nat × Nat)), fs.map (fun f => (P.info? f.type).map fun j => (f.offset, j.size)) = places.map some -> ((fs.mapM fun f => do pure (f.offset, <- sizeOf f.type) : Sem (List (Nat × Nat)))).run P w = .ok places w := by
 induction fs with
 | nil =>
  intro places h;cases places with
  | nil => rfl
  | cons _ _ => simp at h
 | cons f fs ih =>
  intro places h;cases places with
  | nil => simp at h
  | cons p ps =>
   simp only [List.map_cons, List.cons.injEq, Option.map_eq_some_iff] at h;obtain ⟨⟨j, hj, hp⟩, h2⟩ := h;have h3 : (sizeOf f.type).run P w = .ok j.size w := Ybc (by simp [Ycd, hj]) w;simp only [List.mapM_cons, Sem.run_bind, h3, Result.andThen_ok, Sem.run_pure, ih ps h2, hp]
theorem Yld {T : TypeId} {fs : Array Field} {places : List (Nat × Nat)} {zs cells : Array Value} {parts : Array (Nat × Value)} (hu : P.underlying T = some (.struct fs)) (hz : Yis P T = some zs) (hp : fs.toList.map (fun f => (P.info? f.type).map fun j => (f.offset, j.size)) = places.map some)
  (hf : Instr.fill (places[·]?) zs parts.toList = some cells) : (Instr.build T parts).run P w = .ok (.agg cells) w := by
 obtain ⟨z, h1, h2⟩ := Ys2 (w := w) hz;have h3 := Ymt (w := w) fs.toList places hp;have h4 : (fs.mapM fun f => do pure (f.offset, <- sizeOf f.type) : Sem (Array (Nat × Nat))).run P w = .ok places.toArray w := by
  rw [Array.mapM_eq_mapM_toList, map_eq_pure_bind, Sem.run_bind, h3];rfl
 have h5 : (fun i : Nat => places.toArray[i]?) = (fun i : Nat => places[i]?) := by funext i; simp
 simp only [Instr.build, Sem.run_bind, h1, run_underlying hu w, Result.andThen_ok, h4, h2, h5, hf, Sem.run_pure]
theorem Ymu {T e n sz : Nat} {zs cells : Array Value} {parts : Array (Nat × Value)} (hu : P.underlying T = some (.array n e)) (hz : Yis P T = some zs) (hs : Ycd P e sz)
  (hf : Instr.fill (fun i => some (i * sz, sz)) zs parts.toList = some cells) : (Instr.build T parts).run P w = .ok (.agg cells) w := by
 obtain ⟨z, h1, h2⟩ := Ys2 (w := w) hz;simp only [Instr.build, Sem.run_bind, h1, run_underlying hu w, Result.andThen_ok, Ybc hs, h2, hf, Sem.run_pure]
def lenB {α : Type} : List α -> Nat -> Bool
 | [], n => Nat.beq 0 n
 | _ :: xs, n => match n with | 0 => false | n + 1 => lenB xs n
theorem Y2 {α : Type} : ∀ {l : List α} {n : Nat}, lenB l n = true -> l.length = n
 | [], n, h => by simpa [eq_comm] using Ye.1 h
 | x :: xs, 0, h => by simp [lenB] at h
 | x :: xs, n + 1, h => by simp [Y2 (l := xs) h]
def Ywi (tm : List AV) (pl : Nat -> Option (Nat × Nat)) : List (Nat × Operand) -> List AV -> (List AV -> Prop) -> Prop
 | [], acc, K => K acc
 | p :: ps, acc, K => match pl p.1 with
  | none => Stuck 17
  | some q => evK tm p.2 fun v => Yjv v fun cs => Yc (lenB cs q.2) (Yos acc q.1 cs fun acc => Ywi tm pl ps acc K)
theorem Ykp {pl : Nat -> Option (Nat × Nat)} : ∀ {ps : List (Nat × Operand)} {acc : List AV} {K : List AV -> Prop}, Ywi tm pl ps acc K ->
  ∃ res, K res /\ ∀ (φ : Phi) (a : Act), (∀ p ∈ ps, ∀ v, At tm p.2 v -> v.rd = true -> a.eval p.2 = v.conc φ) -> Instr.fill pl (AV.concL φ acc).toArray (ps.map fun p => (p.1, a.eval p.2)) = some (AV.concL φ res).toArray
 | [], acc, K, h => ⟨acc, h, fun φ a _ => rfl⟩
 | p :: ps, acc, K, h => by
  unfold Ywi at h;cases hq : pl p.1 with
  | none => rw [hq] at h; exact h.elim
  | some q =>
   obtain ⟨off, n⟩ := q;rw [hq] at h;obtain ⟨v, hj, hv, h1⟩ := Yd h;obtain ⟨cs, h2, hc, _⟩ := Ydk h1;obtain ⟨hl, h3⟩ := Ya h2;obtain ⟨hk, h4⟩ := Yde h3;obtain ⟨res, h5, h6⟩ := Ykp h4;refine ⟨res, h5, fun φ a ho => ?_⟩;have hn := Y2 hl;dsimp only at hn hk h6;have e1 := ho p List.mem_cons_self v hv hj;have hsz : (a.eval p.2).cells.size = n := by rw [e1, hc φ]; simp [Yg, hn]
   have htl : (a.eval p.2).cells.toList = AV.concL φ cs := by rw [e1, hc φ]
   simp only [List.map_cons, Instr.fill, hq];rw [if_neg (by rw [hsz]; simp only [List.size_toArray, Yg]; simp; omega)];have e : (a.eval p.2).cells.zipIdx.foldl (fun cs x => cs.setIfInBounds (off + x.2) x.1) (AV.concL φ acc).toArray = (AV.concL φ (acc.take off ++ cs ++ acc.drop (off + cs.length))).toArray := by
    have := Yjn (a.eval p.2).cells.toList (AV.concL φ acc).toArray off 0;rw [Nat.add_zero] at this;rw [<- Array.foldl_toList, Array.toList_zipIdx, this];apply Array.ext';rw [Ycn _ _ _ (by rw [htl]; simp [Yg]; omega), htl, Yi2]
   rw [e];exact h6 φ a fun p hp => ho p (List.mem_cons_of_mem _ hp)
theorem Y4z {T : TypeId} {fs : Array Field} {places : List (Nat × Nat)} {zs res : List AV} {parts : List (Nat × Operand)} (hu : P.underlying T = some (.struct fs)) (hz : (mkTI P T).zero = some zs) (hp : fs.toList.map (fun f => (P.info? f.type).map fun j => (f.offset, j.size)) = places.map some)
  (hf : ∀ (φ : Phi) (a : Act), (∀ p ∈ parts, ∀ v, At tm p.2 v -> v.rd = true -> a.eval p.2 = v.conc φ) -> Instr.fill (places[·]?) (AV.concL φ zs).toArray (parts.map fun p => (p.1, a.eval p.2)) = some (AV.concL φ res).toArray) :
  Does P { dst, op := .build T parts.toArray, type, pos, after, guard } tm [] (.agg res) [] [] :=
 Does.pure fun φ a ho w => by
  have h1 := hf φ a fun p hp v hv hj => ho p.2 (by simp only [Op.operands, List.mem_toArray, List.mem_map]; exact ⟨p, by simpa using hp, rfl⟩) v hv hj;have h2 : (Instr.build T (parts.toArray.map fun p => (p.1, a.eval p.2))).run P w = .ok (.agg (AV.concL φ res).toArray) w := Yld hu (Yjc hz φ).1 hp (by simpa using h1);simp only [execOp, Sem.run_bind, Result.andThen_ok, Sem.run_pure, AV.conc, h2]
theorem Y40 {T n sz : Nat} {b : Bool} {zs res : List AV} {parts : List (Nat × Operand)} (ha : (mkTI P T).arr = some (n, sz, b)) (hz : (mkTI P T).zero = some zs)
  (hf : ∀ (φ : Phi) (a : Act), (∀ p ∈ parts, ∀ v, At tm p.2 v -> v.rd = true -> a.eval p.2 = v.conc φ) -> Instr.fill (fun i => some (i * sz, sz)) (AV.concL φ zs).toArray (parts.map fun p => (p.1, a.eval p.2)) = some (AV.concL φ res).toArray) :
  Does P { dst, op := .build T parts.toArray, type, pos, after, guard } tm [] (.agg res) [] [] :=
 Does.pure fun φ a ho w => by
  obtain ⟨e, hu, hs, _⟩ := Yfw ha;have h1 := hf φ a fun p hp v hv hj => ho p.2 (by simp only [Op.operands, List.mem_toArray, List.mem_map]; exact ⟨p, by simpa using hp, rfl⟩) v hv hj;have h2 : (Instr.build T (parts.toArray.map fun p => (p.1, a.eval p.2))).run P w = .ok (.agg (AV.concL φ res).toArray) w := Ymu hu (Yjc hz φ).1 hs (by simpa using h1);simp only [execOp, Sem.run_bind, Result.andThen_ok, Sem.run_pure, AV.conc, h2]
theorem Yxy {T n sz : Nat} {b : Bool} {x ix : Operand} {cs : List AV} {kd : IntKind} {i : Int} {val : AV} (ha : (mkTI P T).arr = some (n, sz, b)) (hx : At tm x (.agg cs)) (hi : At tm ix (.v (.int kd i))) (h0 : 0 <= i) (h1 : i < (n : Int))
  (hv : ∀ φ, (b = false /\ (AV.concL φ cs)[i.toNat * sz]? = some (val.conc φ)) \/ (b = true /\ val.conc φ = .agg ((AV.concL φ cs).toArray.extract (i.toNat * sz) (i.toNat * sz + sz)))) :
  Does P { dst, op := .index T x ix, type, pos, after, guard } tm [] val [] [] :=
 Does.pure fun φ a ho w => by
  obtain ⟨e, hu, hs, hb⟩ := Yfw ha;have e1 := ho x (by simp [Op.operands]) _ hx (by simp);have e2 := ho ix (by simp [Op.operands]) _ hi (by simp);simp only [AV.conc] at e1 e2;rcases hv φ with ⟨rfl, hv'⟩ | ⟨rfl, hv'⟩
  ·have h2 : (AV.concL φ cs).toArray[i.toNat * sz]? = some (val.conc φ) := by simpa using hv'
   simp only [execOp, Instr.index, e1, e2, asIntOf, Sem.run_bind, Sem.run_pure, Result.andThen_ok, run_underlying hu w, h0, h1, and_self, if_true, Ybc hs, part, Yc2 hb, Bool.false_eq_true, if_false, h2]
  ·simp only [execOp, Instr.index, e1, e2, asIntOf, Sem.run_bind, Sem.run_pure, Result.andThen_ok, run_underlying hu w, h0, h1, and_self, if_true, Ybc hs, part, Yc2 hb, hv', if_true]
end
end Go.Proofs.YtladoaeefkpdiaaGreatDoor
namespace Go.Proofs.YtladoaeefkpdiaaGreatDoor
open Go.RowKit
variable [InW]
attribute [local irreducible] Go.Oper.wp
inductive AX where
 | norm
 | exit (i : Nat)
 | ret
 | pan (v : AV)
def AX.is (φ : Phi) : AX -> Exit -> Prop
 | .norm, e => e = .normal
 | .exit i, e => e = .exit i
 | .ret, e => e = .ret
 | .pan v, e => e = .panic [{ v := v.conc φ, recovered := false }]
abbrev KX := AX -> List AV -> Heap -> Prop
def Yg1 : Code -> Nat
 | .region id _ _ => id + 1
 | .seq a b => match Yg1 a with | 0 => Yg1 b | n + 1 => n + 1
 | .cond _ a b => match Yg1 a with | 0 => Yg1 b | n + 1 => n + 1
 | .block _ a => Yg1 a
 | .loop a => Yg1 a
 | .scope a => Yg1 a
 | _ => 0
abbrev KE := AV -> Heap -> Heap -> Heap -> Prop
structure Cx where
 P : Program
 tt : Tr TI
 sy : Bool
 callH : FuncId -> List AV -> Heap -> Nat -> KE -> KE -> Prop
 symH : Oper -> List AV -> Heap -> KE -> Prop
 roundH : LI -> Nat -> List AV -> Heap -> Nat -> KE -> Prop := fun _ _ _ _ _ _ => False
 fn : FuncId := 0
 loopsOf : FuncId -> Nat -> Option (List AV -> Heap -> KX -> Prop) := fun _ _ => none
def Ybu (c : Cx) (o : Oper) (tm : List AV) (hp : Heap) (k : KE) : Prop := match c.sy with | true => c.symH o tm hp k | false => Y7o c.P o tm fun v => k v [] [] []
def fN (sy : Bool) (n : Nat) (K : Nat -> Prop) : Prop := match sy with | true => K n | false => Y3 n K
theorem Yhb {sy : Bool} {n : Nat} {K : Nat -> Prop} : fN sy n K ↔ K n := by cases sy <;> first | exact Iff.rfl | exact Yk
def Yrl (tt : Tr TI) (T : TypeId) (cs : List AV) (k : Nat) (K : AV -> Prop) : Prop :=
 tiK tt T fun ti => match ti.agg with
  | some false => getK cs k K
  | some true => (match ti.size with | some n => Ykq cs k fun r => Yiu r n fun vs => K (.agg vs) | none => Stuck 18)
  | none => Stuck 19
def Y1o (tt : Tr TI) (T : TypeId) (it : It) (k : Nat) (K : AV -> Prop) : Prop :=
 match it with
 | .blk _ cs => Yrl tt T cs k K
 | .row _ _ _ cs => Yrl tt T cs k K
 | _ => Stuck 20
def Yz6 (tt : Tr TI) (T : TypeId) (it : It) (k : Nat) (vs : List AV) (K : It -> Prop) : Prop :=
 tiK tt T fun ti => match ti.size with
  | none => Stuck 21
  | some n => Yc (lenB vs n && Yfb vs && Nat.ble 1 n) (match it with
   | .blk T' cs => Yos cs k vs fun cs => K (.blk T' cs)
   | .row T' sz m cs => Yos cs k vs fun cs => K (.row T' sz m cs)
   | _ => Stuck 22)
def Yxa (tm : List AV) (sz : Nat) : Nat -> List (Nat × Operand) -> (List AV -> Prop) -> Prop
 | _, [], K => K []
 | k, p :: ps, K => Yc (Nat.beq p.1 k) (evK tm p.2 fun v => Yjv v fun cs => Yc (lenB cs sz) (Yxa tm sz (k + 1) ps fun ds => appK cs ds K))
theorem Ym4 {tm : List AV} {sz : Nat} : ∀ {ps : List (Nat × Operand)} {k : Nat} {K : List AV -> Prop}, Yxa tm sz k ps K -> ∃ vs cs, Parts tm sz k ps vs cs /\ K cs
 | [], k, K, h => ⟨[], [], .nil, h⟩
 | (i, x) :: ps, k, K, h => by
  obtain ⟨h1, h2⟩ := Ya h;obtain ⟨v, hj, hx, h3⟩ := Yd h2;obtain ⟨cs, h4, hc, hh⟩ := Ydk h3;obtain ⟨h5, h6⟩ := Ya h4;obtain ⟨vs, ds, h7, h8⟩ := Ym4 h6;have e : i = k := Ye.1 h1;subst e;exact ⟨v :: vs, cs ++ ds, .cons hx hj hc (Y2 h5) hh h7, Yct.1 h8⟩
def repK (zs : List AV) : Nat -> (List AV -> Prop) -> Prop
 | 0, K => K []
 | n + 1, K => repK zs n fun r => appK zs r K
theorem Yq9 {zs : List AV} : ∀ {n : Nat} {K : List AV -> Prop}, repK zs n K ↔ K ((List.replicate n zs).flatten)
 | 0, K => Iff.rfl
 | n + 1, K => by simp only [repK, Yq9 (n := n), Yct, List.replicate_succ, List.flatten_cons]
theorem Yxh {α : Type} [Inhabited α] (zs : List α) : ∀ n : Nat, (List.range (n * zs.length)).map (fun i => zs.toArray[i % zs.length]!) = (List.replicate n zs).flatten
 | 0 => by simp
 | n + 1 => by
  rw [List.replicate_succ', List.flatten_append, <- Yxh zs n, Nat.succ_mul, List.range_add, List.map_append]
  congr 1
  simp only [List.flatten_cons, List.flatten_nil, List.append_nil, List.map_map];apply List.ext_getElem
  ·simp
  ·intro i h1 h2;simp only [List.length_map, List.length_range] at h1;simp [Nat.add_mod, Nat.mod_eq_of_lt h1];rw [List.getElem?_eq_getElem h1];rfl
def Yx6 (sy : Bool) (j : Int) (n off sz : Nat) (K : Nat -> Prop) : Prop := Yc (decide (0 <= j) && decide (j < (n : Int))) (fN sy (off + j.toNat * sz) K)
theorem Yhg {sy : Bool} {j : Int} {n off sz : Nat} {K : Nat -> Prop} (h : Yx6 sy j n off sz K) : 0 <= j /\ j < (n : Int) /\ K (off + j.toNat * sz) := by
 obtain ⟨h1, h2⟩ := Ya h;simp only [Bool.and_eq_true, decide_eq_true_eq] at h1;exact ⟨h1.1, h1.2, Yhb.1 h2⟩
def Ykf : It -> Bool
 | .row _ _ n _ => Nat.ble 1 n
 | .rowV _ _ n _ => Nat.ble 1 n
 | _ => false
theorem Ybj {it : It} (h : Ykf it = true) (φ : Phi) (id : Nat) (w0 : World) (M : List Nat) (R : RL) (w : World) (hS : St w0 M (it.conc φ id :: R) w) : (φ id).nil = false := by
 cases it <;> simp only [Ykf, Nat.ble_eq, Bool.false_eq_true] at h
 ·exact Ydd h hS
 ·exact Yvr h hS
def Yy2 (it : It) (off m sz : Nat) (K : List AV -> Prop) : Prop :=
 match it with
 | .row _ _ n cs => Yc (Nat.ble 1 n) (Ykq cs off fun r => Yiu r (m * sz) K)
 | _ => Stuck 23
def Y07 : AV -> Bool
 | .v (.slice _ n _) => Nat.beq n 0
 | .sl _ _ _ n => Nat.beq n 0
 | .emp _ => true
 | _ => false
def lendB (zs : List AV) (n : Nat) : Bool := false
def Ypb : List AV -> List AV -> Bool
 | [], [] => true
 | x :: xs, y :: ys => (match x, y with | .v (.int k n), .v (.int k' n') => decide (k = k') && decide (n = n') && Ypb xs ys | _, _ => false)
 | _, _ => false
theorem Ymr : ∀ {xs ys : List AV}, Ypb xs ys = true -> xs = ys
 | [], [], _ => rfl
 | [], _ :: _, h => by simp [Ypb] at h
 | _ :: _, [], h => by simp [Ypb] at h
 | x :: xs, y :: ys, h => by
  simp only [Ypb] at h
  split at h
  ·simp only [Bool.and_eq_true, decide_eq_true_eq] at h;rw [h.1.1, h.1.2, Ymr h.2]
  ·cases h
def Yxo (c : Cx) (hp : Heap) (id : Nat) (it : It) (off n sz : Nat) (j : Int) (k : KE) : Prop :=
 match it with
 | .bkv T' sz' n' cs jj => Yu hp jj fun it2 => (match it2 with
  | .row T2 sz2 n2 cs2 => Yc (Nat.beq T2 T' && Nat.beq sz2 sz' && Nat.ble 1 n' && lenB cs (n' * sz') && !(Nat.beq id jj)) (Yiu cs2 (n' * sz') fun pre => Yc (Ypb pre cs) (Yx6 c.sy j n off sz fun a => k (.ptr id a) [(id, .bkv T' sz' n' cs jj), (jj, .row T2 sz2 n2 cs2)] [(id, .row T' sz' n' cs), (jj, .dead)] []))
  | _ => Stuck 395)
 | it => Yc (Ykf it) (Yx6 c.sy j n off sz fun a => k (.ptr id a) [(id, it)] [] [])
def Ywu (c : Cx) (T : TypeId) (id : Nat) (s x : AV) (hp : Heap) (k : KE) : Prop :=
 tiK c.tt T fun ti => match ti.slice with
  | none => Stuck 24
  | some q => match q with
   | (e, sz, by_, zs) => Yc (lenB zs sz && Nat.ble 1 sz) (match Y07 x with
    | true => (match s with
     | .v (.slice A n c) => Yc (Nat.ble n c) (k (.v (.slice A n c)) [] [] [])
     | .sl i off lo n => Yu hp i fun it => (match it with
      | .row e' sz' n' cs => Yc (Nat.ble (lo + n) n') (k (.sl i off lo n) [(i, .row e' sz' n' cs)] [] [])
      | _ => Stuck 25)
     | _ => Stuck 26)
    | false => (match s, x with
     | .v (.slice none 0 0), .sl j off2 lo2 m => Yu hp j fun it2 => Yc (Nat.ble (m * by_) 140737488355328 && Nat.ble m 4611686018427387904)
       (Yy2 it2 off2 m sz fun news => Yc (Yfb news && lenB news (m * sz)) (k (.sl id 0 0 m) [(j, it2)] [] [(id, .row e sz m news)]))
     | .sl i off lo n, .sl j off2 lo2 m => Yu hp i fun it => Yu hp j fun it2 => (match it with
      | .row e' sz' n' cs => Yc (Nat.beq e' e && Nat.beq sz' sz && Nat.beq n' n && Nat.beq off 0 && Nat.beq lo 0 && !(Nat.beq i j) && Nat.ble ((n + m) * by_) 140737488355328 && Nat.ble (n + m) 4611686018427387904)
        (Yy2 it2 off2 m sz fun news => Yc (Yfb news && lenB news (m * sz)) (appK cs news fun cs' => (match lendB zs n with | true => fN c.sy (n + m) fun nm => k (.sl id 0 0 nm) [(i, .row e' sz' n' cs), (j, it2)] [(i, .bkv e sz n cs id)] [(id, .row e sz nm cs')] | false => fN c.sy (n + m) fun nm => k (.sl id 0 0 nm) [(i, .row e' sz' n' cs), (j, it2)] [(i, .dead)] [(id, .row e sz nm cs')])))
      | _ => Stuck 25)
     | _, _ => Stuck 26))
def Y23 (tm : List AV) (x : Option Operand) (dflt : Nat) (K : Nat -> Prop) : Prop :=
 match x with
 | none => K dflt
 | some x => evK tm x fun v => match v with | .v (.int _ (.ofNat n)) => K n | _ => Stuck 57
def Y0a (c : Cx) (T : TypeId) (id' : Nat) (tm : List AV) (i off lo n : Nat) (lop hip mxp : Option Operand) (hp : Heap) (k : KE) : Prop :=
 Yu hp i fun it => match it with
  | .row e' sz' N cs => tiK c.tt T fun ti => (match ti.slice with
   | none => Stuck 58
   | some (e, sz, by_, zs) => (match mxp with
    | none => Y23 tm lop 0 fun l => Y23 tm hip n fun h => Yc (Nat.ble h n && Nat.ble l h && Nat.ble (lo + n) N) (match l with
     | 0 => k (.sl i off lo h) [(i, .row e' sz' N cs)] [] []
     | l + 1 => (match Nat.beq (l + 1) h with
      | true => k (.emp id') [(i, .row e' sz' N cs)] [] [(id', .dead)]
      | false => fN c.sy (off + (l + 1) * sz) fun a => fN c.sy (lo + (l + 1)) fun b => fN c.sy (h - (l + 1)) fun d => k (.sl i a b d) [(i, .row e' sz' N cs)] [] []))
    | some m => Stuck 59))
  | _ => Stuck 61
def vcOp (c : Cx) (o : Oper) (tm : List AV) (hp : Heap) (k kp : KE) : Prop :=
 match o.op with
 | .move x => evK tm x fun v => k v [] [] []
 | .assign x => evK tm x fun v => k v [] [] []
 | .pick b x y => evK tm b fun b => (match b with
  | .v (.bool b) => vcIf b (evK tm x fun v => k v [] [] []) (evK tm y fun v => k v [] [] [])
  | _ => Stuck 27)
 | .alloc T => tiK c.tt T fun ti => (match ti.zero with
  | some zs => k (.ptr (3 * o.dst.getD 0) 0) [] [] [(3 * o.dst.getD 0, .blk T zs)]
  | none => Stuck 28)
 | .box T x => evK tm x fun v => Yjv v fun cs => k (.ptr (3 * o.dst.getD 0) 0) [] [] [(3 * o.dst.getD 0, .blk T cs)]
 | .load T x => evK tm x fun p => (match p with
  | .ptr i j => Yu hp i fun it => Y1o c.tt T it j fun v => k v [(i, it)] [] []
  | _ => Ybu c o tm hp k)
 | .store T x y => evK tm x fun p => evK tm y fun v => (match p with
  | .ptr i j => Yu hp i fun it => Yjv v fun vs => Yz6 c.tt T it j vs fun it' => k (.v undef) [(i, it)] [(i, it')] []
  | _ => Stuck 29)
 | .nilCheck x => evK tm x fun p => (match p with
  | .ptr i j => k (.ptr i j) [] [] []
  | _ => Ybu c o tm hp k)
 | .fieldAddr T x i => evK tm x fun p => (match p with
  | .ptr id j => tiK c.tt T fun ti => getK ti.fields i fun f => (match f with
   | some (off, n + 1) => fN false (j + off) fun j => k (.ptr id j) [] [] []
   | _ => Stuck 30)
  | _ => Ybu c o tm hp k)
 | .indexAddr T x ix => evK tm x fun s => evK tm ix fun j => (match s, j with
  | .sl id off lo n, .v (.int kd j) => Yu hp id fun it => tiK c.tt T fun ti => (match ti.slice with
   | some (e, sz, by_, zs) => Yxo c hp id it off n sz j k
   | none => Stuck 31)
  | _, _ => Ybu c o tm hp k)
 | .index T x ix => evK tm x fun s => evK tm ix fun j => (match s, j with
  | .agg cs, .v (.int kd j) => tiK c.tt T fun ti => (match ti.arr with
   | some (n, sz, b) => Yx6 c.sy j n 0 sz fun a => (match b with
    | false => getK cs a fun v => k v [] [] []
    | true => Ykq cs a fun r => Yiu r sz fun vs => k (.agg vs) [] [] [])
   | none => Stuck 32)
  | _, _ => Ybu c o tm hp k)
 | .extract t i => evK tm t fun v => (match v with
  | .tup cs => getK cs i fun v => k v [] [] []
  | _ => Ybu c o tm hp k)
 | .build T ps => tiK c.tt T fun ti => (match ti.zero with
  | none => Stuck 33
  | some zs => (match ti.arr with
   | some (n, sz, b) => Ywi tm (fun i => some (i * sz, sz)) ps.toList zs fun res => k (.agg res) [] [] []
   | none => (match ti.fields with
    | [] => Ybu c o tm hp k
    | f :: fs => placesK (f :: fs) fun pl => Ywi tm (nthP pl) ps.toList zs fun res => k (.agg res) [] [] [])))
 | .buildSlice T len ps => tiK c.tt T fun ti => (match ti.slice with
  | none => Stuck 34
  | some (e, sz, by_, zs) => Yc (Nat.ble (len * sz) 16777216 && Nat.ble len 16777216 && lenB ps.toList len) (Yxa tm sz 0 ps.toList fun cs => k (.sl (3 * o.dst.getD 0) 0 0 len) [] [] [(3 * o.dst.getD 0, .row e sz len cs)]))
 | .makeFunc fn first caught => evsK tm first.toList fun fs => evsK tm caught.toList fun cs => k (.fn fn fs cs) [] [] []
 | .makeSlice T x y => evK tm x fun x => evK tm y fun y => (match x, y with
  | .v (.int kl (.ofNat n)), .v (.int kc (.ofNat m)) => tiK c.tt T fun ti => (match ti.slice with
   | none => Stuck 35
   | some (e, sz, by_, zs) => Yc (Nat.beq n m && Nat.ble (by_ * n) 281474976710656 && Nat.ble n 16777216 && lenB zs sz) (repK zs n fun cs => k (.sl (3 * o.dst.getD 0) 0 0 n) [] [] [(3 * o.dst.getD 0, .row e sz n cs)]))
  | _, _ => Ybu c o tm hp k)
 | .range T x => evK tm x fun s => (match s, c.P.underlying T with
  | .v (.string s), some .string => k (.ptr (3 * o.dst.getD 0) 0) [] [] [(3 * o.dst.getD 0, .obj (.sit s 0))]
  | _, _ => Stuck 65)
 | .next x b => evK tm x fun p => (match p, b with
  | .ptr i 0, true => Yu hp i fun it => (match it with
   | .obj (.sit s p) => (match Nat.blt p s.size with
    | true => Yqa (Utf8.decode s p).1 fun ch => Y3 (p + (Utf8.decode s p).2) fun q => k (.tup [.v (.bool true), .v (.int .i64 (p : Int)), .v (.int .i32 ch)]) [(i, .obj (.sit s p))] [(i, .obj (.sit s q))] []
    | false => k (.tup [.v (.bool false)]) [(i, .obj (.sit s p))] [(i, .obj (.sit s p))] [])
   | _ => Stuck 66)
  | _, _ => Stuck 67)
 | .makeMap T r => (match r with | none => k (.mp (3 * o.dst.getD 0)) [] [] [(3 * o.dst.getD 0, .obj (.mpV [] 0))] | some _ => Stuck 68)
 | .lookup T x ix ok => evK tm x fun m => evK tm ix fun i => (match m with
  | .mp j => Yu hp j fun it => (match it with
   | .obj (.mpV es clock) => (match c.P.underlying T with
    | some (.map key elem) => Ygq i fun i => Yrb c.P (Yfz T es.toArray i ok) fun v => Yt9 v fun v => k (.v v) [(j, .obj (.mpV es clock))] [] []
    | _ => Stuck 69)
   | _ => Stuck 70)
  | _ => Ybu c o tm hp k)
 | .mapUpdate T x ix y => evK tm x fun m => evK tm ix fun i => evK tm y fun y => (match m with
  | .mp j => Yu hp j fun it => (match it with
   | .obj (.mpV es clock) => (match c.P.underlying T with
    | some (.map key elem) => Ygq i fun i => Ygq y fun y => Yrb c.P (Yfr T es.toArray clock i y) fun r => k (.v undef) [(j, .obj (.mpV es clock))] [(j, .obj (.mpV r.1.toList r.2))] []
    | _ => Stuck 71)
   | _ => Stuck 72)
  | _ => Stuck 73)
 | .slice T x lo hi mx => evK tm x fun s => (match s with
  | .sl i off lo' n => Y0a c T (3 * o.dst.getD 0) tm i off lo' n lo hi mx hp k
  | _ => Ybu c o tm hp k)
 | .call cl => (match cl.callee with
  | .value f => evK tm f fun fv => funK fv fun g fs cs => evsK tm cl.args.toList fun vs => Yc (Yf8 c.P g) (appK vs cs fun r => appK fs r fun all => c.callH g all hp (o.dst.getD 0) k kp)
  | .builtin b => (match b, cl.args.toList with
   | .len, [x] => evK tm x fun v => (match v with
    | .sl _ _ _ n => (match cl.argTypes.toList with
     | [T] => tiK c.tt T fun ti => (match ti.slice with
      | some (e, sz, by_, zs) => k (.v (.int .i64 (n : Int))) [] [] []
      | none => Stuck 36)
     | _ => Stuck 37)
    | _ => Ybu c o tm hp k)
   | .append, [s, x] => (match cl.argTypes.toList with
    | [T, T'] => Yc (Nat.beq T T') (evK tm s fun s => evK tm x fun x => Ywu c T (3 * o.dst.getD 0) s x hp k)
    | _ => Stuck 38)
   | _, _ => Ybu c o tm hp k)
  | _ => Stuck 39)
 | .panic x => evK tm x fun v => (match v with
  | .v (.iface t y) => kp (.v (.iface t y)) [] [] []
  | .ifc t y => kp (.ifc t y) [] [] []
  | _ => Stuck 40)
 | _ => Ybu c o tm hp k
where
 placesK : List (Option (Nat × Nat)) -> (List (Nat × Nat) -> Prop) -> Prop
 | [], K => K []
 | x :: xs, K => match x with | none => Stuck 41 | some p => placesK xs fun r => K (p :: r)
 nthP : List (Nat × Nat) -> Nat -> Option (Nat × Nat)
 | [], _ => none
 | x :: _, 0 => some x
 | _ :: xs, n + 1 => nthP xs n
end Go.Proofs.YtladoaeefkpdiaaGreatDoor
namespace Go.Proofs.YtladoaeefkpdiaaGreatDoor
open Go.RowKit
variable [InW]
attribute [local irreducible] Go.Oper.wp
structure HandOk (c : Cx) : Prop where
 tab : TabOk c.P c.tt
 call : ∀ g args hp d k kp, c.callH g args hp d k kp -> (∃ val hs us nw, k val hs us nw /\ PartOf hs hp /\ (∀ i ∈ keys us, i ∈ keys hs) /\ ACall c.P g args hs false val us nw) \/
  (∃ val hs us nw, kp val hs us nw /\ PartOf hs hp /\ (∀ i ∈ keys us, i ∈ keys hs) /\ ACall c.P g args hs true val us nw)
 sym : ∀ o tm hp k, c.symH o tm hp k -> ∃ val hs us nw, k val hs us nw /\ PartOf hs hp /\ (∀ i ∈ keys us, i ∈ keys hs) /\ Does c.P o tm hs val us nw
def OpRes (c : Cx) (o : Oper) (tm : List AV) (hp : Heap) (k kp : KE) : Prop :=
 (∃ val hs us nw, k val hs us nw /\ PartOf hs hp /\ (∀ i ∈ keys us, i ∈ keys hs) /\ Does c.P o tm hs val us nw) \/
 (∃ val hs us nw, kp val hs us nw /\ PartOf hs hp /\ (∀ i ∈ keys us, i ∈ keys hs) /\ DoesP c.P o tm hs val us nw)
section
variable {c : Cx} {o : Oper} {tm : List AV} {hp : Heap} {k kp : KE}
theorem OpRes.of {val : AV} {hs us nw : Heap} (h : k val hs us nw) (hpart : PartOf hs hp) (hu : ∀ i ∈ keys us, i ∈ keys hs) (hd : Does c.P o tm hs val us nw) : OpRes c o tm hp k kp := .inl ⟨val, hs, us, nw, h, hpart, hu, hd⟩
theorem Yfv {hs : Heap} : ∀ i ∈ keys ([] : Heap), i ∈ keys hs := by intro i hi; simp [keys] at hi
theorem OpRes.pure {val : AV} (h : k val [] [] []) (hd : Does c.P o tm [] val [] []) : OpRes c o tm hp k kp := .of h (.nil _) Yfv hd
theorem Ybd (hc : HandOk c) (h : Ybu c o tm hp k) : OpRes c o tm hp k kp := by
 unfold Ybu at h
 split at h
 ·exact .inl (hc.sym _ _ _ _ h)
 ·obtain ⟨v, h1, h2⟩ := Yyv h;exact .pure h1 h2
theorem Yje {it : It} {cs : List AV} (hcs : ∀ φ, it.vals φ = AV.concL φ cs) {j : Nat} {v : AV} (hv : cs[j]? = some v) (φ : Phi) : (it.vals φ)[j]? = some (v.conc φ) := by rw [hcs, Yck, hv]; rfl
theorem Yy7 {tt : Tr TI} {P : Program} (ht : TabOk P tt) {T : TypeId} {it : It} {i j : Nat} {K : AV -> Prop} (h : Y1o tt T it j K) {x : Operand} (hx : At tm x (.ptr i j)) {dst : Option Tmp} {type : TypeId} {pos : String} {after : Array Edge} {guard : Option (Nat × Bool)} :
  ∃ v, K v /\ Does P { dst, op := .load T x, type, pos, after, guard } tm [(i, it)] v [] [] := by
 have key : ∀ cs, (∀ φ, it.vals φ = AV.concL φ cs) -> Yrl tt T cs j K -> ∃ v, K v /\ Does P { dst, op := .load T x, type, pos, after, guard } tm [(i, it)] v [] [] := by
  intro cs hcs h;have h1 := Yj ht h
  try dsimp only at h1
  split at h1
  ·rename_i ha;obtain ⟨v, h2, h3⟩ := Ybh h1;exact ⟨v, h3, Y61 (Ycr ha) hx (Yje hcs h2)⟩
  ·rename_i ha
   split at h1
   ·rename_i n hn;obtain ⟨h2, h3⟩ := Yb8 h1;obtain ⟨h4, h5⟩ := Ybw h3;refine ⟨_, h5, Y6z (Ycr ha) (Ycq hn) hx (vs := fun φ => AV.concL φ ((cs.drop j).take n)) (fun φ => rfl) (fun φ => ?_) (fun φ => ?_)⟩
    ·rw [hcs, Yea, Yfm]
    ·rw [Yg, List.length_take]; omega
   ·exact h1.elim
  ·exact h1.elim
 cases it with
 | blk T' cs => exact key cs (fun φ => rfl) h
 | row T' sz n cs => exact key cs (fun φ => rfl) h
 | rowV _ _ _ _ => exact h.elim
 | obj _ => exact h.elim
 | lp _ _ => exact h.elim
 | dead => exact h.elim
 | arr _ _ _ => exact h.elim
 | bk _ _ _ _ => exact h.elim
 | bkv _ _ _ _ _ => exact h.elim
 | nst _ _ _ => exact h.elim
 | fro _ _ => exact h.elim
theorem Yvj {tt : Tr TI} {P : Program} (ht : TabOk P tt) {T : TypeId} {it : It} {i j : Nat} {v : AV} {vs : List AV} {K : It -> Prop} (h : Yz6 tt T it j vs K) {x y : Operand} (hx : At tm x (.ptr i j)) (hy : At tm y v) (hj : v.rd = true) (hc : ∀ φ, (v.conc φ).cells = (AV.concL φ vs).toArray) {dst : Option Tmp} {type : TypeId} {pos : String} {after : Array Edge} {guard : Option (Nat × Bool)} :
  ∃ it', K it' /\ Does P { dst, op := .store T x y, type, pos, after, guard } tm [(i, it)] (.v undef) [(i, it')] [] := by
 have h1 := Yj ht h
 try dsimp only at h1
 split at h1
 ·exact h1.elim
 ·rename_i n hn;obtain ⟨h2, h3⟩ := Ya h1;simp only [Bool.and_eq_true, Nat.ble_eq] at h2;have hl := Y2 h2.1.1
  split at h3
  ·obtain ⟨h4, h5⟩ := Yde h3;exact ⟨_, h5, Y4r (Ycq hn) hx hy hj hc hl h2.1.2 (by omega)⟩
  ·obtain ⟨h4, h5⟩ := Yde h3;exact ⟨_, h5, Y4q (Ycq hn) hx hy hj hc hl (by omega) h2.1.2 (by omega)⟩
  ·exact h3.elim
theorem Yk0 {P : Program} : ∀ {fs : List (Option (Nat × Nat))} {K : List (Nat × Nat) -> Prop}, vcOp.placesK fs K -> ∃ pl, K pl /\ fs = pl.map some
 | [], K, h => ⟨[], h, rfl⟩
 | x :: xs, K, h => by
  cases x with
  | none => exact h.elim
  | some p =>
   obtain ⟨pl, h1, h2⟩ := Yk0 (P := P) (fs := xs) h;exact ⟨p :: pl, h1, by rw [h2]; rfl⟩
theorem Y04 : ∀ (pl : List (Nat × Nat)), vcOp.nthP pl = fun i => pl[i]?
 | [] => rfl
 | x :: xs => by
  funext i
  cases i with
  | zero => rfl
  | succ i => simp [vcOp.nthP, Y04 xs]
theorem Yd2 (φ : Phi) {zs : List AV} {sz n : Nat} (hz : zs.length = sz) : (madeCells (AV.concL φ zs).toArray (n * sz)).toList = AV.concL φ ((List.replicate n zs).flatten) := by
 subst hz;have := Yxh (AV.concL φ zs) n;rw [Yg] at this;unfold madeCells;simp only [Array.toList_map, Array.toList_range, List.size_toArray, Yg];rw [this];simp only [Yw, List.map_flatten, List.map_replicate]
theorem Y4i {i : Nat} {zs : List AV} (h : AV.hasL i zs = false) (n : Nat) : AV.hasL i ((List.replicate n zs).flatten) = false := by
 induction n with
 | zero => rfl
 | succ n ih => rw [List.replicate_succ, List.flatten_cons, Yo, List.any_append, <- Yo, <- Yo, h, ih]; rfl
theorem Yfd {it : It} {off m sz : Nat} {K : List AV -> Prop} (h : Yy2 it off m sz K) : ∃ news, K news /\ Ykf it = true /\ (∀ (φ : Phi) (j : Nat) (u : Value), (AV.concL φ news)[j]? = some u -> (it.vals φ)[off + j]? = some u) /\ ∀ i, it.has i = false -> AV.hasL i news = false := by
 cases it with
 | row T s n cs =>
  obtain ⟨h1, h2⟩ := Ya h;obtain ⟨h3, h4⟩ := Yb8 h2;obtain ⟨h5, h6⟩ := Ybw h4;refine ⟨_, h6, h1, fun φ j u hu => ?_, fun i hi => ?_⟩
  ·rw [Yea, Yfm, List.getElem?_take] at hu
   split at hu
   ·rw [List.getElem?_drop] at hu; exact hu
   ·cases hu
  ·have hi' : AV.hasL i cs = false := hi;rw [Yo, List.any_eq_false] at hi' ⊢;intro x hx;exact hi' x (List.mem_of_mem_drop (List.mem_of_mem_take hx))
 | blk _ _ => exact h.elim
 | rowV _ _ _ _ => exact h.elim
 | obj _ => exact h.elim
 | lp _ _ => exact h.elim
 | dead => exact h.elim
 | arr _ _ _ => exact h.elim
 | bk _ _ _ _ => exact h.elim
 | bkv _ _ _ _ _ => exact h.elim
 | nst _ _ _ => exact h.elim
 | fro _ _ => exact h.elim
theorem Ypt {x : AV} (h : Y07 x = true) (φ : Phi) : ∃ A c, x.conc φ = .slice A 0 c := by
 cases x with
 | v y =>
  cases y <;> simp only [Y07, Ye, Bool.false_eq_true] at h;subst h;exact ⟨_, _, rfl⟩
 | sl a b d n => simp only [Y07, Ye] at h; subst h; exact ⟨_, _, rfl⟩
 | emp i => exact ⟨_, _, rfl⟩
 | _ => simp [Y07] at h
theorem Yux {T : TypeId} {s x : Operand} {sv xv : AV} {d : Nat} (hc : HandOk c) (hs : At tm s sv) (hx : At tm x xv) (hsj : sv.rd = true) (hxj : xv.rd = true) {dst : Option Tmp} {type : TypeId} {pos : String} {after : Array Edge} {guard : Option (Nat × Bool)} (h : Ywu c T d sv xv hp k) :
  OpRes c { dst, op := .call { callee := .builtin .append, args := #[s, x], argTypes := #[T, T] }, type, pos, after, guard } tm hp k kp := by
 have h1 := Yj hc.tab h
 try dsimp only at h1
 split at h1
 ·exact h1.elim
 ·rename_i q hq;obtain ⟨e, sz, by_, zs⟩ := q;obtain ⟨h2, h3⟩ := Ya h1;simp only [Bool.and_eq_true, Nat.ble_eq] at h2;have hz := Y2 h2.1
  try dsimp only at h3
  split at h3
  ·rename_i hnone
   split at h3
   ·rename_i A n cp;obtain ⟨h4, h5⟩ := Ya h3;rw [Nat.ble_eq] at h4;exact .pure h5 (Yjs hq hs hsj hx hxj (Ypt hnone) fun φ w0 M R w _ => ⟨A, n, cp, rfl, h4⟩)
   ·rename_i i off lo n;obtain ⟨it, h4, h5⟩ := Yf h3
    split at h5
    ·rename_i e' sz' n' cs;obtain ⟨h6, h7⟩ := Ya h5;rw [Nat.ble_eq] at h6;refine .of h7 (.one h4) Yfv (Yjs hq hs hsj hx hxj (Ypt hnone) fun φ w0 M R w hS => ⟨_, n, (φ i).c - lo, rfl, ?_⟩);have : n' <= (φ i).c := Yj9 hS;omega
    ·exact h5.elim
   ·exact h3.elim
  ·split at h3
   ·rename_i j off2 lo2 m;obtain ⟨it2, h6, h7⟩ := Yf h3;obtain ⟨h8, h9⟩ := Ya h7;simp only [Bool.and_eq_true, Nat.ble_eq] at h8;obtain ⟨news, h10, h11, h12, h13⟩ := Yfd h9;obtain ⟨h14, h15⟩ := Ya h10;rw [Bool.and_eq_true] at h14;exact .of h15 (.one h6) Yfv (Yuq hq hz h2.2 hs hx (fun φ w0 M R w hS => Ybj h11 φ _ w0 M R w hS) (Y2 h14.2) h12 h14.1 h13 (by simp only [maxLen]; omega) h8.1)
   ·rename_i i off lo n j off2 lo2 m;obtain ⟨it, h4, h5⟩ := Yf h3;obtain ⟨it2, h6, h7⟩ := Yf h5
    split at h7
    ·rename_i e' sz' n' cs;obtain ⟨h8, h9⟩ := Ya h7;simp only [Bool.and_eq_true, Bool.not_eq_true', Nat.ble_eq, Ye, Y4] at h8;obtain ⟨⟨⟨⟨⟨⟨⟨rfl, rfl⟩, rfl⟩, rfl⟩, rfl⟩, hne⟩, hb⟩, hm⟩ := h8;obtain ⟨news, h10, h11, h12, h13⟩ := Yfd h9;obtain ⟨h14, h15⟩ := Ya h10;rw [Bool.and_eq_true] at h14;have h16 := Yct.1 h15
     split at h16
     ·have h16 := Yhb.1 h16;exact .of h16 (.two h4 h6 hne) (by intro i hi; simp [keys] at hi ⊢; exact .inl hi)
       (Yr2 hq hz h2.2 hs hx hne (fun φ w0 M R w hS => Ybj h11 φ _ w0 M R w hS) (Y2 h14.2) h12 h14.1 h13 (by simp only [maxLen]; omega) hb)
     ·have h16 := Yhb.1 h16;exact .of h16 (.two h4 h6 hne) (by intro i hi; simp [keys] at hi ⊢; exact .inl hi)
       (Yup hq hz h2.2 hs hx hne (fun φ w0 M R w hS => Ybj h11 φ _ w0 M R w hS) (Y2 h14.2) h12 h14.1 h13 (by simp only [maxLen]; omega) hb)
    ·exact h7.elim
   ·exact h3.elim
theorem Ywd {T e : TypeId} {sz by_ : Nat} {zs : List AV} {x ix : Operand} {id off lo n : Nat} {kd : IntKind} {j : Int} {it : It} (hq : (mkTI c.P T).slice = some (e, sz, by_, zs)) (hx : At tm x (.sl id off lo n)) (hix : At tm ix (.v (.int kd j))) (h3 : look hp id = some it) (h : Yxo c hp id it off n sz j k) {dst : Option Tmp} {type : TypeId} {pos : String} {after : Array Edge} {guard : Option (Nat × Bool)} :
  OpRes c { dst, op := .indexAddr T x ix, type, pos, after, guard } tm hp k kp := by
 unfold Yxo at h
 split at h
 ·rename_i T' sz' n' cs jj;obtain ⟨it2, h4, h5⟩ := Yf h
  split at h5
  ·rename_i T2 sz2 n2 cs2;obtain ⟨h6, h7⟩ := Ya h5;simp only [Bool.and_eq_true, Bool.not_eq_true', Nat.ble_eq, Ye, Y4] at h6;obtain ⟨⟨⟨⟨rfl, rfl⟩, h61⟩, h62⟩, h63⟩ := h6;obtain ⟨h8, h9⟩ := Ybw h7;obtain ⟨h10, h11⟩ := Ya h9;obtain ⟨h12, h13, h14⟩ := Yhg h11;have e := Ymr h10;have hl := Y2 h62;rw [<- hl] at e;exact .of h14 (.two h3 h4 h63) (by intro i hi; simp [keys] at hi ⊢; exact hi)
    ((Yum (it := .row T2 sz2 n' cs) hq hx hix h12 h13 fun φ w0 M R w hS => Ydd h61 hS).back h63 fun φ w0 M R w hS => St.lentBackV hl e hS)
  ·exact h5.elim
 ·obtain ⟨h6, h7⟩ := Ya h;obtain ⟨h8, h9, h10⟩ := Yhg h7;exact .of h10 (.one h3) Yfv (Yum hq hx hix h8 h9 fun φ w0 M R w hS => Ybj h6 φ _ w0 M R w hS)
theorem Yn2 {x : Option Operand} {dflt : Nat} {K : Nat -> Prop} (h : Y23 tm x dflt K) : ∃ n, BoundA tm x dflt n /\ K n := by
 cases x with
 | none => exact ⟨dflt, rfl, h⟩
 | some x =>
  obtain ⟨v, hj, hx, h1⟩ := Yd h
  try dsimp only at h1
  split at h1
  ·exact ⟨_, ⟨_, hx⟩, h1⟩
  ·exact h1.elim
theorem Yvl {T : TypeId} {x : Operand} {i off lo n d : Nat} {lop hip mxp : Option Operand} (hc : HandOk c) (hx : At tm x (.sl i off lo n)) {dst : Option Tmp} {type : TypeId} {pos : String} {after : Array Edge} {guard : Option (Nat × Bool)} (h : Y0a c T d tm i off lo n lop hip mxp hp k) :
  OpRes c { dst, op := .slice T x lop hip mxp, type, pos, after, guard } tm hp k kp := by
 obtain ⟨it, h1, h2⟩ := Yf h
 try dsimp only at h2
 split at h2
 ·rename_i e' sz' N cs;have h3 := Yj hc.tab h2
  try dsimp only at h3
  split at h3
  ·exact h3.elim
  ·rename_i q e sz by_ zs hq
   split at h3
   ·obtain ⟨l, hl, h4⟩ := Yn2 h3;obtain ⟨h', hh, h5⟩ := Yn2 h4;obtain ⟨h6, h7⟩ := Ya h5;simp only [Bool.and_eq_true, Nat.ble_eq] at h6
    split at h7
    ·exact .of h7 (.one h1) Yfv (Y4v hq hx hl hh h6.1.1 h6.2)
    ·rename_i l
     split at h7
     ·rename_i hb;have e1 := Ye.1 hb;subst e1;exact .of h7 (.one h1) Yfv (Y4u hq hx hl hh h6.1.1 h6.2)
     ·rename_i hb;have hne := Y4.1 hb;have h8 := Yhb.1 (Yhb.1 (Yhb.1 h7));exact .of h8 (.one h1) Yfv (Y4t hq hx hl hh (by omega) h6.1.1 h6.2)
   ·exact h3.elim
 ·exact h2.elim
theorem Yx5 (hc : HandOk c) (h : vcOp c o tm hp k kp) : OpRes c o tm hp k kp := by
 obtain ⟨dst, op, type, pos, after, guard⟩ := o;cases op <;> try exact Ybd hc h
 case move x => obtain ⟨v, hj, hx, h1⟩ := Yd h; exact .pure h1 (Y77 hx hj)
 case assign x => obtain ⟨v, hj, hx, h1⟩ := Yd h; exact .pure h1 (Y41 hx hj)
 case pick b x y =>
  obtain ⟨v, hj, hb, h1⟩ := Yd h
  try dsimp only at h1
  split at h1
  ·rename_i b';rcases Ye7 h1 with ⟨rfl, h2⟩ | ⟨rfl, h2⟩
   ·obtain ⟨v, hj, hx, h3⟩ := Yd h2; exact .pure h3 (Y5r hb hx hj)
   ·obtain ⟨v, hj, hx, h3⟩ := Yd h2; exact .pure h3 (Y5r hb hx hj)
  ·exact h1.elim
 case alloc T =>
  have h1 := Yj hc.tab h
  try dsimp only at h1
  split at h1
  ·rename_i zs hz; exact .of h1 (.nil _) Yfv (Y67 hz)
  ·exact h1.elim
 case box T x =>
  obtain ⟨v, hj, hx, h1⟩ := Yd h;obtain ⟨cs, h2, hcs, hh⟩ := Ydk h1;exact .of h2 (.nil _) Yfv (d_box hx hj hcs hh)
 case load T x =>
  obtain ⟨v, hj, hx, h1⟩ := Yd h
  try dsimp only at h1
  split at h1
  ·obtain ⟨it, h2, h3⟩ := Yf h1;obtain ⟨v, h4, h5⟩ := Yy7 hc.tab h3 hx;exact .of h4 (.one h2) Yfv h5
  ·exact Ybd hc h1
 case store T x y =>
  obtain ⟨p, hpj, hx, h1⟩ := Yd h;obtain ⟨v, hj, hy, h2⟩ := Yd h1
  try dsimp only at h2
  split at h2
  ·obtain ⟨it, h3, h4⟩ := Yf h2;obtain ⟨vs, h5, hcs, hh⟩ := Ydk h4;obtain ⟨it', h6, h7⟩ := Yvj hc.tab h5 hx hy hj hcs;exact .of h6 (.one h3) (by intro i hi; simpa [keys] using hi) h7
  ·exact h2.elim
 case nilCheck x =>
  obtain ⟨v, hj, hx, h1⟩ := Yd h
  try dsimp only at h1
  split at h1
  ·refine .pure h1 (Does.pure fun φ a ho w => ?_);have e := ho x (by simp [Op.operands]) _ hx hj;simp only [AV.conc] at e;simp [execOp, e, AV.conc]
  ·exact Ybd hc h1
 case fieldAddr T x i =>
  obtain ⟨v, hj, hx, h1⟩ := Yd h
  try dsimp only at h1
  split at h1
  ·have h2 := Yj hc.tab h1;obtain ⟨f, h3, h4⟩ := Ybh h2
   split at h4
   ·exact .pure (Yhb.1 h4) (Y62 (Yfe h3) hx)
   ·exact h4.elim
  ·exact Ybd hc h1
 case indexAddr T x ix =>
  obtain ⟨v, hj, hx, h1⟩ := Yd h;obtain ⟨u, hju, hix, h2⟩ := Yd h1
  try dsimp only at h2
  split at h2
  ·obtain ⟨it, h3, h4⟩ := Yf h2;have h5 := Yj hc.tab h4
   try dsimp only at h5
   split at h5
   ·rename_i q e sz by_ zs hq;exact Ywd hq hx hix h3 h5
   ·exact h5.elim
  ·exact Ybd hc h2
 case index T x ix =>
  obtain ⟨v, hj, hx, h1⟩ := Yd h;obtain ⟨u, hju, hix, h2⟩ := Yd h1
  try dsimp only at h2
  split at h2
  ·have h5 := Yj hc.tab h2
   try dsimp only at h5
   split at h5
   ·rename_i q n sz b hq;obtain ⟨h8, h9, h10⟩ := Yhg h5;rw [Nat.zero_add] at h10
    split at h10
    ·obtain ⟨v, h11, h12⟩ := Ybh h10;exact .pure h12 (Yxy hq hx hix h8 h9 fun φ => .inl ⟨rfl, by rw [Yck, h11]; rfl⟩)
    ·obtain ⟨h11, h12⟩ := Yb8 h10;obtain ⟨h13, h14⟩ := Ybw h12;refine .pure h14 (Yxy hq hx hix h8 h9 fun φ => .inr ⟨rfl, ?_⟩);simp only [AV.conc, Yea, Yfm, Value.agg.injEq];apply Array.ext';simp
   ·exact h5.elim
  ·exact Ybd hc h2
 case extract t i =>
  obtain ⟨v, hj, hx, h1⟩ := Yd h
  try dsimp only at h1
  split at h1
  ·obtain ⟨v, h2, h3⟩ := Ybh h1; exact .pure h3 (Y2o hx h2)
  ·exact Ybd hc h1
 case build T ps =>
  have h1 := Yj hc.tab h
  try dsimp only at h1
  split at h1
  ·exact h1.elim
  ·rename_i zs hz
   split at h1
   ·rename_i q n sz b hq;obtain ⟨res, h2, h3⟩ := Ykp h1;exact .pure h2 (by have := Y40 (P := c.P) (tm := tm) (dst := dst) (type := type) (pos := pos) (after := after) (guard := guard) hq hz h3; simpa using this)
   ·split at h1
    ·exact Ybd hc h1
    ·rename_i f fs hfs;obtain ⟨pl, h2, h3⟩ := Yk0 (P := c.P) h1;obtain ⟨res, h4, h5⟩ := Ykp h2;rw [Y04] at h5;rw [<- hfs] at h3;cases hu : c.P.underlying T with
     | none => simp [mkTI, hu] at hfs
     | some d =>
      cases d <;> simp only [mkTI, hu, reduceCtorEq] at hfs
      case struct fs' =>
       have h6 : fs'.toList.map (fun f => (c.P.info? f.type).map fun j => (f.offset, j.size)) = pl.map some := by rw [<- h3]; simp only [mkTI, hu]
       exact .pure h4 (by have := Y4z (P := c.P) (tm := tm) (dst := dst) (type := type) (pos := pos) (after := after) (guard := guard) hu hz h6 h5; simpa using this)
 case buildSlice T len ps =>
  have h1 := Yj hc.tab h
  try dsimp only at h1
  split at h1
  ·exact h1.elim
  ·rename_i q e sz by_ zs hq;obtain ⟨h2, h3⟩ := Ya h1;simp only [Bool.and_eq_true, Nat.ble_eq] at h2;obtain ⟨vs, cs, h4, h5⟩ := Ym4 h3;exact .of h5 (.nil _) Yfv (by have := d_lit (P := c.P) (dst := dst) (type := type) (pos := pos) (after := after) (guard := guard) (id := 3 * dst.getD 0) hq h4 (Y2 h2.2) h2.1.1 (by simp only [maxLen]; omega); simpa using this)
 case makeFunc fn first caught =>
  obtain ⟨fs, h1, h2⟩ := Yfj h;obtain ⟨cs, h3, h4⟩ := Yfj h2;exact .pure h4 (by have := Yzl (P := c.P) (dst := dst) (type := type) (pos := pos) (after := after) (guard := guard) (fn := fn) h1 h3; simpa using this)
 case makeSlice T x y =>
  obtain ⟨v, hj, hx, h1⟩ := Yd h;obtain ⟨u, hju, hy, h2⟩ := Yd h1
  try dsimp only at h2
  split at h2
  ·have h5 := Yj hc.tab h2
   try dsimp only at h5
   split at h5
   ·exact h5.elim
   ·rename_i q e sz by_ zs hq;obtain ⟨h6, h7⟩ := Ya h5;simp only [Bool.and_eq_true, Nat.ble_eq, Ye] at h6;obtain ⟨⟨⟨rfl, h8⟩, h9⟩, h10⟩ := h6;exact .of (Yq9.1 h7) (.nil _) Yfv (Y78 hq hx hy h8 (by simp only [maxLen]; omega) (fun φ => Yd2 φ (Y2 h10)) fun i => Y4i ((Yi hq (fun _ => ⟨0, false, 0, none, 0, undef, fun _ => False⟩)).2 i) _)
  ·exact Ybd hc h2
 case range T x =>
  obtain ⟨v, hj, hx, h1⟩ := Yd h
  try dsimp only at h1
  split at h1
  ·rename_i hu;exact .of h1 (.nil _) Yfv (Y4w hu hx)
  ·exact h1.elim
 case next x b =>
  obtain ⟨v, hj, hx, h1⟩ := Yd h
  try dsimp only at h1
  split at h1
  ·obtain ⟨it, h2, h3⟩ := Yf h1
   split at h3
   ·rename_i i s p
    split at h3
    ·rename_i hlt;have h4 := Yk.1 (Yhr.1 h3);exact .of h4 (.one h2) (by intro i hi; simpa [keys] using hi) (Y2c hx (.inl ⟨by simpa [Nat.blt_eq] using hlt, rfl, rfl⟩))
    ·rename_i hge;exact .of h3 (.one h2) (by intro i hi; simpa [keys] using hi) (Y2c hx (.inr ⟨by rw [<- Bool.not_eq_true, Nat.blt_eq] at hge; exact hge, rfl, rfl⟩))
   ·exact h3.elim
  ·exact h1.elim
 case makeMap T r =>
  cases r with
  | none => exact .of h (.nil _) Yfv Y2d
  | some _ => exact h.elim
 case lookup T x ix ok =>
  obtain ⟨v, hj, hx, h1⟩ := Yd h;obtain ⟨u, hju, hix, h2⟩ := Yd h1
  try dsimp only at h2
  split at h2
  ·obtain ⟨it, h3, h4⟩ := Yf h2
   split at h4
   ·split at h4
    ·rename_i hu;obtain ⟨i, h5, h6⟩ := Ydf h4;obtain ⟨v, h7, h8⟩ := Yd6 h5;exact .of (Ykl.1 h7) (.one h3) Yfv (Yr1 hu hx hix hju h6 h8)
    ·exact h4.elim
   ·exact h4.elim
  ·exact Ybd hc h2
 case mapUpdate T x ix y =>
  obtain ⟨v, hj, hx, h1⟩ := Yd h;obtain ⟨u, hju, hix, h2⟩ := Yd h1;obtain ⟨y', hjy, hy, h3⟩ := Yd h2
  try dsimp only at h3
  split at h3
  ·obtain ⟨it, h4, h5⟩ := Yf h3
   split at h5
   ·split at h5
    ·rename_i hu;obtain ⟨i, h6, h7⟩ := Ydf h5;obtain ⟨yv, h8, h9⟩ := Ydf h6;obtain ⟨r, h10, h11⟩ := Yd6 h8;exact .of h10 (.one h4) (by intro i hi; simpa [keys] using hi) (Yrz hu hx hix hju h7 hy hjy h9 h11)
    ·exact h5.elim
   ·exact h5.elim
  ·exact h3.elim
 case slice T x lo hi mx =>
  obtain ⟨v, hj, hx, h1⟩ := Yd h
  try dsimp only at h1
  split at h1
  ·exact Yvl hc hx h1
  ·exact Ybd hc h1
 case panic x =>
  obtain ⟨v, hj, hx, h1⟩ := Yd h
  try dsimp only at h1
  split at h1
  ·exact .inr ⟨_, _, _, _, h1, .nil _, Yfv, Y2b (y := .v _) hx hj fun φ => rfl⟩
  ·exact .inr ⟨_, _, _, _, h1, .nil _, Yfv, Y2b hx hj fun φ => rfl⟩
  ·exact h1.elim
 case call cl =>
  obtain ⟨callee, args, argTypes⟩ := cl;unfold vcOp at h;cases callee with
  | invoke _ _ => exact h.elim
  | value f =>
   obtain ⟨fv, hj, hf, h1⟩ := Yd h;obtain ⟨g, fs, cs, h2, h3, h4⟩ := Yjl h1;obtain ⟨vs, h5, h6⟩ := Yfj h2;obtain ⟨h7, h8⟩ := Ya h6;have h9 := Yct.1 (Yct.1 h8);rw [<- List.append_assoc] at h9;rcases hc.call _ _ _ _ _ _ h9 with ⟨val, hs, us, nw, a1, a2, a3, a4⟩ | ⟨val, hs, us, nw, a1, a2, a3, a4⟩
   ·exact .inl ⟨val, hs, us, nw, a1, a2, a3, by have := Y8c (P := c.P) (dst := dst) (type := type) (pos := pos) (after := after) (guard := guard) (tys := argTypes) h7 hf hj h3 h4 h5 a4; simpa using this⟩
   ·exact .inr ⟨val, hs, us, nw, a1, a2, a3, by have := Y65 (P := c.P) (dst := dst) (type := type) (pos := pos) (after := after) (guard := guard) (tys := argTypes) h7 hf hj h3 h4 h5 a4; simpa using this⟩
  | builtin b =>
   try dsimp only at h
   split at h
   ·rename_i x hargs;obtain ⟨v, hj, hx, h1⟩ := Yd h
    try dsimp only at h1
    split at h1
    ·rename_i id off lo n;have e1 : args = #[x] := by apply Array.ext'; simpa using hargs
     subst e1
     split at h1
     ·rename_i T hT;have e2 : argTypes = #[T] := by apply Array.ext'; simpa using hT
      subst e2;have h5 := Yj hc.tab h1
      try dsimp only at h5
      split at h5
      ·rename_i q e sz by_ zs hq;exact .pure h5 fun φ w0 M R a w K Q ho _ hS kk => Y7s (Yi hq φ).1 (ho.ev (by simp [Op.operands, Call.operands]) hx (by simp)) (kk φ w (Agree.refl _ _) hS)
      ·exact h5.elim
     ·exact h1.elim
    ·exact Ybd hc h1
   ·rename_i s x hargs
    split at h
    ·rename_i T T' hT;obtain ⟨h1, h2⟩ := Ya h;obtain ⟨sv, hsj, hs, h3⟩ := Yd h2;obtain ⟨xv, hxj, hx, h4⟩ := Yd h3;have e : T = T' := Ye.1 h1;subst e;have e1 : args = #[s, x] := by apply Array.ext'; simpa using hargs
     have e2 : argTypes = #[T, T] := by apply Array.ext'; simpa using hT
     subst e1 e2;exact Yux hc hs hx hsj hxj h4
    ·exact h.elim
   ·exact Ybd hc h
end
end Go.Proofs.YtladoaeefkpdiaaGreatDoor
namespace Go.Proofs.YtladoaeefkpdiaaGreatDoor
open Go.RowKit
variable [InW]
def Y6c (c : Cx) (o : Oper) (tm : List AV) (hp : Heap) (k kp : KE) (x : Operand) : Prop :=
 evK tm x fun v => k v [] [] []
def Y01 (c : Cx) (o : Oper) (tm : List AV) (hp : Heap) (k kp : KE) (x : Operand) : Prop :=
 evK tm x fun v => k v [] [] []
def Y6a (c : Cx) (o : Oper) (tm : List AV) (hp : Heap) (k kp : KE) (b : Operand) (x : Operand) (y : Operand) : Prop :=
 evK tm b fun b => (match b with
  | .v (.bool b) => vcIf b (evK tm x fun v => k v [] [] []) (evK tm y fun v => k v [] [] [])
  | _ => Stuck 27)
def Y38 (c : Cx) (o : Oper) (tm : List AV) (hp : Heap) (k kp : KE) (T : TypeId) : Prop :=
 tiK c.tt T fun ti => (match ti.zero with
  | some zs => k (.ptr (3 * o.dst.getD 0) 0) [] [] [(3 * o.dst.getD 0, .blk T zs)]
  | none => Stuck 28)
def Y7u (c : Cx) (o : Oper) (tm : List AV) (hp : Heap) (k kp : KE) (T : TypeId) (x : Operand) : Prop :=
 evK tm x fun v => Yjv v fun cs => k (.ptr (3 * o.dst.getD 0) 0) [] [] [(3 * o.dst.getD 0, .blk T cs)]
def Y6d (c : Cx) (o : Oper) (tm : List AV) (hp : Heap) (k kp : KE) (T : TypeId) (x : Operand) : Prop :=
 evK tm x fun p => (match p with
  | .ptr i j => Yu hp i fun it => Y1o c.tt T it j fun v => k v [(i, it)] [] []
  | _ => Ybu c o tm hp k)
def Y32 (c : Cx) (o : Oper) (tm : List AV) (hp : Heap) (k kp : KE) (T : TypeId) (x : Operand) (y : Operand) : Prop :=
 evK tm x fun p => evK tm y fun v => (match p with
  | .ptr i j => Yu hp i fun it => Yjv v fun vs => Yz6 c.tt T it j vs fun it' => k (.v undef) [(i, it)] [(i, it')] []
  | _ => Stuck 29)
def Yvy (c : Cx) (o : Oper) (tm : List AV) (hp : Heap) (k kp : KE) (x : Operand) : Prop :=
 evK tm x fun p => (match p with
  | .ptr i j => k (.ptr i j) [] [] []
  | _ => Ybu c o tm hp k)
def Ytj (c : Cx) (o : Oper) (tm : List AV) (hp : Heap) (k kp : KE) (T : TypeId) (x : Operand) (i : Nat) : Prop :=
 evK tm x fun p => (match p with
  | .ptr id j => tiK c.tt T fun ti => getK ti.fields i fun f => (match f with
   | some (off, n + 1) => fN false (j + off) fun j => k (.ptr id j) [] [] []
   | _ => Stuck 30)
  | _ => Ybu c o tm hp k)
def Yti (c : Cx) (o : Oper) (tm : List AV) (hp : Heap) (k kp : KE) (T : TypeId) (x : Operand) (ix : Operand) : Prop :=
 evK tm x fun s => evK tm ix fun j => (match s, j with
  | .sl id off lo n, .v (.int kd j) => Yu hp id fun it => tiK c.tt T fun ti => (match ti.slice with
   | some (e, sz, by_, zs) => Yxo c hp id it off n sz j k
   | none => Stuck 31)
  | _, _ => Ybu c o tm hp k)
def Y36 (c : Cx) (o : Oper) (tm : List AV) (hp : Heap) (k kp : KE) (T : TypeId) (x : Operand) (ix : Operand) : Prop :=
 evK tm x fun s => evK tm ix fun j => (match s, j with
  | .agg cs, .v (.int kd j) => tiK c.tt T fun ti => (match ti.arr with
   | some (n, sz, b) => Yx6 c.sy j n 0 sz fun a => (match b with
    | false => getK cs a fun v => k v [] [] []
    | true => Ykq cs a fun r => Yiu r sz fun vs => k (.agg vs) [] [] [])
   | none => Stuck 32)
  | _, _ => Ybu c o tm hp k)
def Yyz (c : Cx) (o : Oper) (tm : List AV) (hp : Heap) (k kp : KE) (t : Operand) (i : Nat) : Prop :=
 evK tm t fun v => (match v with
  | .tup cs => getK cs i fun v => k v [] [] []
  | _ => Ybu c o tm hp k)
def Y37 (c : Cx) (o : Oper) (tm : List AV) (hp : Heap) (k kp : KE) (T : TypeId) (ps : Array (Nat × Operand)) : Prop :=
 tiK c.tt T fun ti => (match ti.zero with
  | none => Stuck 33
  | some zs => (match ti.arr with
   | some (n, sz, b) => Ywi tm (fun i => some (i * sz, sz)) ps.toList zs fun res => k (.agg res) [] [] []
   | none => (match ti.fields with
    | [] => Ybu c o tm hp k
    | f :: fs => vcOp.placesK (f :: fs) fun pl => Ywi tm (vcOp.nthP pl) ps.toList zs fun res => k (.agg res) [] [] [])))
def Yrf (c : Cx) (o : Oper) (tm : List AV) (hp : Heap) (k kp : KE) (T : TypeId) (len : Nat) (ps : Array (Nat × Operand)) : Prop :=
 tiK c.tt T fun ti => (match ti.slice with
  | none => Stuck 34
  | some (e, sz, by_, zs) => Yc (Nat.ble (len * sz) 16777216 && Nat.ble len 16777216 && lenB ps.toList len) (Yxa tm sz 0 ps.toList fun cs => k (.sl (3 * o.dst.getD 0) 0 0 len) [] [] [(3 * o.dst.getD 0, .row e sz len cs)]))
def Yvz (c : Cx) (o : Oper) (tm : List AV) (hp : Heap) (k kp : KE) (fn : Fn) (first : Array Operand) (caught : Array Operand) : Prop :=
 evsK tm first.toList fun fs => evsK tm caught.toList fun cs => k (.fn fn fs cs) [] [] []
def Yth (c : Cx) (o : Oper) (tm : List AV) (hp : Heap) (k kp : KE) (T : TypeId) (x : Operand) (y : Operand) : Prop :=
 evK tm x fun x => evK tm y fun y => (match x, y with
  | .v (.int kl (.ofNat n)), .v (.int kc (.ofNat m)) => tiK c.tt T fun ti => (match ti.slice with
   | none => Stuck 35
   | some (e, sz, by_, zs) => Yc (Nat.beq n m && Nat.ble (by_ * n) 281474976710656 && Nat.ble n 16777216 && lenB zs sz) (repK zs n fun cs => k (.sl (3 * o.dst.getD 0) 0 0 n) [] [] [(3 * o.dst.getD 0, .row e sz n cs)]))
  | _, _ => Ybu c o tm hp k)
def Y34 (c : Cx) (o : Oper) (tm : List AV) (hp : Heap) (k kp : KE) (T : TypeId) (x : Operand) : Prop :=
 evK tm x fun s => (match s, c.P.underlying T with
  | .v (.string s), some .string => k (.ptr (3 * o.dst.getD 0) 0) [] [] [(3 * o.dst.getD 0, .obj (.sit s 0))]
  | _, _ => Stuck 65)
def Y6b (c : Cx) (o : Oper) (tm : List AV) (hp : Heap) (k kp : KE) (x : Operand) (b : Bool) : Prop :=
 evK tm x fun p => (match p, b with
  | .ptr i 0, true => Yu hp i fun it => (match it with
   | .obj (.sit s p) => (match Nat.blt p s.size with
    | true => Yqa (Utf8.decode s p).1 fun ch => Y3 (p + (Utf8.decode s p).2) fun q => k (.tup [.v (.bool true), .v (.int .i64 (p : Int)), .v (.int .i32 ch)]) [(i, .obj (.sit s p))] [(i, .obj (.sit s q))] []
    | false => k (.tup [.v (.bool false)]) [(i, .obj (.sit s p))] [(i, .obj (.sit s p))] [])
   | _ => Stuck 66)
  | _, _ => Stuck 67)
def Yyy (c : Cx) (o : Oper) (tm : List AV) (hp : Heap) (k kp : KE) (T : TypeId) (r : Option Operand) : Prop :=
 (match r with | none => k (.mp (3 * o.dst.getD 0)) [] [] [(3 * o.dst.getD 0, .obj (.mpV [] 0))] | some _ => Stuck 68)
def Y00 (c : Cx) (o : Oper) (tm : List AV) (hp : Heap) (k kp : KE) (T : TypeId) (x : Operand) (ix : Operand) (ok : Bool) : Prop :=
 evK tm x fun m => evK tm ix fun i => (match m with
  | .mp j => Yu hp j fun it => (match it with
   | .obj (.mpV es clock) => (match c.P.underlying T with
    | some (.map key elem) => Ygq i fun i => Yrb c.P (Yfz T es.toArray i ok) fun v => Yt9 v fun v => k (.v v) [(j, .obj (.mpV es clock))] [] []
    | _ => Stuck 69)
   | _ => Stuck 70)
  | _ => Ybu c o tm hp k)
def Ytg (c : Cx) (o : Oper) (tm : List AV) (hp : Heap) (k kp : KE) (T : TypeId) (x : Operand) (ix : Operand) (y : Operand) : Prop :=
 evK tm x fun m => evK tm ix fun i => evK tm y fun y => (match m with
  | .mp j => Yu hp j fun it => (match it with
   | .obj (.mpV es clock) => (match c.P.underlying T with
    | some (.map key elem) => Ygq i fun i => Ygq y fun y => Yrb c.P (Yfr T es.toArray clock i y) fun r => k (.v undef) [(j, .obj (.mpV es clock))] [(j, .obj (.mpV r.1.toList r.2))] []
    | _ => Stuck 71)
   | _ => Stuck 72)
  | _ => Stuck 73)
def Y33 (c : Cx) (o : Oper) (tm : List AV) (hp : Heap) (k kp : KE) (T : TypeId) (x : Operand) (lo : Option Operand) (hi : Option Operand) (mx : Option Operand) : Prop :=
 evK tm x fun s => (match s with
  | .sl i off lo' n => Y0a c T (3 * o.dst.getD 0) tm i off lo' n lo hi mx hp k
  | _ => Ybu c o tm hp k)
def Y6e (c : Cx) (o : Oper) (tm : List AV) (hp : Heap) (k kp : KE) (cl : Call) : Prop :=
 (match cl.callee with
  | .value f => evK tm f fun fv => funK fv fun g fs cs => evsK tm cl.args.toList fun vs => Yc (Yf8 c.P g) (appK vs cs fun r => appK fs r fun all => c.callH g all hp (o.dst.getD 0) k kp)
  | .builtin b => (match b, cl.args.toList with
   | .len, [x] => evK tm x fun v => (match v with
    | .sl _ _ _ n => (match cl.argTypes.toList with
     | [T] => tiK c.tt T fun ti => (match ti.slice with
      | some (e, sz, by_, zs) => k (.v (.int .i64 (n : Int))) [] [] []
      | none => Stuck 36)
     | _ => Stuck 37)
    | _ => Ybu c o tm hp k)
   | .append, [s, x] => (match cl.argTypes.toList with
    | [T, T'] => Yc (Nat.beq T T') (evK tm s fun s => evK tm x fun x => Ywu c T (3 * o.dst.getD 0) s x hp k)
    | _ => Stuck 38)
   | _, _ => Ybu c o tm hp k)
  | _ => Stuck 39)
def Y35 (c : Cx) (o : Oper) (tm : List AV) (hp : Heap) (k kp : KE) (x : Operand) : Prop :=
 evK tm x fun v => (match v with
  | .v (.iface t y) => kp (.v (.iface t y)) [] [] []
  | .ifc t y => kp (.ifc t y) [] [] []
  | _ => Stuck 40)
def Yd1 (c : Cx) (o : Oper) (tm : List AV) (hp : Heap) (k kp : KE) : Prop :=
 match o.op with
 | .move x => Y6c c o tm hp k kp x
 | .assign x => Y01 c o tm hp k kp x
 | .pick b x y => Y6a c o tm hp k kp b x y
 | .alloc T => Y38 c o tm hp k kp T
 | .box T x => Y7u c o tm hp k kp T x
 | .load T x => Y6d c o tm hp k kp T x
 | .store T x y => Y32 c o tm hp k kp T x y
 | .nilCheck x => Yvy c o tm hp k kp x
 | .fieldAddr T x i => Ytj c o tm hp k kp T x i
 | .indexAddr T x ix => Yti c o tm hp k kp T x ix
 | .index T x ix => Y36 c o tm hp k kp T x ix
 | .extract t i => Yyz c o tm hp k kp t i
 | .build T ps => Y37 c o tm hp k kp T ps
 | .buildSlice T len ps => Yrf c o tm hp k kp T len ps
 | .makeFunc fn first caught => Yvz c o tm hp k kp fn first caught
 | .makeSlice T x y => Yth c o tm hp k kp T x y
 | .range T x => Y34 c o tm hp k kp T x
 | .next x b => Y6b c o tm hp k kp x b
 | .makeMap T r => Yyy c o tm hp k kp T r
 | .lookup T x ix ok => Y00 c o tm hp k kp T x ix ok
 | .mapUpdate T x ix y => Ytg c o tm hp k kp T x ix y
 | .slice T x lo hi mx => Y33 c o tm hp k kp T x lo hi mx
 | .call cl => Y6e c o tm hp k kp cl
 | .panic x => Y35 c o tm hp k kp x
 | _ => Ybu c o tm hp k
theorem Y3f (c : Cx) (o : Oper) (tm : List AV) (hp : Heap) (k kp : KE) : Yd1 c o tm hp k kp = vcOp c o tm hp k kp := by
 obtain ⟨dst, op, type, pos, after, guard⟩ := o;cases op <;> rfl
end Go.Proofs.YtladoaeefkpdiaaGreatDoor
