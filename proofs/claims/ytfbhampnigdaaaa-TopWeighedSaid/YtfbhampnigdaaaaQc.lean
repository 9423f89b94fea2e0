/-
  A machine over abstract states, proved sound: the help of the proof of a law.
-/
import Derived.Test.YtfbhampnigdaaaaQb
import Derived.RangeFuncRecord
import Derived.OrdersIn
import Derived.LoopNIn
import Derived.Recover
set_option linter.unusedVariables false
set_option linter.unusedSectionVars false
set_option linter.unusedSimpArgs false
namespace Go.Proofs.Ytfbhampnigdaaaa
open Go.RowKit
set_option maxRecDepth 100000
set_option maxHeartbeats 1600000
variable [InW]
section
variable {P : Program} {tm : List AV} {dst : Option Tmp} {type : TypeId} {pos : String} {after : Array Edge} {guard : Option (Nat × Bool)}
theorem Y3t {T : Nat} {ts : List Ty} {xs : Dt} {id : Nat} (hts : 0 < ts.length) {w0 w : World} {M : List Nat} {R : RL} {φ : Phi} (hS : St w0 M ((It.arr T ts xs).conc φ id :: R) w) : (φ id).fn = xs.length := by
 have h : w.ownsRow 0 T ts.length _ (φ id).fn (Yj ts xs) := hS.row (v := .slice (if (φ id).nil then none else some ⟨(φ id).b, 0, none⟩) (φ id).fn (φ id).c) Look.head;have := h.1;rw [Yn] at this;exact (Nat.eq_of_mul_eq_mul_right hts this).symm
theorem Yfr {id sz n : Nat} (φ : Phi) : (AV.rwp id sz 0 n).conc φ = .slice (if (φ id).nil then none else some ⟨(φ id).b, 0, none⟩) n (φ id).c := by
 simp only [AV.conc, Nat.zero_mul, Nat.sub_zero];cases (φ id).nil <;> simp [Ym]
theorem Yww {w : World} {T e : TypeId} {sz by_ : Nat} {zs : Array Value} (ht : SliceOf P T e sz by_ zs) (A : Option Addr) {n c l h m : Nat} {lov : Option Value} {hv mv : Value} (hl : Yb3 lov 0 l) (hh : Yb3 (some hv) 0 h) (hm : Yb3 (some mv) 0 m) (h0 : l <= h) (h1 : h <= m) (h2 : m <= c) :
  (Instr.sliceAt T (.slice A n c) lov (some hv) (some mv)).run P w = .ok (.slice (if m = l then A else A.map (·.add (l * sz))) (h - l) (m - l)) w := by
 obtain ⟨j, z, hj, hz1, hz2, his, hib⟩ := ht.parts;subst his;cases hv with
 | int k1 i1 =>
  cases mv with
  | int k2 i2 =>
   simp only [Yb3] at hh hm;subst hh; subst hm;have e1 : (Instr.sliceBounds true n c lov (some (.int k1 (h : Int))) (some (.int k2 (m : Int)))).run P w = .ok (l, h, m) w := by
    cases lov with
    | none =>
     simp only [Yb3] at hl; subst hl;simp only [Instr.sliceBounds, Sem.run_bind, if_true, Ycu rfl h2, Ycu rfl h1, Result.andThen_ok, Sem.run_pure]
    | some v =>
     cases v <;> simp only [Yb3] at hl;subst hl;simp only [Instr.sliceBounds, Sem.run_bind, if_true, Ycu rfl h2, Ycu rfl h1, Ycu rfl h0, Result.andThen_ok, Sem.run_pure]
   simp only [Instr.sliceAt, Sem.run_bind, run_underlying ht.1 w, Result.andThen_ok, Instr.slice, e1, sizeOf, typeInfo, run_program, hj, Sem.run_pure]
  | _ => simp [Yb3] at hm
 | _ => simp [Yb3] at hh
theorem Yxu {T e sz by_ l h m T' id' : Nat} {zs : List AV} {x hi mx : Operand} {lop : Option Operand} {ts : List Ty} {xs : Dt} {id : Nat} (ht : (mkTI P T).slice = some (e, sz, by_, zs)) (hsz : sz = ts.length) (hts : 0 < ts.length) (hx : At tm x (.rw id)) (hl : BoundS tm lop 0 l) (hh : BoundS tm (some hi) 0 h) (hm : BoundS tm (some mx) 0 m) (h0 : l <= h) (h1 : h <= m) (h2 : m <= xs.length) :
  Does P { dst, op := .slice T x lop (some hi) (some mx), type, pos, after, guard } tm [(id, .arr T' ts xs)] (.opq id') [] [(id', .dead)] :=
 fun φ w0 M R a w K Q ho hn hS kk => by
  subst hsz;have hS' : St w0 M ((It.arr T' ts xs).conc φ id :: R) w := hS;have hc := (Yho hts hS').1;have e1 := ho x (by simp [Op.operands]) _ hx (by simp);simp only [AV.conc] at e1;have hr := Yww (w := w) (Yi ht φ).1 (if (φ id).nil then none else some ⟨(φ id).b, 0, none⟩) (n := (φ id).fn) (c := (φ id).c) (hl.is (φ := φ) (a := a) fun y hy => ho y (by simp [Op.operands, hy])) (hh.is (φ := φ) (a := a) fun y hy => ho y (by simp at hy; simp [Op.operands, hy])) (hm.is (φ := φ) (a := a) fun y hy => ho y (by simp at hy; simp [Op.operands, hy])) h0 h1 (by omega);rw [<- e1] at hr;unfold Oper.wp;rw [Ycc (lo := lop) (hi := some hi) (mx := some mx) hr];generalize Value.slice (if m = l then (if (φ id).nil then none else some (⟨(φ id).b, 0, none⟩ : Addr)) else Option.map (·.add (l * ts.length)) (if (φ id).nil then none else some (⟨(φ id).b, 0, none⟩ : Addr))) (h - l) (m - l) = V;have hag := Ys φ id' ⟨0, false, 0, none, 0, V, fun _ => False⟩;have hx2 := hn id' (by simp [keys]);have hag2 : Yb (fun i => if i = id' then (⟨0, false, 0, none, 0, V, fun _ => False⟩ : Hd) else φ i) [(id, It.arr T' ts xs)] = Yb φ [(id, It.arr T' ts xs)] := Ybx hag fun i hi => by rw [List.mem_singleton.1 hi]; exact hx2.2
  have h3 := kk _ w hag (by
   rw [Yp];simp only [Yh, hag2];have := hS.dead;exact this.perm (by simp only [Yb, List.map_cons, List.map_nil, It.conc, List.cons_append, List.nil_append]; exact List.Perm.swap _ _ _))
  simp only [AV.conc, if_true] at h3;simp only [Oper.upon];exact h3
theorem Yxt {T e sz by_ l h n T' : Nat} {zs : List AV} {x : Operand} {hi lop : Option Operand} {ts : List Ty} {xs : Dt} {id : Nat} (ht : (mkTI P T).slice = some (e, sz, by_, zs)) (hsz : sz = ts.length) (hts : 0 < ts.length) (hx : At tm x (.rwp id ts.length 0 n)) (hl : BoundS tm lop 0 l) (hh : BoundS tm hi n h) (h1 : l <= h) (h2 : h <= xs.length) :
  Does P { dst, op := .slice T x lop hi none, type, pos, after, guard } tm [(id, .arr T' ts xs)] (.rwp id ts.length l (h - l)) [] [] :=
 fun φ w0 M R a w K Q ho _ hS kk => by
  subst hsz;have hS' : St w0 M ((It.arr T' ts xs).conc φ id :: R) w := hS;have hc := (Yho hts hS').1;have e1 := ho x (by simp [Op.operands]) _ hx (by simp);rw [Yfr] at e1;have hr := Yc4 (w := w) (Yi ht φ).1 (if (φ id).nil then none else some ⟨(φ id).b, 0, none⟩) (n := n) (c := (φ id).c) (l := l) (h := h) (hl.is (φ := φ) (a := a) fun y hy => ho y (by simp [Op.operands, hy])) (hh.is (φ := φ) (a := a) fun y hy => ho y (by simp [Op.operands, hy])) h1 (by omega);rw [<- e1] at hr;unfold Oper.wp;rw [Ycc hr];exact kk φ w (Agree.refl _ _) hS
def apD (xs : Dt) (i l m : Nat) : Dt := xs.take i ++ (xs.drop l).take m ++ xs.drop (i + m)
theorem Yxo {xs : Dt} {i l m : Nat} (h1 : i + m <= xs.length) (h2 : l + m <= xs.length) : (apD xs i l m).length = xs.length := by unfold apD; simp; omega
theorem Ys9 {T e T0 by_ id i l m : Nat} {zs : List AV} {s x : Operand} {ts : List Ty} {xs : Dt} (ht : (mkTI P T).slice = some (e, ts.length, by_, zs)) (hsz : 0 < ts.length) (hsv : At tm s (.rwp id ts.length 0 i)) (hx : At tm x (.rwp id ts.length l m)) (h1 : i + m <= xs.length) (h2 : l + m <= xs.length) :
  Does P { dst, op := .call { callee := .builtin .append, args := #[s, x], argTypes := #[T, T] }, type, pos, after, guard } tm [(id, .arr T0 ts xs)] (.rwp id ts.length 0 (i + m)) [(id, .arr T0 ts (apD xs i l m))] [] :=
 fun φ w0 M R a w K Q ho hn hS kk => by
  have hS' : St w0 M ((It.arr T0 ts xs).conc φ id :: R) w := hS;have hc := (Yho hsz hS').1;have hfn := Y3t hsz hS';have e1 := ho s (by simp [Op.operands, Call.operands]) _ hsv (by simp);have e2 := ho x (by simp [Op.operands, Call.operands]) _ hx (by simp);rw [Yfr] at e1;have hlen := Yxo h1 h2;obtain ⟨t, z, hi, hz1, hz2, his, hib⟩ := (Yi ht φ).1.parts;have hti := (Yi ht φ).1.1;have e4 : Yh [(id, It.arr T0 ts xs)] [(id, .arr T0 ts (apD xs i l m))] = [(id, .arr T0 ts (apD xs i l m))] := by simp [Yh, upd, Nat.beq_refl]
  rcases Nat.eq_zero_or_pos m with h0 | h0
  ·subst h0;have hx0 : ∃ A c, a.eval x = .slice A 0 c := ⟨_, _, e2⟩;obtain ⟨A, c, e3⟩ := hx0;have hsrc : Src P t.size T (.slice A 0 c) 0 [] w := by
    cases A with
    | none => exact Src.ofNil w hti c
    | some b => exact Src.ofSlice w hti b 0 c [] (by simp) (by simp) (by simp)
   have hr := run_append_nothing w T T type e t hti hi (if (φ id).nil then none else some ⟨(φ id).b, 0, none⟩) i (φ id).c (by omega) _ hsrc;have h4 := kk φ w (Agree.refl _ _) (by
    rw [e4, List.append_nil];have : apD xs i l 0 = xs := by unfold apD; simp
    rw [this]; exact hS)
   rw [Yfr] at h4;unfold Oper.wp execOp;simp only [resolve, invoke, builtin, Sem.run_bind, Sem.run_pure, Result.andThen_ok, List.map_toArray, List.map_cons, List.map_nil, e1, e3];rw [hr];exact h4
  ·have hnil := Ydb hsz (by omega) hS';rw [Ygj hsz hS' h2 h0] at e2;have hsrc := Yyi hsz (T := T0) h2 φ w0 M R w hS;obtain ⟨A, c, g1, g2⟩ := hsrc;rw [Ygj hsz hS' h2 h0] at g1;have hml : ((xs.drop l).take m).length = m := by simp; omega
   rw [hml] at g1 g2;obtain ⟨b, off, g3, g4⟩ := g2.resolve_left (by omega);rw [g3] at g1;injection g1 with g5 g6 g7
   injection g5 with g5
   injection g5 with g8 g9
   subst g8; subst g9;rw [hnil] at e1;simp only [Bool.false_eq_true, if_false] at e1;have hnews : (Yj ts ((xs.drop l).take m)).length = m * t.size := by rw [Yn, hml, his]
   have hfc := run_firstCells_some (P := P) w t.size m ⟨(φ id).b, l * ts.length, none⟩ m ((φ id).c - l) (Yj ts ((xs.drop l).take m)) hnews (fun j u hj => by rw [Ym]; exact g4 j u hj);have hS2 : St w0 M (.row (.slice (some ⟨(φ id).b, 0, none⟩) (φ id).fn (φ id).c) T0 ts.length (φ id).fn (Yj ts xs) :: R) w := by
    have := hS';simp only [It.conc, hnil] at this;exact this
   have hmul : i * ts.length + m * ts.length <= xs.length * ts.length := by rw [<- Nat.add_mul]; exact Nat.mul_le_mul_right _ h1
   obtain ⟨w', hr, hSt⟩ := Yp5 (P := P) (k := i * ts.length) hS2 (Yj ts ((xs.drop l).take m)) (by rw [hnews, Yn, his]; exact hmul) (Ygq ts _);have hlast : (Yj ts xs).take (i * ts.length) ++ Yj ts ((xs.drop l).take m) ++ (Yj ts xs).drop (i * ts.length + (Yj ts ((xs.drop l).take m)).length) = Yj ts (apD xs i l m) := by
    unfold apD;rw [hnews, his, Y8, Y8, Yeu ts xs i (by omega), <- Nat.add_mul, <- Yjj ts xs (i + m) h1]
   rw [hlast] at hSt;have h4 := kk φ w' (Agree.refl _ _) (by
    rw [e4, List.append_nil];have : Yb φ [(id, It.arr T0 ts (apD xs i l m))] = [.row (.slice (some ⟨(φ id).b, 0, none⟩) (φ id).fn (φ id).c) T0 ts.length (φ id).fn (Yj ts (apD xs i l m))] := by simp [Yb, It.conc, hnil]
    rw [this]; exact hSt)
   rw [Yfr, hnil] at h4;simp only [Bool.false_eq_true, if_false] at h4;unfold Oper.wp execOp;simp only [resolve, invoke, builtin, Sem.run_bind, Sem.run_pure, Result.andThen_ok, List.map_toArray, List.map_cons, List.map_nil, e1, e2];have hroom : i + m <= (φ id).c := by omega
   have hrun : (Builtin.append_ #[T, T] type #[.slice (some ⟨(φ id).b, 0, none⟩) i (φ id).c, .slice (some ⟨(φ id).b, l * ts.length, none⟩) m ((φ id).c - l)]).run P w = .ok (.slice (some ⟨(φ id).b, 0, none⟩) (i + m) (φ id).c) w' := by
    have e5 : (⟨(φ id).b, 0, none⟩ : Addr).add (i * t.size) = ⟨(φ id).b, i * ts.length, none⟩ := by rw [Ym, his, Nat.zero_add]
    simp [Builtin.append_, run_underlying hti, sizeOf, typeInfo, hi, Builtin.lenOf, hroom, hfc, e5, hr]
   rw [hrun];exact h4
def clD (xs : Dt) (l m : Nat) (z : List Cl) : Dt := xs.take l ++ List.replicate m z ++ xs.drop (l + m)
theorem Yu4 {T e T0 by_ id l m : Nat} {zs : List AV} {x : Operand} {ts : List Ty} {xs : Dt} (ht : (mkTI P T).slice = some (e, ts.length, by_, zs)) (hz : zs.length = ts.length) (hzs : ∀ φ, AV.concL φ zs = Yz ts (Ybq ts)) (hsz : 0 < ts.length) (hx : At tm x (.rwp id ts.length l m)) (h2 : l + m <= xs.length) :
  Does P { dst, op := .call { callee := .builtin .clear, args := #[x], argTypes := #[T] }, type, pos, after, guard } tm [(id, .arr T0 ts xs)] (.v (.tuple #[])) [(id, .arr T0 ts (clD xs l m (Ybq ts)))] [] :=
 fun φ w0 M R a w K Q ho hn hS kk => by
  have hS' : St w0 M ((It.arr T0 ts xs).conc φ id :: R) w := hS;have e2 := ho x (by simp [Op.operands, Call.operands]) _ hx (by simp);obtain ⟨t, z, hi, hz1, hz2, his, hib⟩ := (Yi ht φ).1.parts;have hti := (Yi ht φ).1.1;have e4 : Yh [(id, It.arr T0 ts xs)] [(id, .arr T0 ts (clD xs l m (Ybq ts)))] = [(id, .arr T0 ts (clD xs l m (Ybq ts)))] := by simp [Yh, upd, Nat.beq_refl]
  rcases Nat.eq_zero_or_pos m with h0 | h0
  ·subst h0;have hx0 : ∃ A c, a.eval x = .slice A 0 c := ⟨_, _, e2⟩;obtain ⟨A, c, e3⟩ := hx0;have h4 := kk φ w (Agree.refl _ _) (by
    rw [e4, List.append_nil];have : clD xs l 0 (Ybq ts) = xs := by unfold clD; simp
    rw [this]; exact hS)
   have hrun : (Builtin.clear_ #[T] type #[.slice A 0 c]).run P w = .ok (.tuple #[]) w := by
    cases A <;> simp [Builtin.clear_, run_underlying hti]
   unfold Oper.wp execOp;simp only [resolve, invoke, builtin, Sem.run_bind, Sem.run_pure, Result.andThen_ok, List.map_toArray, List.map_cons, List.map_nil, e3];rw [hrun];exact h4
  ·have hnil := Ydb hsz (by omega) hS';rw [Ygj hsz hS' h2 h0] at e2;have hS2 : St w0 M (.row (.slice (some ⟨(φ id).b, 0, none⟩) (φ id).fn (φ id).c) T0 ts.length (φ id).fn (Yj ts xs) :: R) w := by
    have := hS';simp only [It.conc, hnil] at this;exact this
   have hzc : (Builtin.zeroCells z.cells m).toList = Yj ts (List.replicate m (Ybq ts)) := by
    have e5 : Builtin.zeroCells z.cells m = madeCells (AV.concL φ zs).toArray (m * ts.length) := by
     rw [hz2];unfold Builtin.zeroCells madeCells;simp [Yg, hz]
    rw [e5, Ydp φ hz, Yt, List.map_flatten, List.map_replicate, <- Yt, hzs φ, Yqk]
   have hnews : (Yj ts (List.replicate m (Ybq ts))).length = m * ts.length := by rw [Yn, List.length_replicate]
   have hmul : l * ts.length + m * ts.length <= xs.length * ts.length := by rw [<- Nat.add_mul]; exact Nat.mul_le_mul_right _ h2
   obtain ⟨w', hr, hSt⟩ := Yp5 (P := P) (k := l * ts.length) hS2 (Yj ts (List.replicate m (Ybq ts))) (by rw [hnews, Yn]; exact hmul) (Ygq ts _);have hlast : (Yj ts xs).take (l * ts.length) ++ Yj ts (List.replicate m (Ybq ts)) ++ (Yj ts xs).drop (l * ts.length + (Yj ts (List.replicate m (Ybq ts))).length) = Yj ts (clD xs l m (Ybq ts)) := by
    unfold clD;rw [hnews, Y8, Y8, Yeu ts xs l (by omega), <- Nat.add_mul, <- Yjj ts xs (l + m) h2]
   rw [hlast] at hSt;have h4 := kk φ w' (Agree.refl _ _) (by
    rw [e4, List.append_nil];have : Yb φ [(id, It.arr T0 ts (clD xs l m (Ybq ts)))] = [.row (.slice (some ⟨(φ id).b, 0, none⟩) (φ id).fn (φ id).c) T0 ts.length (φ id).fn (Yj ts (clD xs l m (Ybq ts)))] := by simp [Yb, It.conc, hnil]
    rw [this]; exact hSt)
   obtain ⟨m', rfl⟩ : ∃ m', m = m' + 1 := ⟨m - 1, by omega⟩;have hrun : (Builtin.clear_ #[T] type #[.slice (some ⟨(φ id).b, l * ts.length, none⟩) (m' + 1) ((φ id).c - l)]).run P w = .ok (.tuple #[]) w' := by
    simp [Builtin.clear_, run_underlying hti, zeroValue, typeInfo, hi, hz1, hzc, hr]
   unfold Oper.wp execOp;simp only [resolve, invoke, builtin, Sem.run_bind, Sem.run_pure, Result.andThen_ok, List.map_toArray, List.map_cons, List.map_nil, e2];rw [hrun];exact h4
def Yk5 (c : Cx) (T d : Nat) (tm : List AV) (s : AV) (lo : Option Operand) (hi mx : Operand) (hp : Heap) (k : KE) : Prop :=
 tiK c.tt T fun ti => (match ti.slice with
  | some (e, sz, by_, zs) => (match s with
   | .rw id => Yv hp id fun it => (match it with
    | .arr T' ts xs => Yc (Nat.beq sz ts.length && Nat.ble 1 sz) (Yez tm lo 0 fun l => Yez tm (some hi) 0 fun h => Yez tm (some mx) 0 fun m => Need (decide (l <= h) && decide (h <= m) && decide (m <= xs.length)) (k (.opq (3 * d)) [(id, .arr T' ts xs)] [] [(3 * d, .dead)]))
    | _ => Stuck 621)
   | _ => Stuck 622)
  | none => Stuck 623)
theorem Yng {c : Cx} (ht : TabOk c.P c.tt) {T d : Nat} {s : AV} {x hi mx : Operand} {lo : Option Operand} {hp : Heap} {k : KE} (hx : At tm x s) (h : Yk5 c T d tm s lo hi mx hp k) : Res1 c.P { dst, op := .slice T x lo (some hi) (some mx), type, pos, after, guard } tm hp k := by
 unfold Yk5 at h;have h1 := Yl ht h
 split at h1
 ·rename_i e sz by_ zs hs
  split at h1
  ·obtain ⟨it, hl, h2⟩ := Yf h1
   split at h2
   ·obtain ⟨h3, h4⟩ := Ya h2;simp only [Bool.and_eq_true, Nat.ble_eq, Yd] at h3;obtain ⟨l, h5, hlo⟩ := Ybj h4;obtain ⟨hh, h6, hhi⟩ := Ybj h5;obtain ⟨m, h7, hmx⟩ := Ybj h6;obtain ⟨h8, h9⟩ := h7;simp only [Bool.and_eq_true, decide_eq_true_eq] at h8;exact ⟨_, _, _, _, h9, .one hl, Yx, Yxu hs h3.1 (by omega) hx hlo hhi hmx h8.1.1 h8.1.2 h8.2⟩
   ·exact h2.elim
  ·exact h1.elim
 ·exact h1.elim
def Yk4 (c : Cx) (T : Nat) (tm : List AV) (id sz' l0 n : Nat) (lo hi : Option Operand) (hp : Heap) (k : KE) : Prop :=
 tiK c.tt T fun ti => (match ti.slice with
  | some (e, sz, by_, zs) => Yv hp id fun it => (match it with
    | .arr T' ts xs => Yc (Nat.beq sz ts.length && Nat.ble 1 sz && Nat.beq sz' ts.length && Nat.beq l0 0) (Yez tm lo 0 fun l => Yez tm hi n fun h => Need (decide (l <= h) && decide (h <= xs.length)) (k (.rwp id ts.length l (h - l)) [(id, .arr T' ts xs)] [] []))
    | _ => Stuck 624)
  | none => Stuck 625)
theorem Yne {c : Cx} (ht : TabOk c.P c.tt) {T id sz' l0 n : Nat} {x : Operand} {lo hi : Option Operand} {hp : Heap} {k : KE} (hx : At tm x (.rwp id sz' l0 n)) (h : Yk4 c T tm id sz' l0 n lo hi hp k) : Res1 c.P { dst, op := .slice T x lo hi none, type, pos, after, guard } tm hp k := by
 unfold Yk4 at h;have h1 := Yl ht h
 split at h1
 ·rename_i e sz by_ zs hs;obtain ⟨it, hl, h2⟩ := Yf h1
  split at h2
  ·obtain ⟨h3, h4⟩ := Ya h2;simp only [Bool.and_eq_true, Nat.ble_eq, Yd] at h3;obtain ⟨⟨⟨h31, h32⟩, rfl⟩, rfl⟩ := h3;obtain ⟨l, h5, hlo⟩ := Ybj h4;obtain ⟨hh, h6, hhi⟩ := Ybj h5;obtain ⟨h8, h9⟩ := h6;simp only [Bool.and_eq_true, decide_eq_true_eq] at h8;exact ⟨_, _, _, _, h9, .one hl, Yx, Yxt hs h31 (by omega) hx hlo hhi h8.1 h8.2⟩
  ·exact h2.elim
 ·exact h1.elim
def Yiz (c : Cx) (T id sz l m id2 sz2 l2 m2 : Nat) (hp : Heap) (k : KE) : Prop :=
 tiK c.tt T fun ti => (match ti.slice with
  | some (e, sz', by_, zs) => Yv hp id fun it => (match it with
    | .arr T' ts xs => Yc (Nat.beq id id2 && Nat.beq sz' ts.length && Nat.ble 1 sz' && Nat.beq sz ts.length && Nat.beq sz2 ts.length && Nat.beq l 0) (Need (decide (m + m2 <= xs.length) && decide (l2 + m2 <= xs.length)) (k (.rwp id ts.length 0 (m + m2)) [(id, .arr T' ts xs)] [(id, .arr T' ts (apD xs m l2 m2))] []))
    | _ => Stuck 626)
  | none => Stuck 627)
theorem Yla {c : Cx} (ht : TabOk c.P c.tt) {T id sz l m id2 sz2 l2 m2 : Nat} {s x : Operand} {hp : Heap} {k : KE} (hs : At tm s (.rwp id sz l m)) (hx : At tm x (.rwp id2 sz2 l2 m2)) (h : Yiz c T id sz l m id2 sz2 l2 m2 hp k) : Res1 c.P { dst, op := .call { callee := .builtin .append, args := #[s, x], argTypes := #[T, T] }, type, pos, after, guard } tm hp k := by
 unfold Yiz at h;have h1 := Yl ht h
 split at h1
 ·rename_i e sz' by_ zs hsl;obtain ⟨it, hl, h2⟩ := Yf h1
  split at h2
  ·obtain ⟨h3, h4⟩ := Ya h2;simp only [Bool.and_eq_true, Nat.ble_eq, Yd] at h3;obtain ⟨⟨⟨⟨⟨rfl, rfl⟩, h32⟩, rfl⟩, rfl⟩, rfl⟩ := h3;obtain ⟨h8, h9⟩ := h4;simp only [Bool.and_eq_true, decide_eq_true_eq] at h8;exact ⟨_, _, _, _, h9, .one hl, fun i hi => by simpa [keys] using hi, Ys9 hsl (by omega) hs hx h8.1 h8.2⟩
  ·exact h2.elim
 ·exact h1.elim
def Ypy (c : Cx) (T : Nat) (x : AV) (hp : Heap) (k : KE) : Prop :=
 match x with
 | .rwp id sz l m => tiK c.tt T fun ti => (match ti.slice with
  | some (e, sz', by_, zs) => Yv hp id fun it => (match it with
    | .arr T' ts xs => tysK zs fun ts' => Yc (Yb4.sameTs ts' ts && Nat.beq sz' ts.length && Nat.ble 1 sz' && Nat.beq sz ts.length) (Need (decide (l + m <= xs.length)) (k (.v (.tuple #[])) [(id, .arr T' ts xs)] [(id, .arr T' ts (clD xs l m (Ybq ts)))] []))
    | _ => Stuck 628)
  | none => Stuck 629)
 | _ => Stuck 630
theorem Ypx {c : Cx} (ht : TabOk c.P c.tt) {T : Nat} {xv : AV} {x : Operand} {hp : Heap} {k : KE} (hx : At tm x xv) (h : Ypy c T xv hp k) : Res1 c.P { dst, op := .call { callee := .builtin .clear, args := #[x], argTypes := #[T] }, type, pos, after, guard } tm hp k := by
 unfold Ypy at h
 split at h
 ·have h1 := Yl ht h
  split at h1
  ·rename_i e sz' by_ zs hsl;obtain ⟨it, hl, h2⟩ := Yf h1
   split at h2
   ·obtain ⟨ts', h3, h4, h5⟩ := Yeo h2;obtain ⟨h6, h7⟩ := Ya h3;simp only [Bool.and_eq_true, Nat.ble_eq, Yd] at h6;obtain ⟨⟨⟨h61, rfl⟩, h63⟩, rfl⟩ := h6;obtain ⟨rfl, _⟩ := Y6 h61;obtain ⟨h8, h9⟩ := h7;exact ⟨_, _, _, _, h9, .one hl, fun i hi => by simpa [keys] using hi, Yu4 hsl h4 h5 (by omega) hx (of_decide_eq_true h8)⟩
   ·exact h2.elim
  ·exact h1.elim
 ·exact h.elim
end
def isArr (hp : Heap) (s : AV) : Bool := match s with | .rw id => (match look hp id with | some (.arr _ _ _) => true | _ => false) | _ => false
def Yz1 (hp : Heap) (s : AV) : Bool := match s with | .rwp id _ _ _ => (match look hp id with | some (.arr _ _ _) => true | _ => false) | _ => false
noncomputable def Yns (c : Cx) (o : Oper) (tm : List AV) (hp : Heap) (k kp : KE) : Prop :=
 match o.op with
 | .slice T x lo hi mx => (match mx, hi with
  | some mx, some hi => evK tm x fun s => (match isArr hp s with | true => Yk5 c T (o.dst.getD 0) tm s lo hi mx hp k | false => Yfi c o tm hp k kp)
  | none, hi => evK tm x fun s => (match Yz1 hp s with | true => (match s with | .rwp id sz l n => Yk4 c T tm id sz l n lo hi hp k | _ => Stuck 631) | false => Yfi c o tm hp k kp)
  | _, _ => Yfi c o tm hp k kp)
 | .call cl => (match cl.callee with
  | .builtin b => (match b, cl.args.toList with
   | .append, [s, x] => evK tm s fun s => (match Yz1 hp s with
    | true => evK tm x fun x => (match s, x, cl.argTypes.toList with | .rwp id sz l m, .rwp id2 sz2 l2 m2, [T, T'] => Yc (Nat.beq T T') (Yiz c T id sz l m id2 sz2 l2 m2 hp k) | _, _, _ => Stuck 632)
    | false => Yfi c o tm hp k kp)
   | .clear, [x] => evK tm x fun x => (match Yz1 hp x with
    | true => (match cl.argTypes.toList with | [T] => Ypy c T x hp k | _ => Stuck 633)
    | false => Yfi c o tm hp k kp)
   | _, _ => Yfi c o tm hp k kp)
  | _ => Yfi c o tm hp k kp)
 | _ => Yfi c o tm hp k kp
theorem Yqz {c : Cx} {o : Oper} {tm : List AV} {hp : Heap} {k kp : KE} (hc : HandOk c) (h : Yns c o tm hp k kp) : OpRes c o tm hp k kp := by
 have old : Yfi c o tm hp k kp -> OpRes c o tm hp k kp := fun h => Yq0 hc h;obtain ⟨dst, op, type, pos, after, guard⟩ := o;unfold Yns at h
 split at h
 ·rename_i hop;dsimp only at hop; subst hop
  split at h
  ·obtain ⟨a, ja, hx, h1⟩ := Ye h
   split at h1
   ·exact (Yng hc.tab hx h1).op
   ·exact old h1
  ·obtain ⟨a, ja, hx, h1⟩ := Ye h
   split at h1
   ·split at h1
    ·exact (Yne hc.tab hx h1).op
    ·exact h1.elim
   ·exact old h1
  ·exact old h
 ·rename_i cl hop;dsimp only at hop; subst hop;obtain ⟨callee, ⟨args⟩, ⟨tys⟩⟩ := cl;dsimp only at h
  split at h
  ·split at h
   ·rename_i s x;obtain ⟨a, ja, hx, h1⟩ := Ye h
    split at h1
    ·obtain ⟨b, jb, hy, h2⟩ := Ye h1
     split at h2
     ·obtain ⟨h3, h4⟩ := Ya h2;obtain rfl := Yd.1 h3;exact (Yla hc.tab hx hy h4).op
     ·exact h2.elim
    ·exact old h1
   ·rename_i x;obtain ⟨a, ja, hx, h1⟩ := Ye h
    split at h1
    ·split at h1
     ·exact (Ypx hc.tab hx h1).op
     ·exact h1.elim
    ·exact old h1
   ·exact old h
  ·exact old h
 ·exact old h
end Go.Proofs.Ytfbhampnigdaaaa
namespace Go.Proofs.Ytfbhampnigdaaaa
open Go.RowKit
set_option maxRecDepth 100000
set_option maxHeartbeats 1600000
variable [InW]
section
variable {P : Program} {tm : List AV} {dst : Option Tmp} {type : TypeId} {pos : String} {after : Array Edge} {guard : Option (Nat × Bool)}
def rI (r : List Cl) (k : Nat) : Int := (r.getD k .z).int
def key6 (r q : List Cl) : Prop := rI r 0 = rI q 0 /\ rI r 1 = rI q 1 /\ rI r 2 = rI q 2 /\ rI r 3 = rI q 3 /\ rI r 4 = rI q 4 /\ rI r 5 = rI q 5
instance (r q : List Cl) : Decidable (key6 r q) := by unfold key6; infer_instance
def row7 (q : List Cl) (v : Int) : List Cl := [.i (rI q 0), .i (rI q 1), .i (rI q 2), .i (rI q 3), .i (rI q 4), .i (rI q 5), .i v]
def hasP : Dt -> List Cl -> Bool
 | [], _ => false
 | r :: es, q => if key6 r q then true else hasP es q
def getP : Dt -> List Cl -> Int
 | [], _ => 0
 | r :: es, q => if key6 r q then rI r 6 else getP es q
def setP : Dt -> List Cl -> Int -> Dt
 | [], q, v => [row7 q v]
 | r :: es, q, v => if key6 r q then row7 q v :: es else r :: setP es q v
def intB (P : Program) (e : TypeId) : Bool := match P.underlying e with | some (.int .i64) => (match P.info? e with | some i => decide (i.size = 1) | none => false) | _ => false
def Yux (P : Program) (T : TypeId) : Bool :=
 match P.underlying T with
 | some (.array n e) => decide (n = 4) && intB P e && (match P.info? T with | some i => decide (i.size = 4) | none => false)
 | _ => false
def sixB (P : Program) (T : TypeId) : Bool :=
 match P.underlying T with
 | some (.struct fs) => (match fs.toList with
  | [f0, f1, f2] => f0.name != "_" && f1.name != "_" && f2.name != "_" && intB P f0.type && intB P f1.type && Yux P f2.type && decide (f0.offset = 0) && decide (f1.offset = 1) && decide (f2.offset = 2) && !P.stoodInHeld T
  | _ => false)
 | _ => false
theorem Yf3 {e : TypeId} (h : intB P e = true) : P.underlying e = some (.int .i64) /\ ∃ i, P.info? e = some i /\ i.size = 1 := by
 unfold intB at h
 split at h
 ·rename_i hu
  split at h
  ·rename_i i hi;exact ⟨hu, i, hi, of_decide_eq_true h⟩
  ·cases h
 ·cases h
theorem Yjf {T : TypeId} (h : Yux P T = true) : ∃ e i, P.underlying T = some (.array 4 e) /\ intB P e = true /\ P.info? T = some i /\ i.size = 4 := by
 unfold Yux at h
 split at h
 ·rename_i n e hu;simp only [Bool.and_eq_true, decide_eq_true_eq] at h;obtain ⟨⟨rfl, h1⟩, h⟩ := h
  split at h
  ·rename_i i hi;exact ⟨e, i, hu, h1, hi, of_decide_eq_true h⟩
  ·cases h
 ·cases h
theorem Ylg {T : TypeId} (h : sixB P T = true) : ∃ fs f0 f1 f2, P.underlying T = some (.struct fs) /\ fs.toList = [f0, f1, f2] /\ f0.name ≠ "_" /\ f1.name ≠ "_" /\ f2.name ≠ "_" /\ intB P f0.type = true /\ intB P f1.type = true /\ Yux P f2.type = true /\ f0.offset = 0 /\ f1.offset = 1 /\ f2.offset = 2 /\ P.stoodInHeld T = false := by
 unfold sixB at h
 split at h
 ·rename_i fs hu
  split at h
  ·rename_i f0 f1 f2 hl;simp only [Bool.and_eq_true, decide_eq_true_eq, Bool.not_eq_true', bne_iff_ne, ne_eq] at h;obtain ⟨⟨⟨⟨⟨⟨⟨⟨⟨h0, h1⟩, h2⟩, h3⟩, h4⟩, h5⟩, h6⟩, h7⟩, h8⟩, h9⟩ := h;exact ⟨fs, f0, f1, f2, hu, hl, h0, h1, h2, h3, h4, h5, h6, h7, h8, h9⟩
  ·cases h
 ·cases h
theorem Ycs {e : TypeId} (h : intB P e = true) (cs : Array Value) (j : Nat) (v : Value) (hv : cs[j]? = some v) (w : World) : (part e cs j).run P w = .ok v w := by
 obtain ⟨hk, _⟩ := Yf3 h;have ha : (isAgg e).run P w = .ok false w := Yct (by unfold Ye0; rw [hk]; rfl) w;simp only [part, Sem.run_bind, ha, Result.andThen_ok, Bool.false_eq_true, if_false, hv, Sem.run_pure]
theorem Ylj {T : TypeId} (h : Yux P T = true) (cs : Array Value) (j : Nat) (w : World) : (part T cs j).run P w = .ok (.agg (cs.extract j (j + 4))) w := by
 obtain ⟨e, i, hu, _, hi, hs⟩ := Yjf h;have ha : (isAgg T).run P w = .ok true w := Yct (by unfold Ye0; rw [hu]; rfl) w;have hz : (sizeOf T).run P w = .ok 4 w := Y9 (by unfold Ycf; rw [hi]; simp [hs]) w;simp only [part, Sem.run_bind, ha, Result.andThen_ok, if_true, hz, Sem.run_pure]
def keyV (q : List Cl) : Value := .agg #[.int .i64 (rI q 0), .int .i64 (rI q 1), .int .i64 (rI q 2), .int .i64 (rI q 3), .int .i64 (rI q 4), .int .i64 (rI q 5)]
theorem Yt7 {e : TypeId} (h : intB P e = true) (a b : Int) (d : Nat) (w : World) : (Op.equalIn (d + 1) e (.int .i64 a) (.int .i64 b)).run P w = .ok (a == b) w := run_equalIn_int w d e _ _ _ _ (Yf3 h).1
theorem Y30 {T : TypeId} (h : Yux P T = true) (a0 a1 a2 a3 b0 b1 b2 b3 : Int) (d : Nat) (w : World) : (Op.equalIn (d + 2) T (.agg #[.int .i64 a0, .int .i64 a1, .int .i64 a2, .int .i64 a3]) (.agg #[.int .i64 b0, .int .i64 b1, .int .i64 b2, .int .i64 b3])).run P w = .ok (decide (a0 = b0 /\ a1 = b1 /\ a2 = b2 /\ a3 = b3)) w := by
 obtain ⟨e, i, hu, he, hi, hs⟩ := Yjf h;obtain ⟨_, j, hj, hjs⟩ := Yf3 he;have hc : P.cellsOf e = 1 := by unfold Program.cellsOf; simp [hj, hjs]
 have pa : ∀ (k : Nat) (v : Value), (#[.int .i64 a0, .int .i64 a1, .int .i64 a2, .int .i64 a3] : Array Value)[k]? = some v -> (part e #[.int .i64 a0, .int .i64 a1, .int .i64 a2, .int .i64 a3] k).run P w = .ok v w := fun k v hv => Ycs he _ k v hv w;have pb : ∀ (k : Nat) (v : Value), (#[.int .i64 b0, .int .i64 b1, .int .i64 b2, .int .i64 b3] : Array Value)[k]? = some v -> (part e #[.int .i64 b0, .int .i64 b1, .int .i64 b2, .int .i64 b3] k).run P w = .ok v w := fun k v hv => Ycs he _ k v hv w;have q := fun a b => Yt7 he a b d w;rw [show d + 2 = (d + 1) + 1 from rfl, run_equalIn_array w (d + 1) _ _ hu hj, hc, show List.range 4 = [0, 1, 2, 3] from rfl];simp only [Op.eqItems, Nat.zero_mul, Nat.one_mul, Nat.mul_one, Sem.run_bind, Sem.run_ite, Sem.run_pure, pa 0 (.int .i64 a0) rfl, pa 1 (.int .i64 a1) rfl, pa 2 (.int .i64 a2) rfl, pa 3 (.int .i64 a3) rfl, pb 0 (.int .i64 b0) rfl, pb 1 (.int .i64 b1) rfl, pb 2 (.int .i64 b2) rfl, pb 3 (.int .i64 b3) rfl, q, Result.andThen_ok]
 by_cases c0 : a0 = b0 <;> by_cases c1 : a1 = b1 <;> by_cases c2 : a2 = b2 <;> by_cases c3 : a3 = b3 <;> simp [c0, c1, c2, c3, Sem.run_pure]
theorem Yyt {T : TypeId} (h : sixB P T = true) (p q : List Cl) (w : World) : (Op.equal T (keyV p) (keyV q)).run P w = .ok (decide (key6 p q)) w := by
 obtain ⟨fs, f0, f1, f2, hu, hl, n0, n1, n2, t0, t1, t2, o0, o1, o2, hst⟩ := Ylg h;have hu' : P.underlying T = some (.struct (P.fieldsOf T)) := by unfold Program.fieldsOf; rw [hu]
 have hf : (P.fieldsOf T).toList = [f0, f1, f2] := by unfold Program.fieldsOf; rw [hu]; exact hl
 show (Op.equalIn (9999 + 1) T _ _).run P w = _
 unfold keyV;rw [run_equalIn_struct w 9999 T _ _ hu' hst, hf];have a0 := Ycs t0 #[.int .i64 (rI p 0), .int .i64 (rI p 1), .int .i64 (rI p 2), .int .i64 (rI p 3), .int .i64 (rI p 4), .int .i64 (rI p 5)] 0 (.int .i64 (rI p 0)) rfl w;have a1 := Ycs t1 #[.int .i64 (rI p 0), .int .i64 (rI p 1), .int .i64 (rI p 2), .int .i64 (rI p 3), .int .i64 (rI p 4), .int .i64 (rI p 5)] 1 (.int .i64 (rI p 1)) rfl w;have a2 := Ylj t2 #[.int .i64 (rI p 0), .int .i64 (rI p 1), .int .i64 (rI p 2), .int .i64 (rI p 3), .int .i64 (rI p 4), .int .i64 (rI p 5)] 2 w;have b0 := Ycs t0 #[.int .i64 (rI q 0), .int .i64 (rI q 1), .int .i64 (rI q 2), .int .i64 (rI q 3), .int .i64 (rI q 4), .int .i64 (rI q 5)] 0 (.int .i64 (rI q 0)) rfl w;have b1 := Ycs t1 #[.int .i64 (rI q 0), .int .i64 (rI q 1), .int .i64 (rI q 2), .int .i64 (rI q 3), .int .i64 (rI q 4), .int .i64 (rI q 5)] 1 (.int .i64 (rI q 1)) rfl w;have b2 := Ylj t2 #[.int .i64 (rI q 0), .int .i64 (rI q 1), .int .i64 (rI q 2), .int .i64 (rI q 3), .int .i64 (rI q 4), .int .i64 (rI q 5)] 2 w;have e2 : ∀ r : List Cl, (#[Value.int .i64 (rI r 0), .int .i64 (rI r 1), .int .i64 (rI r 2), .int .i64 (rI r 3), .int .i64 (rI r 4), .int .i64 (rI r 5)] : Array Value).extract 2 (2 + 4) = #[.int .i64 (rI r 2), .int .i64 (rI r 3), .int .i64 (rI r 4), .int .i64 (rI r 5)] := fun r => by simp
 rw [e2] at a2 b2;have q4 := Y30 t2 (rI p 2) (rI p 3) (rI p 4) (rI p 5) (rI q 2) (rI q 3) (rI q 4) (rI q 5) 9997 w;simp only [Op.eqFields, n0, n1, n2, o0, o1, o2, ne_eq, not_false_eq_true, if_true, Sem.run_ite, Sem.run_bind, a0, a1, a2, b0, b1, b2, Yt7 t0 _ _ 9998 w, Yt7 t1 _ _ 9998 w, q4, Result.andThen_ok];unfold key6
 by_cases c0 : rI p 0 = rI q 0 <;> by_cases c1 : rI p 1 = rI q 1 <;> by_cases c2 : rI p 2 = rI q 2 /\ rI p 3 = rI q 3 /\ rI p 4 = rI q 4 /\ rI p 5 = rI q 5 <;> simp [c0, c1, c2, Sem.run_pure]
theorem Yi1 {e : TypeId} (h : intB P e = true) (a : Int) (em : Bool) (n : Nat) (w : World) : (Instr.checkKey em (n + 1) e (.int .i64 a)).run P w = .ok () w := MapKept.run_checkKey (w := w) (Yf3 h).1 (by simp [MapKept.IsKey]) em n
theorem Ywy {T : TypeId} (h : Yux P T = true) (a0 a1 a2 a3 : Int) (em : Bool) (n : Nat) (w : World) : (Instr.checkKey em (n + 2) T (.agg #[.int .i64 a0, .int .i64 a1, .int .i64 a2, .int .i64 a3])).run P w = .ok () w := by
 obtain ⟨e, i, hu, he, hi, hs⟩ := Yjf h;obtain ⟨_, j, hj, hjs⟩ := Yf3 he;have hsz : (sizeOf e).run P w = .ok 1 w := Y9 (by unfold Ycf; rw [hj]; simp [hjs]) w;have pa : ∀ (k : Nat) (v : Value), (#[.int .i64 a0, .int .i64 a1, .int .i64 a2, .int .i64 a3] : Array Value)[k]? = some v -> (part e #[.int .i64 a0, .int .i64 a1, .int .i64 a2, .int .i64 a3] k).run P w = .ok v w := fun k v hv => Ycs he _ k v hv w;have c := fun a => Yi1 he a em n w;rw [show n + 2 = (n + 1) + 1 from rfl];unfold Instr.checkKey;simp only [Sem.run_bind, run_underlying hu, Result.andThen_ok];simp only [Std.Legacy.Range.forIn_eq_forIn_range', Std.Legacy.Range.size, Nat.sub_zero, Nat.add_one_sub_one, Nat.div_one];simp only [show List.range' 0 4 = [0, 1, 2, 3] from rfl, List.forIn_cons, List.forIn_nil, Sem.run_bind, hsz, Result.andThen_ok, Nat.zero_mul, Nat.one_mul, Nat.mul_one, pa 0 (.int .i64 a0) rfl, pa 1 (.int .i64 a1) rfl, pa 2 (.int .i64 a2) rfl, pa 3 (.int .i64 a3) rfl, c, Sem.run_pure]
theorem Yoc {T : TypeId} (h : sixB P T = true) (q : List Cl) (em : Bool) (w : World) : (Instr.checkKey em 10000 T (keyV q)).run P w = .ok () w := by
 obtain ⟨fs, f0, f1, f2, hu, hl, n0, n1, n2, t0, t1, t2, o0, o1, o2, hst⟩ := Ylg h;have a0 := Ycs t0 #[.int .i64 (rI q 0), .int .i64 (rI q 1), .int .i64 (rI q 2), .int .i64 (rI q 3), .int .i64 (rI q 4), .int .i64 (rI q 5)] 0 (.int .i64 (rI q 0)) rfl w;have a1 := Ycs t1 #[.int .i64 (rI q 0), .int .i64 (rI q 1), .int .i64 (rI q 2), .int .i64 (rI q 3), .int .i64 (rI q 4), .int .i64 (rI q 5)] 1 (.int .i64 (rI q 1)) rfl w;have a2 := Ylj t2 #[.int .i64 (rI q 0), .int .i64 (rI q 1), .int .i64 (rI q 2), .int .i64 (rI q 3), .int .i64 (rI q 4), .int .i64 (rI q 5)] 2 w;have e2 : (#[Value.int .i64 (rI q 0), .int .i64 (rI q 1), .int .i64 (rI q 2), .int .i64 (rI q 3), .int .i64 (rI q 4), .int .i64 (rI q 5)] : Array Value).extract 2 (2 + 4) = #[.int .i64 (rI q 2), .int .i64 (rI q 3), .int .i64 (rI q 4), .int .i64 (rI q 5)] := by simp
 rw [e2] at a2;have q4 := Ywy t2 (rI q 2) (rI q 3) (rI q 4) (rI q 5) em 9997 w;have q0 := Yi1 t0 (rI q 0) em 9998 w;have q1 := Yi1 t1 (rI q 1) em 9998 w;unfold keyV;rw [show (10000 : Nat) = 9999 + 1 from rfl];unfold Instr.checkKey;simp only [Sem.run_bind, run_underlying hu, Result.andThen_ok];rw [<- Array.forIn_toList, hl];simp only [List.forIn_cons, List.forIn_nil, n0, n1, n2, o0, o1, o2, ne_eq, not_false_eq_true, if_true, Sem.run_ite, Sem.run_bind, a0, a1, a2, q0, q1, q4, Result.andThen_ok, Sem.run_pure]
theorem Ywa : ∀ (es : Dt) (n : Nat) (q : List Cl) (v : Int), entP n (es ++ [row7 q v]) = entP n es ++ [⟨keyV q, .int .i64 v, n + es.length⟩]
 | [], n, q, v => rfl
 | p :: es, n, q, v => by simp [entP, Ywa es (n + 1) q v]; omega
theorem Yv9 : ∀ (es : Dt) (n j : Nat), (entP n es)[j]? = (es[j]?).map fun r => ⟨keyV r, .int .i64 (rI r 6), n + j⟩
 | [], _, _ => by simp [entP]
 | p :: es, n, 0 => by simp [entP]; exact ⟨rfl, rfl⟩
 | p :: es, n, j + 1 => by simp [entP, Yv9 es (n + 1) j, show n + 1 + j = n + (j + 1) by omega]
theorem Ymm : ∀ (es : Dt) (n j : Nat) (q : List Cl) (v : Int), (entP n es).modify j (fun e => { e with key := keyV q, val := .int .i64 v }) = entP n (es.set j (row7 q v))
 | [], n, j, q, v => by simp [entP]
 | p :: es, n, 0, q, v => by simp [entP]; exact ⟨rfl, rfl⟩
 | p :: es, n, j + 1, q, v => by simp [entP, Ymm es (n + 1) j q v]
theorem Ysq {r q : List Cl} (h : key6 r q) : key6 q r := ⟨h.1.symm, h.2.1.symm, h.2.2.1.symm, h.2.2.2.1.symm, h.2.2.2.2.1.symm, h.2.2.2.2.2.symm⟩
theorem Y4h {r q : List Cl} (h : key6 r q) : keyV r = keyV q := by
 obtain ⟨h0, h1, h2, h3, h4, h5⟩ := h;unfold keyV;rw [h0, h1, h2, h3, h4, h5]
theorem Yqr {T : TypeId} (h : sixB P T = true) (q : List Cl) (w : World) : ∀ (es : Dt) (n i : Nat),
  (∃ j, j < es.length /\ (Instr.findAsking T (keyV q) (entP n es) i).run P w = .ok (some (i + j, .int .i64 (getP es q))) w /\ hasP es q = true /\ (∃ r, es[j]? = some r /\ key6 r q) /\ ∀ v, setP es q v = es.set j (row7 q v)) \/
  ((Instr.findAsking T (keyV q) (entP n es) i).run P w = .ok none w /\ hasP es q = false /\ getP es q = 0 /\ ∀ v, setP es q v = es ++ [row7 q v])
 | [], n, i => .inr ⟨rfl, rfl, rfl, fun v => rfl⟩
 | r :: es, n, i => by
  have hq : (Op.equal T (keyV q) (keyV r)).run P w = .ok (decide (key6 q r)) w := Yyt h _ _ w;have hstep : (Instr.findAsking T (keyV q) (entP n (r :: es)) i).run P w = (if key6 q r then .ok (some (i, .int .i64 (rI r 6))) w else (Instr.findAsking T (keyV q) (entP (n + 1) es) (i + 1)).run P w) := by
   have e0 : Instr.findAsking T (keyV q) (entP n (r :: es)) i = (Op.equal T (keyV q) (keyV r) >>= fun c => if c then pure (some (i, .int .i64 (rI r 6))) else Instr.findAsking T (keyV q) (entP (n + 1) es) (i + 1)) := rfl;rw [e0];simp only [Sem.run_bind, hq, Result.andThen_ok]
   by_cases c : key6 q r
   ·rw [if_pos c]; simp [c, Sem.run_pure]
   ·rw [if_neg c]; simp [c]
  rw [hstep]
  by_cases c : key6 r q
  ·left;refine ⟨0, by simp, ?_, by simp [hasP, c], ⟨r, rfl, c⟩, fun v => by simp [setP, c]⟩;rw [if_pos (Ysq c)];simp only [getP, if_pos c, Nat.add_zero]
  ·rw [if_neg (fun x => c (Ysq x))];rcases Yqr h q w es (n + 1) (i + 1) with ⟨j, h0, h1, h2, h3, h4⟩ | ⟨h1, h2, h3, h5⟩
   ·left;refine ⟨j + 1, by simpa using h0, ?_, by simp [hasP, c, h2], by simpa using h3, fun v => by simp [setP, c, h4 v]⟩;rw [h1];simp only [getP, if_neg c, show i + 1 + j = i + (j + 1) by omega]
   ·right;refine ⟨h1, by simp [hasP, c, h2], by simp [getP, c, h3], fun v => by simp [setP, c, h5 v]⟩
theorem Yrt {T : TypeId} (h : sixB P T = true) (q : List Cl) (es : Dt) (n : Nat) (w : World) : (Instr.findKey T (keyV q) (entP n es)).run P w = (Instr.findAsking T (keyV q) (entP n es) 0).run P w := by
 obtain ⟨fs, f0, f1, f2, hu, _⟩ := Ylg h;unfold Instr.findKey;simp only [Sem.run_bind, run_underlying hu, Result.andThen_ok];cases es with
 | nil => rfl
 | cons r es => rfl
def Yse (P : Program) (T : TypeId) : Bool :=
 match P.underlying T with
 | some (.map key elem) => sixB P key && (match P.info? elem with
   | some i => (match i.zero with | some (.int .i64 z0) => decide (z0 = 0) | _ => false)
   | none => false)
 | _ => false
theorem Ygo {T : TypeId} (h : Yse P T = true) : ∃ key elem i, P.underlying T = some (.map key elem) /\ sixB P key = true /\ P.info? elem = some i /\ i.zero = some (.int .i64 0) := by
 unfold Yse at h
 split at h
 ·rename_i key elem hu;simp only [Bool.and_eq_true] at h;obtain ⟨h1, h2⟩ := h
  split at h2
  ·rename_i i hi
   split at h2
   ·rename_i z0 hz;rw [decide_eq_true_eq] at h2;subst h2;exact ⟨key, elem, i, hu, h1, hi, hz⟩
   ·cases h2
  ·cases h2
 ·cases h
theorem Y2f {T : TypeId} (h : Yse P T = true) (es : Dt) (q : List Cl) (w : World) : (Yhg T (entP 0 es).toArray (keyV q) true).run P w = .ok (.tuple #[.int .i64 (getP es q), .bool (hasP es q)]) w := by
 obtain ⟨key, elem, i, hu, hk, hi, hz⟩ := Ygo h;have hc := Yoc hk q (entP 0 es).toArray.isEmpty w;unfold Yhg;have hf := Yrt hk q es 0 w;rcases Yqr hk q w es 0 0 with ⟨j, h0, h1, h2, h3, h4⟩ | ⟨h1, h2, h3, h5⟩
 ·rw [h1] at hf;simp only [Sem.run_bind, run_underlying hu w, Result.andThen_ok, hc, hf, Sem.run_pure, if_true, h2]
 ·rw [h1] at hf;have hzr : (zeroValue elem).run P w = .ok (.int .i64 0) w := by simp [zeroValue, typeInfo, hi, hz]
  simp only [Sem.run_bind, run_underlying hu w, Result.andThen_ok, hc, hf, Sem.run_pure, if_true, hzr, h2, h3]
theorem Yt6 (q : List Cl) (w : World) : (Instr.keyThatStays (keyV q) (keyV q)).run P w = .ok (keyV q) w := by
 have : Instr.sameBits 10000 (keyV q) (keyV q) = true := by
  unfold keyV;simp [Instr.sameBits]
 unfold Instr.keyThatStays;rw [if_pos this];rfl
theorem Y1m {T : TypeId} (h : Yse P T = true) (es : Dt) (q : List Cl) (v : Int) (w : World) : (Yg8 T (entP 0 es).toArray es.length (keyV q) (.int .i64 v)).run P w = .ok ((entP 0 (setP es q v)).toArray, (setP es q v).length) w := by
 obtain ⟨key, elem, i, hu, hk, hi, hz⟩ := Ygo h;have hc : (Instr.checkKey false 10000 key (keyV q)).run P w = .ok () w := Yoc hk q false w;unfold Yg8;have hf := Yrt hk q es 0 w;rcases Yqr hk q w es 0 0 with ⟨j, h0, h1, h2, ⟨r, h3, h31⟩, h4⟩ | ⟨h1, h2, h3, h5⟩
 ·rw [h1, Nat.zero_add] at hf;have hget : ((entP 0 es).toArray[j]?.map (·.key)).getD (keyV q) = keyV q := by
   simp only [List.getElem?_toArray, Yv9, h3];simp [Y4h h31]
  have hs := Yt6 (P := P) q w;have hm : ((entP 0 es).toArray.modify j fun e => { e with key := keyV q, val := .int .i64 v }) = (entP 0 (setP es q v)).toArray := by
   rw [h4 v, <- Ymm];apply Array.ext';simp
  have hlen : (setP es q v).length = es.length := by rw [h4 v]; simp
  simp only [Sem.run_bind, run_underlying hu w, Result.andThen_ok, hc, hf, hget, hs, Sem.run_pure, hm, hlen]
 ·rw [h1] at hf;have hp : (entP 0 es).toArray.push { key := keyV q, val := .int .i64 v, born := es.length } = (entP 0 (setP es q v)).toArray := by
   rw [h5 v, Ywa];simp
  have hlen : (setP es q v).length = es.length + 1 := by rw [h5 v]; simp
  simp only [Sem.run_bind, run_underlying hu w, Result.andThen_ok, hc, hf, Sem.run_pure, hp, hlen]
theorem Y0m {T : TypeId} {x ix : Operand} {id : Nat} {es : Dt} {iv : AV} {q : List Cl} (h : Yse P T = true) (hx : At tm x (.mp id)) (hi : At tm ix iv) (hj : iv.rd = true) (hk : ∀ φ, iv.conc φ = keyV q) :
  Does P { dst, op := .lookup T x ix true, type, pos, after, guard } tm [(id, .obj (.mpP es))] (.tup [.si .i64 (getP es q), .sb (hasP es q)]) [] [] := by
 obtain ⟨key, elem, i, hu, _⟩ := Ygo h;exact fun φ w0 M R a' w K Q ho hn hS kk => Ywd (v := .tuple #[.int .i64 (getP es q), .bool (hasP es q)]) (es := entP 0 es) (clock := es.length) hu hx hi hj hk (fun w => Y2f h es q w) φ w0 M R a' w K Q ho (fun j hj => ⟨(hn j hj).1, (hn j hj).2⟩) hS kk
theorem Y0g {T : TypeId} {x ix y : Operand} {id : Nat} {es : Dt} {iv yv : AV} {q : List Cl} {v : Int} (h : Yse P T = true) (hx : At tm x (.mp id)) (hi : At tm ix iv) (hj : iv.rd = true) (hk : ∀ φ, iv.conc φ = keyV q) (hy : At tm y yv) (hyj : yv.rd = true) (hyk : ∀ φ, yv.conc φ = .int .i64 v) :
  Does P { dst, op := .mapUpdate T x ix y, type, pos, after, guard } tm [(id, .obj (.mpP es))] (.v undef) [(id, .obj (.mpP (setP es q v)))] [] := by
 obtain ⟨key, elem, i, hu, _⟩ := Ygo h;have := Ywc (P := P) (tm := tm) (dst := dst) (type := type) (pos := pos) (after := after) (guard := guard) (es := entP 0 es) (clock := es.length) (id := id) hu hx hi hj hk hy hyj hyk (r := ((entP 0 (setP es q v)).toArray, (setP es q v).length)) (fun w => Y1m h es q v w);exact fun φ w0 M R a' w K Q ho hn hS kk => this φ w0 M R a' w K Q ho (fun j hj => ⟨(hn j hj).1, (hn j hj).2⟩) hS (fun φ' w' hag hS' => kk φ' w' hag (by simpa [Yh, upd, Nat.beq_refl, Yb, It.conc, OI.obj] using hS'))
def Yqg (x : AV) (K : Int -> Prop) : Prop := intK x (fun k a => Yc (decide (k = .i64)) (K a)) (Stuck 640)
theorem Yc8 {x : AV} {K : Int -> Prop} (h : Yqg x K) : ∃ a, K a /\ ∀ φ, x.conc φ = .int .i64 a := by
 unfold Yqg at h;rcases Ycx h with ⟨k, a, h1, h2, _⟩ | h1
 ·obtain ⟨h3, h4⟩ := Ya h1;obtain rfl := of_decide_eq_true h3;exact ⟨a, h4, h2⟩
 ·exact h1.elim
def Y14 (x : AV) (K : List Cl -> Prop) : Prop :=
 match x with
 | .agg [a, b, c, d, e, f] => Yqg a fun a => Yqg b fun b => Yqg c fun c => Yqg d fun d => Yqg e fun e => Yqg f fun f => K [.i a, .i b, .i c, .i d, .i e, .i f]
 | _ => Stuck 643
theorem Yok {x : AV} {K : List Cl -> Prop} (h : Y14 x K) : ∃ q, K q /\ ∀ φ, x.conc φ = keyV q := by
 unfold Y14 at h
 split at h
 ·obtain ⟨a, h1, e1⟩ := Yc8 h;obtain ⟨b, h2, e2⟩ := Yc8 h1;obtain ⟨c, h3, e3⟩ := Yc8 h2;obtain ⟨d, h4, e4⟩ := Yc8 h3;obtain ⟨e, h5, e5⟩ := Yc8 h4;obtain ⟨f, h6, e6⟩ := Yc8 h5;exact ⟨_, h6, fun φ => by simp [AV.conc, AV.concL, e1 φ, e2 φ, e3 φ, e4 φ, e5 φ, e6 φ, keyV, rI, Cl.int]⟩
 ·exact h.elim
def Y5s (hp : Heap) (m : AV) : Bool := match m with | .mp id => (match look hp id with | some (.obj (.mpP _)) => true | _ => false) | _ => false
def Yiy (c : Cx) (T : TypeId) (ok : Bool) (m i : AV) (hp : Heap) (k : KE) : Prop :=
 match m with
 | .mp id => Yv hp id fun it => (match it with
  | .obj (.mpP es) => (match ok with
   | true => Y14 i fun q => Yc (Yse c.P T) (k (.tup [.si .i64 (getP es q), .sb (hasP es q)]) [(id, .obj (.mpP es))] [] [])
   | false => Stuck 644)
  | _ => Stuck 645)
 | _ => Stuck 646
theorem Yk6 {c : Cx} {T : TypeId} {ok : Bool} {m i : AV} {x ix : Operand} {hp : Heap} {k : KE} (hx : At tm x m) (hi : At tm ix i) (hj : i.rd = true) (h : Yiy c T ok m i hp k) : Res1 c.P { dst, op := .lookup T x ix ok, type, pos, after, guard } tm hp k := by
 unfold Yiy at h
 split at h
 ·obtain ⟨it, hl, h1⟩ := Yf h
  split at h1
  ·split at h1
   ·obtain ⟨q, h2, h3⟩ := Yok h1;obtain ⟨h4, h5⟩ := Ya h2;exact ⟨_, _, _, _, h5, .one hl, Yx, Y0m h4 hx hi hj h3⟩
   ·exact h1.elim
  ·exact h1.elim
 ·exact h.elim
def Yix (c : Cx) (T : TypeId) (m i v : AV) (hp : Heap) (k : KE) : Prop :=
 match m with
 | .mp id => Yv hp id fun it => (match it with
  | .obj (.mpP es) => Y14 i fun q => Yqg v fun x => Yc (Yse c.P T) (k (.v undef) [(id, .obj (.mpP es))] [(id, .obj (.mpP (setP es q x)))] [])
  | _ => Stuck 647)
 | _ => Stuck 648
theorem Yk2 {c : Cx} {T : TypeId} {m i v : AV} {x ix y : Operand} {hp : Heap} {k : KE} (hx : At tm x m) (hi : At tm ix i) (hj : i.rd = true) (hy : At tm y v) (hyj : v.rd = true) (h : Yix c T m i v hp k) : Res1 c.P { dst, op := .mapUpdate T x ix y, type, pos, after, guard } tm hp k := by
 unfold Yix at h
 split at h
 ·obtain ⟨it, hl, h1⟩ := Yf h
  split at h1
  ·obtain ⟨q, h2, h3⟩ := Yok h1;obtain ⟨u, h6, h7⟩ := Yc8 h2;obtain ⟨h4, h5⟩ := Ya h6;exact ⟨_, _, _, _, h5, .one hl, fun i hi => by simpa [keys] using hi, Y0g h4 hx hi hj h3 hy hyj h7⟩
  ·exact h1.elim
 ·exact h.elim
end
noncomputable def Yjq (c : Cx) (o : Oper) (tm : List AV) (hp : Heap) (k kp : KE) : Prop :=
 match o.op with
 | .lookup T x ix ok => evK tm x fun m => (match Y5s hp m with | true => evK tm ix fun i => Yiy c T ok m i hp k | false => Yns c o tm hp k kp)
 | .mapUpdate T x ix y => evK tm x fun m => (match Y5s hp m with | true => evK tm ix fun i => evK tm y fun v => Yix c T m i v hp k | false => Yns c o tm hp k kp)
 | _ => Yns c o tm hp k kp
theorem Yqy {c : Cx} {o : Oper} {tm : List AV} {hp : Heap} {k kp : KE} (hc : HandOk c) (h : Yjq c o tm hp k kp) : OpRes c o tm hp k kp := by
 have old : Yns c o tm hp k kp -> OpRes c o tm hp k kp := fun h => Yqz hc h;obtain ⟨dst, op, type, pos, after, guard⟩ := o;unfold Yjq at h
 split at h
 ·rename_i hop;dsimp only at hop; subst hop;obtain ⟨m, jm, hx, h1⟩ := Ye h
  split at h1
  ·obtain ⟨i, ji, hi, h2⟩ := Ye h1;exact (Yk6 hx hi ji h2).op
  ·exact old h1
 ·rename_i hop;dsimp only at hop; subst hop;obtain ⟨m, jm, hx, h1⟩ := Ye h
  split at h1
  ·obtain ⟨i, ji, hi, h2⟩ := Ye h1;obtain ⟨v, jv, hv, h3⟩ := Ye h2;exact (Yk2 hx hi ji hv jv h3).op
  ·exact old h1
 ·exact old h
end Go.Proofs.Ytfbhampnigdaaaa
namespace Go.Proofs.Ytfbhampnigdaaaa
open Go.RowKit
set_option maxRecDepth 100000
set_option maxHeartbeats 1600000
variable [InW]
section
variable {P : Program} {tm : List AV} {dst : Option Tmp} {type : TypeId} {pos : String} {after : Array Edge} {guard : Option (Nat × Bool)}
theorem Yxv {T : TypeId} {n sz off : Nat} {b : Bool} {x : Operand} {id : Nat} (ht : (mkTI P T).arr = some (n, sz, b)) (hx : At tm x (.ptr id off)) :
  Does P { dst, op := .slice T x none none none, type, pos, after, guard } tm [] (.slc id off n n) [] [] :=
 fun φ w0 M R a w K Q ho _ hS kk => by
  obtain ⟨e, hu, hs, _⟩ := Ye5 ht;have e1 := ho x (by simp [Op.operands]) _ hx (by simp);simp only [AV.conc] at e1;have hr : (Instr.sliceAt T (.pointer (some ⟨(φ id).b, off, none⟩)) none none none).run P w = .ok (.slice (some ⟨(φ id).b, off, none⟩) n n) w := by
   simp only [Instr.sliceAt, Sem.run_bind, run_underlying hu w, Result.andThen_ok, Instr.sureAddr, Instr.sliceBounds, Sem.run_pure, Y9 hs, Nat.zero_mul, Ym, Nat.add_zero, ite_self, Nat.sub_zero]
  rw [<- e1] at hr;unfold Oper.wp;rw [Ycc (lo := none) (hi := none) (mx := none) hr];have h3 := kk φ w (Agree.refl _ _) hS;simpa only [AV.conc, Oper.upon] using h3
def cpA (ys : Dt) : Nat -> Nat -> List AV
 | _, 0 => []
 | k, n + 1 => .si .i64 (cel ys k 0).int :: cpA ys (k + 1) n
theorem Yov (ys : Dt) : ∀ n k, (cpA ys k n).length = n
 | 0, _ => rfl
 | n + 1, k => by simp [cpA, Yov ys n]
theorem Ymq (ys : Dt) : ∀ n k φ, AV.concL φ (cpA ys k n) = Yj [.int .i64] ((ys.drop k).take n) ++ List.replicate (n - (ys.length - k)) (.int .i64 0)
 | 0, k, φ => by simp [cpA, AV.concL, Yj]
 | n + 1, k, φ => by
  rw [cpA, AV.concL, Ymq ys n (k + 1) φ]
  by_cases hk : k < ys.length
  ·rw [List.drop_eq_getElem_cons hk, List.take_succ_cons, Yj];have h1 : cel ys k 0 = (ys[k]).getD 0 .z := by simp [cel, List.getD_eq_getElem?_getD, hk]
   have h2 : n - (ys.length - (k + 1)) = n + 1 - (ys.length - k) := by omega
   rw [h2, h1];cases hl : ys[k] <;> simp [AV.conc, Yz, Ty.val]
  ·have h1 : cel ys k 0 = .z := by simp [cel, List.getD_eq_getElem?_getD, List.getElem?_eq_none (Nat.le_of_not_lt hk)]
   rw [List.drop_eq_nil_of_le (by omega), List.drop_eq_nil_of_le (by omega), h1];have h2 : n + 1 - (ys.length - k) = (n - (ys.length - (k + 1))) + 1 := by omega
   rw [h2, List.replicate_succ];simp [AV.conc, Yj, Cl.int]
def isZ : AV -> Bool
 | .v (.int .i64 (.ofNat 0)) => true
 | _ => false
theorem Y2k {x : AV} (h : isZ x = true) : x = .v (.int .i64 0) := by
 unfold isZ at h
 split at h
 ·rfl
 ·cases h
def zRun : List AV -> Nat -> Nat -> Bool
 | _, _, 0 => true
 | [], _, _ + 1 => false
 | _ :: xs, k + 1, n + 1 => zRun xs k (n + 1)
 | x :: xs, 0, n + 1 => isZ x && zRun xs 0 n
theorem Yks (φ : Phi) : ∀ {cs : List AV} {k n : Nat}, zRun cs k n = true -> (AV.concL φ cs).drop k = List.replicate n (.int .i64 0) ++ (AV.concL φ cs).drop (k + n)
 | cs, k, 0, _ => by simp
 | [], _, _ + 1, h => by simp [zRun] at h
 | _ :: xs, k + 1, n + 1, h => by
  simp only [AV.concL, List.drop_succ_cons, show k + 1 + (n + 1) = k + (n + 1) + 1 by omega];exact Yks φ (cs := xs) (k := k) (n := n + 1) (by simpa [zRun] using h)
 | x :: xs, 0, n + 1, h => by
  simp only [zRun, Bool.and_eq_true] at h;have h2 := Yks φ (cs := xs) (k := 0) (n := n) h.2;rw [Y2k h.1];simp only [AV.concL, AV.conc, List.drop_zero, Nat.zero_add, List.drop_succ_cons, List.replicate_succ, List.cons_append] at h2 ⊢;rw [<- h2]
theorem Y1t {w0 w : World} {M : List Nat} {R : RL} {K : Act -> World -> Prop} {Q : Exit -> Act -> World -> Prop} {a : Act} {T T' T0 e : TypeId} {by_ c cp n b k : Nat} {zs : Array Value} {s x : Operand} {A : Option Addr} {xs : List Value} {ys : Dt} (h : St w0 M (.blk b (.cells xs.toArray T0 (0, 0)) :: R) w) (ht : SliceOf P T e 1 by_ zs)
  (hs : a.eval s = .slice (some ⟨b, k, none⟩) n cp) (hx : a.eval x = .slice A ys.length c) (hk : k + n <= xs.length) (hsrc : ys.length = 0 \/ ∃ b off, A = some ⟨b, off, none⟩ /\ ∀ j u, (Yj [.int .i64] ys)[j]? = some u -> w.cell? ⟨b, off + j, none⟩ = some u)
  (kk : ∀ w', St w0 M (.blk b (.cells (Yb1 xs.toArray k (Yj [.int .i64] (ys.take n))) T0 (0, 0)) :: R) w' -> K (a.put dst (.int .i64 (min ys.length n : Nat))) w') :
  Oper.wp P { dst, op := .call { callee := .builtin .copy, args := #[s, x], argTypes := #[T, T'] }, type, pos, after, guard } a w K Q := by
 obtain ⟨i, z, hi, hz1, hz2, his, hib⟩ := ht.parts;have hu := ht.1;obtain ⟨m, hm⟩ : ∃ m, m = min ys.length n := ⟨_, rfl⟩;have hm1 : m <= ys.length := by omega
 have hm2 : m <= n := by omega
 have htk : ys.take n = ys.take m := by
  rw [List.take_eq_take_iff]; omega
 rw [htk] at kk;have hfl : (Yj [.int .i64] (ys.take m)).length = m := by rw [Yn, List.length_take, Nat.min_eq_left hm1]; simp
 have hcells : (Builtin.firstCells i.size m (.slice A ys.length c)).run P w = .ok (Yj [.int .i64] (ys.take m)).toArray w := by
  rcases hsrc with h0 | ⟨b, off, rfl, hc⟩
  ·have h2 : m = 0 := by omega
   subst h2;have h3 : ys = [] := List.length_eq_zero_iff.1 h0;subst h3;have := run_loadCells_list (P := P) w (A.getD ⟨0, 0, none⟩) [] (by simp);cases A with
   | none => rfl
   | some A => simpa [Builtin.firstCells, Yj] using this
  ·have := run_loadCells_list (P := P) w ⟨b, off, none⟩ (Yj [.int .i64] (ys.take m)) (fun j u hj => by
    rw [Ym];refine hc j u ?_;rw [Yeu _ _ _ hm1, List.getElem?_take] at hj
    split at hj
    ·exact hj
    ·cases hj)
   rw [hfl] at this;simpa [Builtin.firstCells, his] using this
 obtain ⟨w', hr, hb, hsz, hm', hkk⟩ := Ybu (P := P) (Yj [.int .i64] (ys.take m)) 0 k xs.toArray w (h.blk .head) (by simp [hfl]; omega) (Ygq _ _);simp only [Nat.add_zero] at hb;have hS := h.upd (r' := .blk b (.cells (Yb1 xs.toArray k (Yj [.int .i64] (ys.take m))) T0 (0, 0))) .head ⟨hm'.1, hm'.2.1, hm'.2.2, by omega, fun k hk' hk2 => hkk k (by simpa [Res.foot] using hk2)⟩ hb (fun b' hb' => .inl hb');have h4 := kk w' hS;have hrun : (Builtin.copy_ #[T, T'] type #[.slice (some ⟨b, k, none⟩) n cp, .slice A ys.length c]).run P w = .ok (.int .i64 (m : Int)) w' := by
  have hmn : ys.length.min n = m := by rw [hm]
  simp [Builtin.copy_, run_underlying hu, Builtin.lenOf, sizeOf, typeInfo, hi, hmn, hcells, hr, goInt]
 rw [<- hm] at h4;unfold Oper.wp execOp;simp only [resolve, invoke, builtin, Sem.run_bind, Sem.run_pure, Result.andThen_ok, List.map_toArray, List.map_cons, List.map_nil, hs, hx, hrun];exact h4
theorem Y4x {T T' e T0 by_ id off n cp : Nat} {zs cs : List AV} {s x : Operand} {xv : AV} {hs : Heap} {ys : Dt} (ht : (mkTI P T).slice = some (e, 1, by_, zs)) (hsv : At tm s (.slc id off n cp)) (hx : At tm x xv) (hxj : xv.rd = true) (hz : zRun cs off n = true) (hk : off + n <= cs.length) (hsrc : Yit xv hs [.int .i64] ys) (hne : id ∉ keys hs) :
  Does P { dst, op := .call { callee := .builtin .copy, args := #[s, x], argTypes := #[T, T'] }, type, pos, after, guard } tm ((id, .blk T0 cs) :: hs) (.si .i64 ((min ys.length n : Nat) : Int)) [(id, .blk T0 (cs.take off ++ cpA ys 0 n ++ cs.drop (off + (cpA ys 0 n).length)))] [] :=
 fun φ w0 M R a w K Q ho hn hS kk => by
  have e1 := ho s (by simp [Op.operands, Call.operands]) _ hsv (by simp);have e2 := ho x (by simp [Op.operands, Call.operands]) _ hx hxj;have hS0 : St w0 M (Yb φ hs ++ ((It.blk T0 cs).conc φ id :: R)) w := hS.perm (by simp only [Yb, List.map_cons, List.cons_append]; exact List.perm_middle.symm);obtain ⟨A, c, h1, h2⟩ := hsrc φ w0 M _ w hS0;rw [h1] at e2;simp only [AV.conc] at e1;have hS2 : St w0 M (.blk (φ id).b (.cells (AV.concL φ cs).toArray T0 (0, 0)) :: (Yb φ hs ++ R)) w := by simpa [Yb, It.conc] using hS
  refine Y1t hS2 (Yi ht φ).1 e1 e2 (by rw [Yg]; exact hk) h2 fun w' hS' => ?_;refine kk φ w' (Agree.refl _ _) ?_;have e4 : Yh ((id, It.blk T0 cs) :: hs) [(id, .blk T0 (cs.take off ++ cpA ys 0 n ++ cs.drop (off + (cpA ys 0 n).length)))] = (id, .blk T0 (cs.take off ++ cpA ys 0 n ++ cs.drop (off + (cpA ys 0 n).length))) :: hs := by simp [Yh, upd, Nat.beq_refl]
  have hfl : (Yj [.int .i64] (ys.take n)).length = min n ys.length := by rw [Yn, List.length_take]; simp
  have e5 : Yb1 (AV.concL φ cs).toArray off (Yj [.int .i64] (ys.take n)) = (AV.concL φ (cs.take off ++ cpA ys 0 n ++ cs.drop (off + (cpA ys 0 n).length))).toArray := by
   apply Array.ext';rw [Ycg _ _ _ (by simp [hfl, Yg]; omega), Yh0, Ymq, hfl];simp only [List.drop_zero, Nat.sub_zero, List.length_append, List.length_replicate, hfl];rw [show off + (min n ys.length + (n - ys.length)) = off + n by omega, List.append_assoc, List.append_assoc, List.append_assoc]
   congr 2
   have h3 := Yks φ hz;rw [<- List.drop_drop, h3, List.drop_append_of_le_length (by simp; omega), List.drop_replicate]
   congr 2
   omega
  rw [e4, List.append_nil];rw [e5] at hS';simpa [Yb, It.conc] using hS'
def Ykd (c : Cx) (T : TypeId) (s x : AV) (hp : Heap) (k : KE) : Prop :=
 match s with
 | .slc id off n cp => tiK c.tt T fun ti => (match ti.slice with
  | none => Stuck 650
  | some (e, sz, by_, zs) => Yv hp id fun it => (match it with
   | .blk T' cs => Yc (Nat.beq sz 1 && zRun cs off n) (Yb4 [.int .i64] x hp fun hs ys => Yc (Ych.disjB hs [(id, .blk T' cs)]) (Yp4 cs off (cpA ys 0 n) fun cs' => k (.si .i64 ((min ys.length n : Nat) : Int)) ((id, .blk T' cs) :: hs) [(id, .blk T' cs')] []))
   | _ => Stuck 651))
 | _ => Stuck 652
theorem Yhr {c : Cx} (ht : TabOk c.P c.tt) {T T' : TypeId} {sv xv : AV} {s x : Operand} {hp : Heap} {k : KE} (hsv : At tm s sv) (hx : At tm x xv) (hxj : xv.rd = true) (h : Ykd c T sv xv hp k) :
  Res1 c.P { dst, op := .call { callee := .builtin .copy, args := #[s, x], argTypes := #[T, T'] }, type, pos, after, guard } tm hp k := by
 unfold Ykd at h
 split at h
 ·rename_i id off n cp;have h1 := Yl ht h
  split at h1
  ·exact h1.elim
  ·rename_i e sz by_ zs hs;obtain ⟨it, hl, h4⟩ := Yf h1
   split at h4
   ·rename_i T0 cs;obtain ⟨h5, h6⟩ := Ya h4;simp only [Bool.and_eq_true, Yd] at h5;obtain ⟨rfl, h52⟩ := h5;obtain ⟨hs', ys, h7, h8, h9⟩ := Yck (by simp) h6;obtain ⟨h10, h11⟩ := Ya h7;obtain ⟨h12, h13⟩ := Yds h11;rw [Yov] at h12;have hne := Yce h10;exact ⟨_, _, _, _, h13, h8.cons hl hne, fun i hi => by simp [keys] at hi ⊢; exact .inl hi, Y4x hs hsv hx hxj h52 h12 h9 hne⟩
   ·exact h4.elim
 ·exact h.elim
def Y5r : AV -> Bool
 | .slc _ _ _ _ => true
 | _ => false
end
noncomputable def Ygx (c : Cx) (o : Oper) (tm : List AV) (hp : Heap) (k kp : KE) : Prop :=
 match o.op with
 | .slice T x none none none => evK tm x fun p => (match p with
  | .ptr i j => tiK c.tt T fun ti => (match ti.arr with | some (n, sz, b) => k (.slc i j n n) [] [] [] | none => Stuck 653)
  | _ => Yjq c o tm hp k kp)
 | .call cl => (match cl.callee with
  | .builtin b => (match b, cl.args.toList with
   | .copy, [s, x] => evK tm s fun s => (match Y5r s with
    | true => evK tm x fun x => (match cl.argTypes.toList with | [T, T'] => Ykd c T s x hp k | _ => Stuck 654)
    | false => Yjq c o tm hp k kp)
   | _, _ => Yjq c o tm hp k kp)
  | _ => Yjq c o tm hp k kp)
 | _ => Yjq c o tm hp k kp
theorem Yqx {c : Cx} {o : Oper} {tm : List AV} {hp : Heap} {k kp : KE} (hc : HandOk c) (h : Ygx c o tm hp k kp) : OpRes c o tm hp k kp := by
 have old : Yjq c o tm hp k kp -> OpRes c o tm hp k kp := fun h => Yqy hc h;obtain ⟨dst, op, type, pos, after, guard⟩ := o;unfold Ygx at h
 split at h
 ·rename_i hop;dsimp only at hop; subst hop;obtain ⟨p, jp, hx, h1⟩ := Ye h
  split at h1
  ·have h2 := Yl hc.tab h1
   split at h2
   ·rename_i ht;exact (show Res1 _ _ _ _ _ from ⟨_, _, _, _, h2, .nil _, Yx, Yxv ht hx⟩).op
   ·exact h2.elim
  ·exact old h1
 ·rename_i cl hop;dsimp only at hop; subst hop;obtain ⟨callee, ⟨args⟩, ⟨tys⟩⟩ := cl;dsimp only at h
  split at h
  ·split at h
   ·rename_i s x;obtain ⟨sv, hsj, hs, h1⟩ := Ye h
    split at h1
    ·obtain ⟨xv, hxj, hx, h2⟩ := Ye h1
     split at h2
     ·exact (Yhr hc.tab hs hx hxj h2).op
     ·exact h2.elim
    ·exact old h1
   ·exact old h
  ·exact old h
 ·exact old h
end Go.Proofs.Ytfbhampnigdaaaa
namespace Go.Proofs.Ytfbhampnigdaaaa
open Go.RowKit
set_option maxRecDepth 100000
set_option maxHeartbeats 1600000
variable [InW]
def Yo8 : List AV -> (List AV -> Prop) -> Prop
 | [], K => K []
 | .si k n :: xs, K => Yv7 n fun m => Yo8 xs fun r => K (.v (.int k m) :: r)
 | x :: xs, K => Yo8 xs fun r => K (x :: r)
theorem Yfd : ∀ {cs : List AV} {K : List AV -> Prop}, Yo8 cs K -> ∃ cs', K cs' /\ cs'.length = cs.length /\ ∀ φ, AV.concL φ cs' = AV.concL φ cs
 | [], K, h => ⟨[], h, rfl, fun φ => rfl⟩
 | x :: xs, K, h => by
  have old : Yo8 xs (fun r => K (x :: r)) -> ∃ cs', K cs' /\ cs'.length = (x :: xs).length /\ ∀ φ, AV.concL φ cs' = AV.concL φ (x :: xs) := fun h => by
   obtain ⟨cs', h1, h2, h3⟩ := Yfd h;exact ⟨_, h1, by simp [h2], fun φ => by simp only [AV.concL, h3 φ]⟩
  cases x with
  | si k n =>
   have h := Yjg.1 h;obtain ⟨cs', h1, h2, h3⟩ := Yfd h;exact ⟨_, h1, by simp [h2], fun φ => by simp only [AV.concL, AV.conc, h3 φ]⟩
  | _ => exact old h
theorem Yvb {φ : Phi} {i : Nat} {x y : It} (h : x.conc φ i = y.conc φ i) : ∀ hs : Heap, Yb φ (upd hs i x) = Yb φ (upd hs i y)
 | [] => rfl
 | p :: hs => by
  unfold upd;cases e : Nat.beq p.1 i with
  | true =>
   have : p.1 = i := Yd.1 e;subst this;simp only [Yb, List.map_cons, h]
  | false =>
   have ih := Yvb h hs;simp only [Yb, List.map_cons] at ih ⊢;rw [ih]
theorem Does.us {P : Program} {o : Oper} {tm : List AV} {hs us us' : Heap} {val val' : AV} (h : Does P o tm hs val us []) (hv : ∀ φ, val'.conc φ = val.conc φ) (hc : ∀ φ, Yb φ (Yh hs us') = Yb φ (Yh hs us)) : Does P o tm hs val' us' [] :=
 fun φ w0 M R a w K Q ho hn hS kk => h φ w0 M R a w K Q ho hn hS fun φ' w' hag hS' => by
  rw [<- hv];exact kk φ' w' hag (by rw [List.append_nil] at hS' ⊢; rw [hc]; exact hS')
section
variable {P : Program} {tm : List AV} {dst : Option Tmp} {type : TypeId} {pos : String} {after : Array Edge} {guard : Option (Nat × Bool)}
theorem Y0v {T T' e T0 by_ id N : Nat} {zs cs : List AV} {s x : Operand} {xv : AV} {hs : Heap} {xs ys : Dt} (ht : (mkTI P T).slice = some (e, 1, by_, zs)) (hxs : xs.length = N) (hcs : ∀ φ, AV.concL φ cs = Yj [.int .i64] xs) (hsv : At tm s (.sl id 0 0 N)) (hx : At tm x xv) (hxj : xv.rd = true) (hsrc : Yit xv hs [.int .i64] ys) (hne : id ∉ keys hs) :
  Does P { dst, op := .call { callee := .builtin .copy, args := #[s, x], argTypes := #[T, T'] }, type, pos, after, guard } tm ((id, .row T0 1 N cs) :: hs) (.si .i64 ((min ys.length N : Nat) : Int)) [(id, .row T0 1 N (cpA (cpD xs ys) 0 N))] [] :=
 fun φ w0 M R a w K Q ho hn hS kk => by
  have e1 := ho s (by simp [Op.operands, Call.operands]) _ hsv (by simp);have e2 := ho x (by simp [Op.operands, Call.operands]) _ hx hxj;have hS0 : St w0 M (Yb φ hs ++ ((It.row T0 1 N cs).conc φ id :: R)) w := hS.perm (by simp only [Yb, List.map_cons, List.cons_append]; exact List.perm_middle.symm);obtain ⟨A, c, h1, h2⟩ := hsrc φ w0 M _ w hS0;rw [h1] at e2;have hS2 : St w0 M (.row (.slice (if (φ id).nil then none else some ⟨(φ id).b, 0, none⟩) N (φ id).c) T0 [Ty.int IntKind.i64].length N (Yj [.int .i64] xs) :: (Yb φ hs ++ R)) w := by
   have : St w0 M ((It.row T0 1 N cs).conc φ id :: (Yb φ hs ++ R)) w := by simpa [Yb] using hS
   have e : (It.row T0 1 N cs).conc φ id = .row (.slice (if (φ id).nil then none else some ⟨(φ id).b, 0, none⟩) N (φ id).c) T0 1 N (Yj [.int .i64] xs) := by simp only [It.conc, hcs]
   rw [e] at this;exact this
  simp only [AV.conc, Nat.sub_zero] at e1;refine Yyo hS2 (Yi ht φ).1 e1 e2 hxs.symm h2 fun w' hS' => ?_;rw [hxs];refine kk φ w' (Agree.refl _ _) ?_;have e4 : Yh ((id, It.row T0 1 N cs) :: hs) [(id, .row T0 1 N (cpA (cpD xs ys) 0 N))] = (id, .row T0 1 N (cpA (cpD xs ys) 0 N)) :: hs := by simp [Yh, upd, Nat.beq_refl]
  have e5 : AV.concL φ (cpA (cpD xs ys) 0 N) = Yj [.int .i64] (cpD xs ys) := by
   rw [Ymq, You, hxs, List.drop_zero, List.take_of_length_le (by rw [You, hxs]; exact Nat.le_refl _)];simp
  rw [e4, List.append_nil];have e6 : (It.row T0 1 N (cpA (cpD xs ys) 0 N)).conc φ id = .row (.slice (if (φ id).nil then none else some ⟨(φ id).b, 0, none⟩) N (φ id).c) T0 1 N (Yj [.int .i64] (cpD xs ys)) := by simp only [It.conc, e5]
  show St w0 M ((It.row T0 1 N (cpA (cpD xs ys) 0 N)).conc φ id :: (Yb φ hs ++ R)) w'
  rw [e6];exact hS'
theorem Y0w {T e T0 by_ id off lo n N sz : Nat} {zs cs : List AV} {x : Operand} (ht : (mkTI P T).slice = some (e, sz, by_, zs)) (hz : zs.length = sz) (hz1 : ∀ φ : Phi, ∀ u ∈ AV.concL φ zs, u.oneCell' = true) (hN : 0 < N) (hn : 0 < n) (hx : At tm x (.sl id off lo n)) (h2 : off + n * sz <= cs.length) :
  Does P { dst, op := .call { callee := .builtin .clear, args := #[x], argTypes := #[T] }, type, pos, after, guard } tm [(id, .row T0 sz N cs)] (.v (.tuple #[])) [(id, .row T0 sz N (cs.take off ++ (List.replicate n zs).flatten ++ cs.drop (off + n * sz)))] [] :=
 fun φ w0 M R a w K Q ho _ hS kk => by
  have hS' : St w0 M ((It.row T0 sz N cs).conc φ id :: R) w := hS;have e2 := ho x (by simp [Op.operands, Call.operands]) _ hx (by simp);obtain ⟨t, z, hi, hzz1, hz2, his, hib⟩ := (Yi ht φ).1.parts;have hti := (Yi ht φ).1.1;have hnil := Ygk hN hS';have e4 : Yh [(id, It.row T0 sz N cs)] [(id, .row T0 sz N (cs.take off ++ (List.replicate n zs).flatten ++ cs.drop (off + n * sz)))] = [(id, .row T0 sz N (cs.take off ++ (List.replicate n zs).flatten ++ cs.drop (off + n * sz)))] := by simp [Yh, upd, Nat.beq_refl]
  simp only [AV.conc, hnil, if_false, Bool.false_eq_true] at e2;have hS2 : St w0 M (.row (.slice (some ⟨(φ id).b, 0, none⟩) N (φ id).c) T0 sz N (AV.concL φ cs) :: R) w := by
   have := hS';simp only [It.conc, hnil] at this;exact this
  have hzc : (Builtin.zeroCells z.cells n).toList = AV.concL φ (List.replicate n zs).flatten := by
   have e5 : Builtin.zeroCells z.cells n = madeCells (AV.concL φ zs).toArray (n * sz) := by
    rw [hz2];unfold Builtin.zeroCells madeCells;simp [Yg, hz]
   rw [e5, Ydp φ hz]
  have hnews : (AV.concL φ (List.replicate n zs).flatten).length = n * sz := by rw [Yg]; simp [hz]
  have hone : ∀ u ∈ AV.concL φ (List.replicate n zs).flatten, u.oneCell' = true := by
   intro u hu;rw [Yt, List.map_flatten, List.map_replicate, <- Yt] at hu;obtain ⟨l, hl, hul⟩ := List.mem_flatten.1 hu;rw [(List.mem_replicate.1 hl).2] at hul;exact hz1 φ u hul
  obtain ⟨w', hr, hSt⟩ := Yp5 (P := P) (k := off) hS2 (AV.concL φ (List.replicate n zs).flatten) (by rw [hnews, Yg]; exact h2) hone;have hlast : (AV.concL φ cs).take off ++ AV.concL φ (List.replicate n zs).flatten ++ (AV.concL φ cs).drop (off + (AV.concL φ (List.replicate n zs).flatten).length) = AV.concL φ (cs.take off ++ (List.replicate n zs).flatten ++ cs.drop (off + n * sz)) := by
   rw [hnews];simp only [Yt, List.map_append, List.map_take, List.map_drop]
  rw [hlast] at hSt;have h4 := kk φ w' (Agree.refl _ _) (by
   rw [e4, List.append_nil];have e6 : (It.row T0 sz N (cs.take off ++ (List.replicate n zs).flatten ++ cs.drop (off + n * sz))).conc φ id = .row (.slice (some ⟨(φ id).b, 0, none⟩) N (φ id).c) T0 sz N (AV.concL φ (cs.take off ++ (List.replicate n zs).flatten ++ cs.drop (off + n * sz))) := by simp only [It.conc, hnil, if_false, Bool.false_eq_true]
   show St w0 M ((It.row T0 sz N (cs.take off ++ (List.replicate n zs).flatten ++ cs.drop (off + n * sz))).conc φ id :: R) w'
   rw [e6];exact hSt)
  obtain ⟨n', rfl⟩ : ∃ n', n = n' + 1 := ⟨n - 1, by omega⟩;have hrun : (Builtin.clear_ #[T] type #[.slice (some ⟨(φ id).b, off, none⟩) (n' + 1) ((φ id).c - lo)]).run P w = .ok (.tuple #[]) w' := by
   simp [Builtin.clear_, run_underlying hti, zeroValue, typeInfo, hi, hzz1, hzc, hr]
  unfold Oper.wp execOp;simp only [resolve, invoke, builtin, Sem.run_bind, Sem.run_pure, Result.andThen_ok, List.map_toArray, List.map_cons, List.map_nil, e2];rw [hrun];exact h4
def Ypw (c : Cx) (T : TypeId) (s x : AV) (hp : Heap) (k : KE) : Prop :=
 match s with
 | .sl id off lo n => tiK c.tt T fun ti => (match ti.slice with
  | none => Stuck 655
  | some (e, sz, by_, zs) => Yv hp id fun it => (match it with
   | .row T' sz' N cs => Yc (Nat.beq sz 1 && Nat.beq sz' 1 && Nat.beq off 0 && Nat.beq lo 0 && Nat.beq n N) (Yru [.int .i64] N cs fun xs => Yb4 [.int .i64] x hp fun hs ys => Yc (Ych.disjB hs [(id, .row T' sz' N cs)]) (Yo8 (cpA (cpD xs ys) 0 N) fun cs' => Y5 (min ys.length N) fun m => k (.v (.int .i64 (m : Int))) ((id, .row T' sz' N cs) :: hs) [(id, .row T' sz' N cs')] []))
   | _ => Stuck 656))
 | _ => Stuck 657
theorem Ypv {c : Cx} (ht : TabOk c.P c.tt) {T T' : TypeId} {sv xv : AV} {s x : Operand} {hp : Heap} {k : KE} (hsv : At tm s sv) (hx : At tm x xv) (hxj : xv.rd = true) (h : Ypw c T sv xv hp k) :
  Res1 c.P { dst, op := .call { callee := .builtin .copy, args := #[s, x], argTypes := #[T, T'] }, type, pos, after, guard } tm hp k := by
 unfold Ypw at h
 split at h
 ·rename_i id off lo n;have h1 := Yl ht h
  split at h1
  ·exact h1.elim
  ·rename_i e sz by_ zs hs;obtain ⟨it, hl, h4⟩ := Yf h1
   split at h4
   ·rename_i T0 sz' N cs;obtain ⟨h5, h6⟩ := Ya h4;simp only [Bool.and_eq_true, Yd] at h5;obtain ⟨⟨⟨⟨rfl, rfl⟩, rfl⟩, rfl⟩, rfl⟩ := h5;obtain ⟨xs, h7, h8, h9, _⟩ := Yc5 h6;obtain ⟨hs', ys, h10, h11, h12⟩ := Yck (by simp) h7;obtain ⟨h13, h14⟩ := Ya h10;obtain ⟨cs', h15, h16, h17⟩ := Yfd h14;have h15 := Yk.1 h15;have hne := Yce h13;refine ⟨_, _, _, _, h15, h11.cons hl hne, fun i hi => by simp [keys] at hi ⊢; exact .inl hi, (Y0v hs h8 h9 hsv hx hxj h12 hne).us (fun φ => rfl) fun φ => ?_⟩;simp only [Yh, upd, Nat.beq_refl, Yb, List.map_cons, It.conc, h17]
   ·exact h4.elim
 ·exact h.elim
def Yk9 (c : Cx) (T : TypeId) (x : AV) (hp : Heap) (k : KE) : Prop :=
 match x with
 | .emp id => tiK c.tt T fun ti => (match ti.slice with | none => Stuck 658 | some _ => k (.v (.tuple #[])) [] [] [])
 | .sl id off lo n => tiK c.tt T fun ti => (match ti.slice with
  | none => Stuck 659
  | some (e, sz, by_, zs) => Yv hp id fun it => (match it with
   | .row T' sz' N cs => Yc (Nat.beq sz' sz && lenB zs sz && Ygu zs && Nat.ble 1 N && Nat.ble 1 n) (repK zs n fun z => Yc (lenB z (n * sz)) (Yp4 cs off z fun cs' => k (.v (.tuple #[])) [(id, .row T' sz' N cs)] [(id, .row T' sz' N cs')] []))
   | _ => Stuck 660))
 | _ => Stuck 661
theorem Ynl {c : Cx} (ht : TabOk c.P c.tt) {T : TypeId} {xv : AV} {x : Operand} {hp : Heap} {k : KE} (hx : At tm x xv) (h : Yk9 c T xv hp k) :
  Res1 c.P { dst, op := .call { callee := .builtin .clear, args := #[x], argTypes := #[T] }, type, pos, after, guard } tm hp k := by
 unfold Yk9 at h
 split at h
 ·rename_i id;have h1 := Yl ht h
  split at h1
  ·exact h1.elim
  ·rename_i q hs;obtain ⟨e, sz, by_, zs⟩ := q;refine ⟨_, _, _, _, h1, .nil _, Yx, fun φ w0 M R a w K Q ho _ hS kk => ?_⟩;have e2 := ho x (by simp [Op.operands, Call.operands]) _ hx (by simp);have hti := (Yi hs φ).1.1;simp only [AV.conc] at e2;have hrun : (Builtin.clear_ #[T] type #[.slice (φ id).a 0 (φ id).c]).run c.P w = .ok (.tuple #[]) w := by
    cases (φ id).a <;> simp [Builtin.clear_, run_underlying hti]
   unfold Oper.wp execOp;simp only [resolve, invoke, builtin, Sem.run_bind, Sem.run_pure, Result.andThen_ok, List.map_toArray, List.map_cons, List.map_nil, e2];rw [hrun];exact kk φ w (Agree.refl _ _) (by simpa [Yh] using hS)
 ·rename_i id off lo n;have h1 := Yl ht h
  split at h1
  ·exact h1.elim
  ·rename_i e sz by_ zs hs;obtain ⟨it, hl, h4⟩ := Yf h1
   split at h4
   ·rename_i T0 sz' N cs;obtain ⟨h5, h6⟩ := Ya h4;simp only [Bool.and_eq_true, Yd, Nat.ble_eq] at h5;obtain ⟨⟨⟨⟨rfl, h52⟩, h53⟩, h54⟩, h55⟩ := h5;have h7 := Yp2.1 h6;obtain ⟨h8, h9⟩ := Ya h7;obtain ⟨h10, h11⟩ := Yds h9;have hz := Y4 h52;rw [Y4 h8] at h10 h11;exact ⟨_, _, _, _, h11, .one hl, fun i hi => by simpa [keys] using hi, Y0w hs hz (Yco h53) h54 h55 hx h10⟩
   ·exact h4.elim
 ·exact h.elim
end
def Y4i (hp : Heap) (s : AV) : Bool := match s with | .sl id _ _ _ => (match look hp id with | some (.row _ _ _ _) => true | _ => false) | .emp _ => true | _ => false
def isEmp : AV -> Bool
 | .emp _ => true
 | _ => false
noncomputable def Yx5 (c : Cx) (o : Oper) (tm : List AV) (hp : Heap) (k kp : KE) : Prop :=
 match o.op with
 | .call cl => (match cl.callee with
  | .builtin b => (match b, cl.args.toList with
   | .copy, [s, x] => evK tm s fun s => evK tm x fun x => (match Y4i hp s with
    | true => (match cl.argTypes.toList with | [T, T'] => Ypw c T s x hp k | _ => Stuck 662)
    | false => (match Y5r s with
     | true => (match Y4i hp x with
      | true => (match cl.argTypes.toList with
       | [T, T'] => Ykd c T s x hp fun v hs us nw => (match v, us, nw with
        | .si .i64 m, [(i, .blk T' cs)], [] => Yv7 m fun m => Yo8 cs fun cs' => k (.v (.int .i64 m)) hs [(i, .blk T' cs')] []
        | _, _, _ => Stuck 663)
       | _ => Stuck 664)
      | false => Ygx c o tm hp k kp)
     | false => Ygx c o tm hp k kp))
   | .len, [x] => evK tm x fun x => (match isEmp x with
    | true => (match cl.argTypes.toList with | [T] => tiK c.tt T fun ti => (match ti.slice with | none => Stuck 666 | some _ => k (.v (.int .i64 0)) [] [] []) | _ => Stuck 667)
    | false => Ygx c o tm hp k kp)
   | .clear, [x] => evK tm x fun x => (match Y4i hp x with
    | true => (match cl.argTypes.toList with | [T] => Yk9 c T x hp k | _ => Stuck 665)
    | false => Ygx c o tm hp k kp)
   | _, _ => Ygx c o tm hp k kp)
  | _ => Ygx c o tm hp k kp)
 | _ => Ygx c o tm hp k kp
theorem Ytl {c : Cx} {o : Oper} {tm : List AV} {hp : Heap} {k kp : KE} (hc : HandOk c) (h : Yx5 c o tm hp k kp) : OpRes c o tm hp k kp := by
 have old : Ygx c o tm hp k kp -> OpRes c o tm hp k kp := fun h => Yqx hc h;obtain ⟨dst, op, type, pos, after, guard⟩ := o;unfold Yx5 at h
 split at h
 ·rename_i cl hop;dsimp only at hop; subst hop;obtain ⟨callee, ⟨args⟩, ⟨tys⟩⟩ := cl;dsimp only at h
  split at h
  ·split at h
   ·rename_i s x;obtain ⟨a, ja, hx, h1⟩ := Ye h;obtain ⟨b, jb, hy, h2⟩ := Ye h1
    split at h2
    ·split at h2
     ·exact (Ypv hc.tab hx hy jb h2).op
     ·exact h2.elim
    ·split at h2
     ·split at h2
      ·split at h2
       ·obtain ⟨val, hs, us, nw, h3, h4, h5, h6⟩ := Yhr (dst := dst) (type := type) (pos := pos) (after := after) (guard := guard) hc.tab hx hy jb h2
        split at h3
        ·obtain ⟨cs', h7, h8, h9⟩ := Yfd (Yjg.1 h3);refine .inl ⟨_, _, _, _, h7, h4, h5, h6.us (fun φ => rfl) fun φ => ?_⟩;simp only [Yh];exact Yvb (by simp only [It.conc, h9]) _
        ·exact h3.elim
       ·exact h2.elim
      ·exact old h2
     ·exact old h2
   ·rename_i x;obtain ⟨a, ja, hx, h1⟩ := Ye h
    split at h1
    ·rename_i he
     split at h1
     ·have h2 := Yl hc.tab h1
      split at h2
      ·exact h2.elim
      ·rename_i q hs;obtain ⟨e, sz, by_, zs⟩ := q;cases a with
       | emp id => exact .inl ⟨_, _, _, _, h2, .nil _, Yx, Ygc (n := 0) hs hx (by simp) fun φ w0 M R w hS => ⟨_, _, rfl⟩⟩
       | _ => cases he
     ·exact h1.elim
    ·exact old h1
   ·rename_i x;obtain ⟨a, ja, hx, h1⟩ := Ye h
    split at h1
    ·split at h1
     ·exact (Ynl hc.tab hx h1).op
     ·exact h1.elim
    ·exact old h1
   ·exact old h
  ·exact old h
 ·exact old h
end Go.Proofs.Ytfbhampnigdaaaa
namespace Go.Proofs.Ytfbhampnigdaaaa
open Go.RowKit
variable [InW]
attribute [local irreducible] Go.Oper.wp
def wF (r : Option Nat) : Fence := { Fence.wide with round := r }
theorem Yx1 {r : Option Nat} {n : Nat} {P : Program} {f : FuncId} {args : Array Value} {w : World} {R : Ending -> World -> Prop} : CallsIn (wF r) n P f args w R ↔ Calls P f args w R := callsIn_wide (n := n)
theorem Yyv {r : Option Nat} {n : Nat} {P : Program} {row : String} {args : Array Value} {w : World} {R : Value -> World -> Prop} (h : Rows P row args w R) : RowsIn (wF r) n P row args w R := fun c cs _ =>
 let ⟨v, w', h1, h2⟩ := h c cs; ⟨v, w', h1, stepsIn_wide.2 h2⟩
theorem Ypi {r : Option Nat} {n : Nat} : (wF r).depth.isSome = true -> 1 <= n := fun h => by simp [wF, Fence.wide] at h
def opW (P : Program) (o : Oper) (a : Act) (w : World) (K : Act -> World -> Prop) (Q : Exit -> Act -> World -> Prop) : Prop := ∀ r, o.wpIn (wF r) 0 P a w K Q
theorem Y3k {P : Program} {o : Oper} {a : Act} {w : World} {K : Act -> World -> Prop} {Q : Exit -> Act -> World -> Prop} (hd : ∀ c, o.op ≠ .defer c) (h : o.wp P a w K Q) : opW P o a w K Q := fun r => by
 refine ⟨fun _ _ => trivial, ?_⟩;rw [Oper.semAt_eq _ _ _ hd];unfold Oper.wp at h;generalize (execOp a.eval o).run P w = x at h;cases x with
 | ok x w' =>
  cases x <;> simp only [Oper.upon, Oper.uponIn] at h ⊢
  case value v => exact h
  case skip => exact h
  case defer d => exact h
  case enter f args => exact ⟨Ypi, Yx1.2 h⟩
  case row row args => exact ⟨Ypi, Yyv h⟩
 | halt x w' => cases x <;> simp only [Oper.upon, Oper.uponIn] at h ⊢; exact h
def DoesW (P : Program) (o : Oper) (tm : List AV) (hs : Heap) (val : AV) (us nw : Heap) : Prop :=
 ∀ (φ : Phi) (w0 : World) (M : List Nat) (R : RL) (a : Act) (w : World) (K : Act -> World -> Prop) (Q : Exit -> Act -> World -> Prop),
  OpsAt φ tm a o.op -> NewFor (keys nw) tm hs -> St w0 M (Yb φ hs ++ R) w ->
  (∀ φ' w', Agree (keys nw) φ φ' -> St w0 M (Yb φ' (Yh hs us ++ nw) ++ R) w' -> K (a.put o.dst (val.conc φ')) w') -> opW P o a w K Q
def DoesPW (P : Program) (o : Oper) (tm : List AV) (hs : Heap) (val : AV) (us nw : Heap) : Prop :=
 ∀ (φ : Phi) (w0 : World) (M : List Nat) (R : RL) (a : Act) (w : World) (K : Act -> World -> Prop) (Q : Exit -> Act -> World -> Prop),
  OpsAt φ tm a o.op -> NewFor (keys nw) tm hs -> St w0 M (Yb φ hs ++ R) w ->
  (∀ φ' w', Agree (keys nw) φ φ' -> St w0 M (Yb φ' (Yh hs us ++ nw) ++ R) w' -> Q (.panic [{ v := val.conc φ', recovered := false }]) a w') -> opW P o a w K Q
theorem Does.toW {P : Program} {o : Oper} {tm : List AV} {hs us nw : Heap} {val : AV} (hd : ∀ c, o.op ≠ .defer c) (h : Does P o tm hs val us nw) : DoesW P o tm hs val us nw :=
 fun φ w0 M R a w K Q h1 h2 h3 h4 => Y3k hd (h φ w0 M R a w K Q h1 h2 h3 h4)
theorem DoesP.toW {P : Program} {o : Oper} {tm : List AV} {hs us nw : Heap} {val : AV} (hd : ∀ c, o.op ≠ .defer c) (h : DoesP P o tm hs val us nw) : DoesPW P o tm hs val us nw :=
 fun φ w0 M R a w K Q h1 h2 h3 h4 => Y3k hd (h φ w0 M R a w K Q h1 h2 h3 h4)
theorem Ymn {P : Program} {o : Oper} {tm : List AV} {hp hs us nw : Heap} {val : AV} (hd : DoesW P o tm hs val us nw) (hpart : PartOf hs hp) (hu : ∀ i ∈ keys us, i ∈ keys hs) (hB : NewFor (keys nw) tm hp /\ (keys nw).Nodup /\ ∀ i ∈ keys nw, i % 3 ≠ 1)
  {φ0 φ : Phi} {w0 : World} {M : List Nat} {R : RL} {a : Act} {w : World} (h : RepS φ0 φ w0 M R tm hp a w) {K : Act -> World -> Prop} {Q : Exit -> Act -> World -> Prop}
  (kk : ∀ φ' w', RepS φ0 φ' w0 M R (putA tm o.dst val) (Ybb (Yh hp us) nw) (a.put o.dst (val.conc φ')) w' -> K (a.put o.dst (val.conc φ')) w') : opW P o a w K Q := by
 have hB' := hB;obtain ⟨b1, b2, b3⟩ := hB;have hS : St w0 M (Yb φ hs ++ (Yb φ (Yb5 hs hp) ++ R)) w := by
  have := h.st.perm ((Yu (hpart.perm h.nd)).append (List.Perm.refl R));rwa [Yp, List.append_assoc] at this
 refine hd φ w0 M _ a w K Q (h.tmps.ops _) (fun i hi => ⟨(b1 i hi).1, Yf8 fun p hp' => ?_⟩) hS fun φ' w' hag hS' => kk φ' w' (h.new_heap hpart hu hB' hag hS' _ _);exact Yw (b1 i hi).2 (Ybc (hpart.all p hp'))
theorem Yzv {h : Heap} {i : Nat} (hm : i ∈ keys h) : ∃ x, look h i = some x := by
 induction h with
 | nil => simp [keys] at hm
 | cons p h ih =>
  rw [Yr]
  split
  ·exact ⟨_, rfl⟩
  ·rename_i hne;simp only [keys, List.map_cons, List.mem_cons] at hm;rcases hm with e | hm
   ·exact absurd e.symm hne
   ·exact ih hm
def Ywj (P : Program) (L : LI) (i : Nat) (args : List AV) (hs : Heap) (val : AV) (us nw : Heap) : Prop :=
 ∀ (φ : Phi) (w0 : World) (M : List Nat) (R : RL) (w : World), NewFor (keys nw) args hs -> St w0 M (Yb φ hs ++ R) w ->
  RoundIn Fence.wide 0 P (φ i).b (φ i).fn (AV.concL φ args).toArray L.assign L.body w fun e w' => ∃ φ', Agree (keys nw) φ φ' /\ e = .returned (val.conc φ') /\ St w0 M (Yb φ' (Yh hs us ++ nw) ++ R) w'
structure HandOkR (c : Cx) : Prop extends HandOk c where
 round : ∀ L i args hp d k, c.roundH L i args hp d k -> ∃ val hs us nw, k val hs us nw /\ PartOf hs hp /\ (∀ i ∈ keys us, i ∈ keys hs) /\ i ∈ keys hs /\ Ywj c.P L i args hs val us nw
def Y3s (o : Oper) : Option (Operand × List Operand) := match o.op with | .call { callee := .value f, args := ⟨l⟩, .. } => some (f, l) | _ => none
def Y3o (o : Oper) : Bool := match o.op with | .defer _ => true | _ => false
def Yep (cs : List AV) : List (Nat × AV) -> List AV
 | [] => cs
 | p :: ps => Yep (cs.set p.1 p.2) ps
def lpK (it : It) (K : LI -> List AV -> Prop) : Prop := match it with | .lp L (d :: cs) => K L cs | _ => Stuck 90
def ylK (fv : AV) (K : Nat -> Prop) (K' : Prop) : Prop := match fv with | .yl i => K i | _ => K'
def Y1k (c : Cx) (o : Oper) (tm : List AV) (hp : Heap) (k kp : KE) : Prop :=
 match Y3s o with
 | none => (match Y3o o with | true => Stuck 92 | false => Yx5 c o tm hp k kp)
 | some (f, args) => evK tm f fun fv => ylK fv (fun i => evsK tm args fun vs => Yv hp i fun it => lpK it fun L cs => Yc (Nat.beq vs.length L.ps.size) (c.roundH L i (Yep cs (L.ps.toList.zip vs)) hp (o.dst.getD 0) k)) (Yx5 c o tm hp k kp)
theorem Y02 (φ : Phi) (cs : List AV) (n : Nat) (v : AV) : AV.concL φ (cs.set n v) = (AV.concL φ cs).set n (v.conc φ) := by rw [Yt, Yt, List.map_set]
theorem Ylh (φ : Phi) : ∀ (ps : List Nat) (vs cs : List AV), (AV.concL φ (Yep cs (ps.zip vs))).toArray = (ps.zip (AV.concL φ vs)).foldl (fun (t : Array Value) (p : Nat × Value) => t.setIfInBounds p.1 p.2) (AV.concL φ cs).toArray
 | [], vs, cs => by simp [Yep]
 | _ :: _, [], cs => by simp [Yep, AV.concL]
 | p :: ps, v :: vs, cs => by
  simp only [List.zip_cons_cons, Yep, AV.concL, List.foldl_cons];rw [Ylh φ ps vs, Y02];simp
theorem Yn4 {i : Nat} : ∀ (ps : List Nat) (vs cs : List AV), AV.hasL i vs = false -> AV.hasL i cs = false -> AV.hasL i (Yep cs (ps.zip vs)) = false
 | [], vs, cs, _, h => by simpa [Yep] using h
 | _ :: _, [], cs, _, h => by simpa [Yep] using h
 | p :: ps, v :: vs, cs, h1, h2 => by
  simp only [AV.hasL, Bool.or_eq_false_iff] at h1;simp only [List.zip_cons_cons, Yep];refine Yn4 ps vs _ h1.2 ?_;rw [Yo, List.any_eq_false] at h2 ⊢;intro x hx;rcases List.mem_or_eq_of_mem_set hx with h | rfl
  ·exact h2 x h
  ·simpa using h1.1
section
variable {P : Program} {tm : List AV} {dst : Option Tmp} {type : TypeId} {pos : String} {after : Array Edge} {guard : Option (Nat × Bool)}
theorem Y4r {f : Operand} {args : List Operand} {tys : Array TypeId} {i : Nat} {L : LI} {x : AV} {cs vs : List AV} {hs : Heap} {val : AV} {us nw : Heap} (hf : At tm f (.yl i)) (ha : Ats tm args vs) (hl : look hs i = some (.lp L (x :: cs))) (hn : vs.length = L.ps.size)
  (hc : Ywj P L i (Yep cs (L.ps.toList.zip vs)) hs val us nw) :
  DoesW P { dst, op := .call { callee := .value f, args := args.toArray, argTypes := tys }, type, pos, after, guard } tm hs val us nw :=
 fun φ w0 M R a w K Q ho hnew hS kk r => by
  have e1 := ho f (by simp [Op.operands, Call.operands]) _ hf (by simp);have e2 := ha.eval (φ := φ) (a := a) fun x hx v hv hj => ho x (by simp [Op.operands, Call.operands, hx]) v hv hj;refine ⟨fun _ _ => trivial, ?_⟩;rw [Oper.semAt_eq _ _ _ (fun c => by simp)];have hb : w.heap[(φ i).b]? = some (L.obj (φ i).fn (AV.concL φ (x :: cs))) := by
   have hm : Res.blk (φ i).b (L.obj (φ i).fn (AV.concL φ (x :: cs))) ∈ Yb φ hs ++ R := List.mem_append_left _ (List.mem_map.2 ⟨_, Ybc hl, rfl⟩);exact hS.has _ hm
  have hl2 : (AV.concL φ vs).length = L.ps.size := by rw [Yg, hn]
  have hy := run_yield (P := P) (args := (AV.concL φ vs).toArray) hb (by simpa using hl2);have e3 : (args.toArray).map a.eval = (AV.concL φ vs).toArray := by rw [<- e2]; simp
  have hrun : (execOp a.eval { dst, op := .call { callee := .value f, args := args.toArray, argTypes := tys }, type, pos, after, guard }).run P w = .ok (.round (φ i).b (φ i).fn (AV.concL φ (Yep cs (L.ps.toList.zip vs))).toArray L.assign L.body) w := by
   simp only [execOp, resolve, e1, AV.conc, Deferred.ofValue, Sem.run_bind, Sem.run_pure, Result.andThen_ok, invoke, e3, Array.empty_append, Array.append_empty, hy]
   congr 2
   rw [Ylh, <- Array.foldl_toList];simp [AV.concL, Array.toList_zip]
  rw [hrun];refine ⟨Ypi, ?_⟩;have hnw : NewFor (keys nw) (Yep cs (L.ps.toList.zip vs)) hs := fun j hj => by
   obtain ⟨h1, h2⟩ := hnew j hj;have h3 : AV.hasL j (x :: cs) = false := (Yw h2 (Ybc hl)).2;simp only [AV.hasL, Bool.or_eq_false_iff] at h3;exact ⟨Yn4 _ _ _ (ha.new h1) h3.2, h2⟩
  refine RoundIn.mono (hc φ w0 M R w hnw hS) fun e w' ⟨φ', hag, he, hS'⟩ => ?_;subst he;exact kk φ' w' hag hS'
end
def Y3v (c : Cx) (o : Oper) (tm : List AV) (hp : Heap) (k kp : KE) : Prop :=
 (∃ val hs us nw, k val hs us nw /\ PartOf hs hp /\ (∀ i ∈ keys us, i ∈ keys hs) /\ DoesW c.P o tm hs val us nw) \/
 (∃ val hs us nw, kp val hs us nw /\ PartOf hs hp /\ (∀ i ∈ keys us, i ∈ keys hs) /\ DoesPW c.P o tm hs val us nw)
theorem Ykw {c : Cx} {o : Oper} {tm : List AV} {hp : Heap} {k kp : KE} (hc : HandOkR c) (h : Y1k c o tm hp k kp) : Y3v c o tm hp k kp := by
 have plain : (∀ c, o.op ≠ .defer c) -> Yx5 c o tm hp k kp -> Y3v c o tm hp k kp := fun hd h => by
  rcases Ytl hc.toHandOk h with ⟨val, hs, us, nw, h1, h2, h3, h4⟩ | ⟨val, hs, us, nw, h1, h2, h3, h4⟩
  ·exact .inl ⟨val, hs, us, nw, h1, h2, h3, h4.toW hd⟩
  ·exact .inr ⟨val, hs, us, nw, h1, h2, h3, h4.toW hd⟩
 unfold Y1k at h
 split at h
 ·split at h
  ·exact h.elim
  ·rename_i hb;exact plain (fun c hc => by simp [Y3o, hc] at hb) h
 ·rename_i f args hcall;obtain ⟨dst, op, type, pos, after, guard⟩ := o;unfold Y3s at hcall
  split at hcall
  ·rename_i f' l tys hop;simp only [Option.some.injEq, Prod.mk.injEq] at hcall;obtain ⟨rfl, rfl⟩ := hcall;dsimp only at hop;subst hop;obtain ⟨fv, hj, hf, h1⟩ := Ye h;unfold ylK at h1
   split at h1
   ·rename_i i;obtain ⟨vs, h2, h3⟩ := Yga h1;obtain ⟨it, h4, h5⟩ := Yf h3;unfold lpK at h5
    split at h5
    ·rename_i L d cs;obtain ⟨h6, h7⟩ := Ya h5;obtain ⟨val, hs, us, nw, a1, a2, a3, a4, a5⟩ := hc.round _ _ _ _ _ _ h7;obtain ⟨it', hit⟩ := Yzv a4;have : it' = .lp L (d :: cs) := by
      have := a2.all _ (Ybc hit);rw [h4] at this;exact (Option.some.inj this).symm
     subst this;exact .inl ⟨val, hs, us, nw, a1, a2, a3, Y4r hf h2 hit (Yd.1 h6) a5⟩
    ·exact h5.elim
   ·exact plain (fun c => by simp) h1
  ·cases hcall
end Go.Proofs.Ytfbhampnigdaaaa
namespace Go.Proofs.Ytfbhampnigdaaaa
open Go.RowKit
variable [InW]
attribute [local irreducible] Go.Oper.wp
def Yv4 (ol : List Oper) (o : Oper) (tm : List AV) (run skip : Prop) : Prop :=
 match o.guard with
 | none => run
 | some (j, want) => match Yqm ol j with
  | none => Stuck 42
  | some d => getK tm d fun v => match v with
   | .v (.bool b) => (match want with | true => vcIf b run skip | false => vcIf b skip run)
   | .sb b => (match want with | true => Vif b run skip | false => Vif b skip run)
   | .v (.tuple _) => skip
   | _ => Stuck 43
theorem Yug {φ : Phi} {tm : List AV} {a : Act} (h : RepT φ tm a) {d : Nat} {v : AV} (hv : tm[d]? = some v) (hj : v.rd = true) : nthO a.tmps.toList d = some (v.conc φ) := by
 rw [Yfx];have := h.slot d v hv hj;simp [List.getD_eq_getElem?_getD, this]
def WantA (ol : List Oper) (o : Oper) (tm : List AV) (b : Bool) : Prop := ∀ (φ : Phi) (a : Act), (∀ t ∈ o.looksAt ol.toArray, ∀ v : AV, tm[t]? = some v -> v.rd = true -> nthO a.tmps.toList t = some (v.conc φ)) -> Region.wanted o (yielded ol.toArray a.tmps) = b
theorem Ye8 {ol : List Oper} {o : Oper} {j d : Nat} {b : Bool} (hg : o.guard = some (j, b)) (hd : Yqm ol j = some d) : d ∈ o.looksAt ol.toArray := by
 rw [Ywb] at hd;simp [Oper.looksAt, hg, hd]
theorem Ymh {ol : List Oper} {o : Oper} {tm : List AV} {run skip : Prop} (h : Yv4 ol o tm run skip) : (WantA ol o tm true /\ run) \/ (WantA ol o tm false /\ skip) := by
 obtain ⟨dst, op, type, pos, after, guard⟩ := o;unfold Yv4 at h;cases guard with
 | none => exact .inl ⟨fun φ a _ => rfl, h⟩
 | some jw =>
  obtain ⟨j, want⟩ := jw;dsimp only at h
  split at h
  ·exact h.elim
  ·rename_i d hd;obtain ⟨v, hv, h1⟩ := Ybp h
   split at h1
   ·rename_i b;have key : ∀ r, (b == want) = r -> WantA ol { dst, op, type, pos, after, guard := some (j, want) } tm r := fun r hr φ a hs =>
     Yqu hd (hs d (Ye8 rfl hd) _ hv (by simp)) hr
    cases want with
    | true =>
     rcases Yfj h1 with ⟨rfl, h2⟩ | ⟨rfl, h2⟩
     ·exact .inl ⟨key true rfl, h2⟩
     ·exact .inr ⟨key false rfl, h2⟩
    | false =>
     rcases Yfj h1 with ⟨rfl, h2⟩ | ⟨rfl, h2⟩
     ·exact .inr ⟨key false rfl, h2⟩
     ·exact .inl ⟨key true rfl, h2⟩
   ·rename_i b;have key : ∀ r, (b == want) = r -> WantA ol { dst, op, type, pos, after, guard := some (j, want) } tm r := fun r hr φ a hs =>
     Yqu hd (hs d (Ye8 rfl hd) _ hv (by simp)) hr
    cases want with
    | true =>
     rcases Vif.spec h1 with ⟨rfl, h2⟩ | ⟨rfl, h2⟩
     ·exact .inl ⟨key true rfl, h2⟩
     ·exact .inr ⟨key false rfl, h2⟩
    | false =>
     rcases Vif.spec h1 with ⟨rfl, h2⟩ | ⟨rfl, h2⟩
     ·exact .inr ⟨key false rfl, h2⟩
     ·exact .inl ⟨key true rfl, h2⟩
   ·exact .inr ⟨fun φ a hs => Ytk hd (hs d (Ye8 rfl hd) _ hv (by simp)), h1⟩
   ·exact h1.elim
theorem WantA.at {ol : List Oper} {o : Oper} {tm : List AV} {b : Bool} (h : WantA ol o tm b) {φ : Phi} {a : Act} (hr : RepT φ tm a) : Region.wanted o (yielded ol.toArray a.tmps) = b :=
 h φ a fun t _ v hv hj => Yug hr hv hj
def Yff (F : Fence) (P : Program) (ops : Array Oper) (Q : Exit -> Act -> World -> Prop) : List Oper -> Act -> World -> Prop
 | [], a, w => Q .normal a w
 | o :: rest, a, w => if Region.wanted o (yielded ops a.tmps) then o.wpIn F 0 P a w (Yff F P ops Q rest) Q else Yff F P ops Q rest (a.put o.dst undef) w
theorem Ykt {F : Fence} (hF : ∀ f, F.fn f) {P : Program} {ops : Array Oper} {Q : Exit -> Act -> World -> Prop} : ∀ (l : List Oper) (k : Nat) (a : Act) (w : World), (∀ j, l[j]? = ops[k + j]?) -> Yff F P ops Q l a w -> wpOpsIn F 0 P ops Q (List.range' k l.length) a w
 | [], k, a, w, _, h => h
 | o :: rest, k, a, w, hl, h => by
  have ho : ops[k]? = some o := by have := hl 0; simpa using this.symm
  have hl' : ∀ j, rest[j]? = ops[k + 1 + j]? := fun j => by have := hl (j + 1); rw [show k + 1 + j = k + (j + 1) by omega, <- this]; simp
  simp only [List.length_cons, List.range'_succ, wpOpsIn, ho];unfold Yff at h
  split
  ·rename_i hw;rw [if_pos hw] at h;exact Oper.wpIn_mono (fun a w h => Ykt hF rest (k + 1) a w hl' h) h
  ·rename_i hw;rw [if_neg hw] at h;exact ⟨fun f _ => hF f, Ykt hF rest (k + 1) _ w hl' h⟩
theorem Yku {F : Fence} (hF : ∀ f, F.fn f) {P : Program} {id : Nat} {l : List Oper} {Q : Exit -> Act -> World -> Prop} {a : Act} {w : World} (h : Yff F P l.toArray Q l a w) : (Code.region id l.toArray false).wpIn F 0 P Q a w :=
 wpIn_region (by
  have := Ykt hF l 0 a w (fun j => by simp) h;rw [List.range_eq_range'];simpa using this)
def Yqj (ol : List Oper) (d : Option Tmp) : List Oper -> Bool
 | [] => false
 | p :: ps => match p.guard with
  | none => Yqj ol d ps
  | some (j, _) => match Yqm ol j, d with
   | some e, some d' => (match Nat.beq d' e with | true => true | false => Yqj ol d ps)
   | _, _ => Yqj ol d ps
def Yve (ol : List Oper) (o : Oper) (val : AV) (K : AV -> Prop) : Prop :=
 match val with
 | .sb b => (match Yqj ol o.dst ol with | true => Vif b (K (.v (.bool true))) (K (.v (.bool false))) | false => K (.sb b))
 | v => K v
theorem Yle {ol : List Oper} {o : Oper} {val : AV} {K : AV -> Prop} (h : Yve ol o val K) : ∃ val', K val' /\ ∀ φ, val'.conc φ = val.conc φ := by
 unfold Yve at h
 split at h
 ·split at h
  ·rcases h.spec with ⟨rfl, h2⟩ | ⟨rfl, h2⟩
   ·exact ⟨_, h2, fun φ => rfl⟩
   ·exact ⟨_, h2, fun φ => rfl⟩
  ·exact ⟨_, h, fun φ => rfl⟩
 ·exact ⟨_, h, fun φ => rfl⟩
theorem DoesW.same {P : Program} {o : Oper} {tm : List AV} {hs us nw : Heap} {val val' : AV} (h : DoesW P o tm hs val us nw) (he : ∀ φ, val'.conc φ = val.conc φ) : DoesW P o tm hs val' us nw :=
 fun φ w0 M R a w K Q h1 h2 h3 kk => h φ w0 M R a w K Q h1 h2 h3 fun φ' w' h4 h5 => by rw [<- he φ']; exact kk φ' w' h4 h5
theorem Does.same {P : Program} {o : Oper} {tm : List AV} {hs us nw : Heap} {val val' : AV} (h : Does P o tm hs val us nw) (he : ∀ φ, val'.conc φ = val.conc φ) : Does P o tm hs val' us nw :=
 fun φ w0 M R a w K Q h1 h2 h3 kk => h φ w0 M R a w K Q h1 h2 h3 fun φ' w' h4 h5 => by rw [<- he φ']; exact kk φ' w' h4 h5
def Y1j (c : Cx) (ol : List Oper) : List Oper -> List AV -> Heap -> KX -> Prop
 | [], tm, hp, K => K .norm tm hp
 | o :: rest, tm, hp, K => Yv4 ol o tm
   (Y1k c o tm hp (fun val hs us nw => Yve ol o val fun val => Y09 o.dst tm hp val us nw fun tm hp => Y1j c ol rest tm hp K) (fun val hs us nw => Y09 none tm hp val us nw fun tm hp => K (.pan val) tm hp))
   (putK tm o.dst (.v undef) fun tm => Y1j c ol rest tm hp K)
def Big (W : (Exit -> Act -> World -> Prop) -> Act -> World -> Prop) (tm : List AV) (hp : Heap) (x : AX) (tm' : List AV) (hp' : Heap) : Prop :=
 ∀ (φ0 φ : Phi) (w0 : World) (M : List Nat) (R : RL) (a : Act) (w : World), RepS φ0 φ w0 M R tm hp a w -> ∀ Q : Exit -> Act -> World -> Prop,
  (∀ φ' e a' w', x.is φ' e -> RepS φ0 φ' w0 M R tm' hp' a' w' -> a'.defers = a.defers -> Q e a' w') -> W Q a w
theorem RepS.skip {φ0 φ : Phi} {w0 : World} {M : List Nat} {R : RL} {tm : List AV} {hp : Heap} {a : Act} {w : World} (h : RepS φ0 φ w0 M R tm hp a w) (dst : Option Tmp) : RepS φ0 φ w0 M R (putA tm dst (.v undef)) hp (a.put dst undef) w :=
 ⟨h.tmps.put dst (.v undef), h.st, h.nd, h.base⟩
theorem Ye4 (a : Act) (dst : Option Tmp) (v : Value) : (a.put dst v).defers = a.defers := by cases dst <;> rfl
section
variable {c : Cx} {ol : List Oper}
theorem Yg7 (hc : HandOkR c) : ∀ (l : List Oper) (tm : List AV) (hp : Heap) (K : KX), Y1j c ol l tm hp K ->
  ∃ x tm' hp', K x tm' hp' /\ Big (fun Q a w => ∀ r, Yff (wF r) c.P ol.toArray Q l a w) tm hp x tm' hp'
 | [], tm, hp, K, h => ⟨.norm, tm, hp, h, fun φ0 φ w0 M R a w hr Q kk r => kk φ .normal a w rfl hr rfl⟩
 | o :: rest, tm, hp, K, h => by
  rcases Ymh h with ⟨hw, h1⟩ | ⟨hw, h1⟩
  ·rcases Ykw hc h1 with ⟨val, hs, us, nw, h2, hpart, hu, hd⟩ | ⟨val, hs, us, nw, h2, hpart, hu, hd⟩
   ·obtain ⟨val', h2, he⟩ := Yle h2
    replace hd := hd.same he
    obtain ⟨hB, h3⟩ := Ym3 h2;obtain ⟨x, tm', hp', h4, h5⟩ := Yg7 hc rest _ _ K h3;refine ⟨x, tm', hp', h4, fun φ0 φ w0 M R a w hr Q kk => ?_⟩;intro r; show Yff (wF r) c.P ol.toArray Q (o :: rest) a w
    unfold Yff;rw [hw.at hr.tmps];simp only [if_true];exact Ymn hd hpart hu hB hr (fun φ' w' hr' => h5 φ0 φ' w0 M R _ w' hr' Q (fun φ2 e a' w2 hx hr2 hdf => kk φ2 e a' w2 hx hr2 (by rw [hdf, Ye4])) r) r
   ·obtain ⟨hB, h3⟩ := Ym3 h2;refine ⟨.pan val, _, _, h3, fun φ0 φ w0 M R a w hr Q kk => ?_⟩;intro r; show Yff (wF r) c.P ol.toArray Q (o :: rest) a w
    unfold Yff;rw [hw.at hr.tmps];simp only [if_true];have b1 := hB.1;have hS : St w0 M (Yb φ hs ++ (Yb φ (Yb5 hs hp) ++ R)) w := by
     have := hr.st.perm ((Yu (hpart.perm hr.nd)).append (List.Perm.refl R));rwa [Yp, List.append_assoc] at this
    refine hd φ w0 M _ a w _ Q (hr.tmps.ops _) (fun i hi => ⟨(b1 i hi).1, Yf8 fun p hp' => Yw (b1 i hi).2 (Ybc (hpart.all p hp'))⟩) hS (fun φ' w' hag hS' => ?_) r;exact kk φ' _ a w' rfl (hr.new_heap hpart hu hB hag hS' none val) rfl
  ·have h2 := Yh1 h1;obtain ⟨x, tm', hp', h4, h5⟩ := Yg7 hc rest _ _ K h2;refine ⟨x, tm', hp', h4, fun φ0 φ w0 M R a w hr Q kk => ?_⟩;intro r; show Yff (wF r) c.P ol.toArray Q (o :: rest) a w
   unfold Yff;rw [hw.at hr.tmps];simp only [Bool.false_eq_true, if_false];exact h5 φ0 φ w0 M R _ w (hr.skip o.dst) Q (fun φ2 e a' w2 hx hr2 hdf => kk φ2 e a' w2 hx hr2 (by rw [hdf, Ye4])) r
end
end Go.Proofs.Ytfbhampnigdaaaa
namespace Go.Proofs.Ytfbhampnigdaaaa
open Go.RowKit
variable [InW]
attribute [local irreducible] Go.Oper.wp
theorem Yjr {i j : Nat} (hne : i ≠ j) (x y : It) : ∀ h : Heap, upd (upd h i x) j y = upd (upd h j y) i x
 | [] => rfl
 | p :: h => by
  by_cases e1 : p.1 = i
  ·have e2 : ¬ p.1 = j := fun e => hne (e1 ▸ e);simp [upd, Yd.2 e1, Y2.2 e2]
  ·by_cases e2 : p.1 = j
   ·simp [upd, Y2.2 e1, Yd.2 e2]
   ·simp [upd, Y2.2 e1, Y2.2 e2, Yjr hne x y h]
theorem Yj1 {i j : Nat} (hne : i ≠ j) (x y : It) : ∀ h : Heap, ins (upd h j y) i x = upd (ins h i x) j y
 | [] => by simp [upd, ins, Y2.2 hne]
 | p :: h => by
  cases hb : Nat.ble p.1 i with
  | true =>
   by_cases e2 : p.1 = j
   ·simp [upd, ins, hb, Yd.2 e2]
   ·simp [upd, ins, hb, Y2.2 e2, Yj1 hne x y h]
  | false =>
   by_cases e2 : p.1 = j
   ·simp [upd, ins, hb, Yd.2 e2, Y2.2 hne]
   ·simp [upd, ins, hb, Y2.2 e2, Y2.2 hne]
theorem Yg3 {a b : Nat} (h : a <= b) : Nat.ble a b = true := by rw [Nat.ble_eq]; exact h
theorem Yg4 {a b : Nat} (h : b < a) : Nat.ble a b = false := by
 rw [<- Bool.not_eq_true, Nat.ble_eq]; omega
theorem Yj2 {i j : Nat} (hne : i ≠ j) (x y : It) : ∀ h : Heap, ins (ins h i x) j y = ins (ins h j y) i x
 | [] => by
  rcases Nat.lt_or_gt_of_ne hne with h | h
  ·simp [ins, Yg3 (Nat.le_of_lt h), Yg4 h]
  ·simp [ins, Yg3 (Nat.le_of_lt h), Yg4 h]
 | p :: h => by
  by_cases h1 : p.1 <= i
  ·by_cases h2 : p.1 <= j
   ·simp [ins, Yg3 h1, Yg3 h2, Yj2 hne x y h]
   ·have h3 : j < i := by omega
    simp [ins, Yg3 h1, Yg4 (show j < p.1 by omega), Yg3 (Nat.le_of_lt h3)]
  ·by_cases h2 : p.1 <= j
   ·have h3 : i < j := by omega
    simp [ins, Yg3 h2, Yg4 (show i < p.1 by omega), Yg3 (Nat.le_of_lt h3)]
   ·rcases Nat.lt_or_gt_of_ne hne with h3 | h3
    ·simp [ins, Yg4 (show i < p.1 by omega), Yg4 (show j < p.1 by omega), Yg3 (Nat.le_of_lt h3), Yg4 h3]
    ·simp [ins, Yg4 (show i < p.1 by omega), Yg4 (show j < p.1 by omega), Yg3 (Nat.le_of_lt h3), Yg4 h3]
def disj (a b : List Nat) : Prop := ∀ i ∈ a, i ∉ b
theorem disj.symm {a b : List Nat} (h : disj a b) : disj b a := fun i hi hm => h i hm hi
theorem disj.tail {p : Nat × It} {us : Heap} {b : List Nat} (h : disj (keys (p :: us)) b) : p.1 ∉ b /\ disj (keys us) b := by
 refine ⟨h p.1 (by simp [keys]), fun i hi => h i ?_⟩;simp only [keys, List.map_cons, List.mem_cons];exact .inr hi
theorem Yfk {i : Nat} {x : It} : ∀ (us h : Heap), i ∉ keys us -> Yh (upd h i x) us = upd (Yh h us) i x
 | [], h, _ => rfl
 | p :: us, h, hn => by
  simp only [keys, List.map_cons, List.mem_cons, not_or] at hn;rw [Yh, Yh, Yjr hn.1, Yfk us _ hn.2]
theorem Yf4 {i : Nat} {x : It} : ∀ (us h : Heap), i ∉ keys us -> Yh (ins h i x) us = ins (Yh h us) i x
 | [], h, _ => rfl
 | p :: us, h, hn => by
  simp only [keys, List.map_cons, List.mem_cons, not_or] at hn;rw [Yh, Yh, <- Yj1 hn.1, Yf4 us _ hn.2]
theorem Yky : ∀ (us vs h : Heap), disj (keys us) (keys vs) -> Yh (Yh h us) vs = Yh (Yh h vs) us
 | [], vs, h, _ => rfl
 | p :: us, vs, h, hd => by
  have := hd.tail;rw [Yh, Yky us vs _ this.2, Yfk vs h this.1];rfl
theorem Ycy : ∀ (nw us h : Heap), disj (keys nw) (keys us) -> Yh (Ybb h nw) us = Ybb (Yh h us) nw
 | [], us, h, _ => rfl
 | p :: nw, us, h, hd => by
  have := hd.tail;rw [Ybb, Ycy nw us _ this.2, Yf4 us h this.1];rfl
theorem Yf5 {i : Nat} {x : It} : ∀ (nw h : Heap), i ∉ keys nw -> Ybb (ins h i x) nw = ins (Ybb h nw) i x
 | [], h, _ => rfl
 | p :: nw, h, hn => by
  simp only [keys, List.map_cons, List.mem_cons, not_or] at hn;rw [Ybb, Ybb, Yj2 hn.1, Yf5 nw _ hn.2]
theorem Yme : ∀ (a b h : Heap), disj (keys a) (keys b) -> Ybb (Ybb h a) b = Ybb (Ybb h b) a
 | [], b, h, _ => rfl
 | p :: a, b, h, hd => by
  have := hd.tail;rw [Ybb, Yme a b _ this.2, Yf5 b h this.1];rfl
structure Ev where
 o : Oper
 skip : Bool
 val : AV
 hs : Heap
 us : Heap
 nw : Heap
def Ev.tm (e : Ev) (tm : List AV) : List AV := putA tm e.o.dst e.val
def Ev.hp (e : Ev) (hp : Heap) : Heap := Ybb (Yh hp e.us) e.nw
structure StepE (P : Program) (ol : List Oper) (e : Ev) (tm : List AV) (hp : Heap) : Prop where
 part : PartOf e.hs hp
 sub : ∀ i ∈ keys e.us, i ∈ keys e.hs
 nd : (keys e.nw).Nodup
 mod : ∀ i ∈ keys e.nw, i % 3 ≠ 1
 run : (e.skip = true /\ WantA ol e.o tm false /\ e.val = .v undef /\ e.us = [] /\ e.nw = []) \/ (e.skip = false /\ WantA ol e.o tm true /\ DoesW P e.o tm e.hs e.val e.us e.nw)
def Ev.lacks (e : Ev) (i : Nat) : Prop := e.val.has i = false /\ hasH i e.us = false /\ hasH i e.nw = false
structure Ind (ol : List Oper) (e f : Ev) : Prop where
 ops : e.o.apart ol.toArray f.o = true
 ef : disj (keys e.us) (keys f.hs)
 fe : disj (keys f.us) (keys e.hs)
 nf : disj (keys e.nw) (keys f.hs)
 lack : ∀ i ∈ keys e.nw, f.lacks i
theorem Yv3 {i : Nat} {tm : List AV} {dst : Option Tmp} {v : AV} (h : AV.hasL i tm = false) (hv : v.has i = false) : AV.hasL i (putA tm dst v) = false := by
 cases dst with
 | none => exact h
 | some d =>
  show AV.hasL i (Ycl tm d v) = false
  induction tm generalizing d with
  | nil => rfl
  | cons x xs ih =>
   simp only [AV.hasL, Bool.or_eq_false_iff] at h;cases d with
   | zero =>
    cases x <;> simp only [Ycl, AV.hasL, Bool.or_eq_false_iff] <;> first | exact ⟨h.1, h.2⟩ | exact ⟨Y4l hv, h.2⟩
   | succ d => simp only [Ycl, AV.hasL, Bool.or_eq_false_iff]; exact ⟨h.1, ih h.2 d⟩
theorem Y4d {h : Heap} {i : Nat} {x : It} {p : Nat × It} (hp : p ∈ upd h i x) : p ∈ h \/ (p.2 = x /\ p.1 ∈ keys h) := by
 induction h with
 | nil => cases hp
 | cons q h ih =>
  unfold upd at hp;cases hb : Nat.beq q.1 i with
  | true =>
   rw [hb] at hp;rcases List.mem_cons.1 hp with rfl | hp
   ·exact .inr ⟨rfl, by simp [keys]⟩
   ·exact .inl (List.mem_cons_of_mem _ hp)
  | false =>
   rw [hb] at hp;rcases List.mem_cons.1 hp with rfl | hp
   ·exact .inl List.mem_cons_self
   ·rcases ih hp with h1 | h1
    ·exact .inl (List.mem_cons_of_mem _ h1)
    ·exact .inr ⟨h1.1, by simp only [keys, List.map_cons, List.mem_cons]; exact .inr h1.2⟩
theorem Y2m {k i : Nat} {x : It} {h : Heap} (hh : hasH k h = false) (hx : x.has k = false) : hasH k (upd h i x) = false := Yf8 fun p hp => by
 rcases Y4d hp with h1 | ⟨h1, h2⟩
 ·exact Yw hh h1
 ·obtain ⟨q, hq, e⟩ := List.mem_map.1 h2;exact ⟨e ▸ (Yw hh hq).1, h1 ▸ hx⟩
theorem Ymf {k : Nat} : ∀ (us h : Heap), hasH k h = false -> hasH k us = false -> hasH k (Yh h us) = false
 | [], h, hh, _ => hh
 | p :: us, h, hh, hu => by
  simp only [hasH, Bool.or_eq_false_iff] at hu;exact Ymf us _ (Y2m hh hu.1.2) hu.2
theorem Y4e {h : Heap} {i : Nat} {x : It} {p : Nat × It} (hp : p ∈ ins h i x) : p ∈ h \/ p = (i, x) := by
 induction h with
 | nil => simpa [ins] using hp
 | cons q h ih =>
  unfold ins at hp;cases hb : Nat.ble q.1 i with
  | true =>
   rw [hb] at hp;rcases List.mem_cons.1 hp with rfl | hp
   ·exact .inl List.mem_cons_self
   ·exact (ih hp).imp (List.mem_cons_of_mem _) id
  | false =>
   rw [hb] at hp;rcases List.mem_cons.1 hp with rfl | hp
   ·exact .inr rfl
   ·exact .inl hp
theorem Ymg {k : Nat} : ∀ (us h : Heap), hasH k h = false -> hasH k us = false -> hasH k (Ybb h us) = false
 | [], h, hh, _ => hh
 | p :: us, h, hh, hu => by
  simp only [hasH, Bool.or_eq_false_iff] at hu;refine Ymg us _ (Yf8 fun q hq => ?_) hu.2;rcases Y4e hq with h1 | rfl
  ·exact Yw hh h1
  ·exact ⟨Y2.1 hu.1.1, hu.1.2⟩
theorem NewFor.step {ks : List Nat} {tm : List AV} {hp : Heap} {e : Ev} (h : NewFor ks tm hp) (hl : ∀ i ∈ ks, e.lacks i) : NewFor ks (e.tm tm) (e.hp hp) := fun i hi =>
 ⟨Yv3 (h i hi).1 (hl i hi).1, Ymg _ _ (Ymf _ _ (h i hi).2 (hl i hi).2.1) (hl i hi).2.2⟩
theorem NewFor.hs {ks : List Nat} {tm : List AV} {hp hs : Heap} (h : NewFor ks tm hp) (hpart : PartOf hs hp) : NewFor ks tm hs := fun i hi =>
 ⟨(h i hi).1, Yf8 fun p hp' => Yw (h i hi).2 (Ybc (hpart.all p hp'))⟩
theorem NewFor.mono_tm {ks : List Nat} {tm tm' : List AV} {hs : Heap} (h : NewFor ks tm hs) (ht : ∀ i ∈ ks, AV.hasL i tm' = false) : NewFor ks tm' hs := fun i hi => ⟨ht i hi, (h i hi).2⟩
theorem NewFor.keys {ks : List Nat} {tm : List AV} {hp : Heap} (h : NewFor ks tm hp) : disj ks (keys hp) := fun i hi hm => by
 obtain ⟨p, hp', e⟩ := List.mem_map.1 hm;exact (Yw (h i hi).2 hp').1 e
theorem Ysi {e : Ev} {tm : List AV} {hp : Heap} {ol : List Oper} {P : Program} (h : StepE P ol e tm hp) (hn : NewFor (keys e.nw) tm hp) {i : Nat} (h1 : i ∉ keys e.us) (h2 : i ∉ keys e.nw) : look (e.hp hp) i = look hp i := by
 unfold Ev.hp;rw [Yhh e.nw _ h.nd (by rw [Yd3]; exact hn.keys), Ybm h2, Ydf _ _ _ h1];rfl
theorem Yvm {tm : List AV} {dst : Option Tmp} {v : AV} {t : Nat} (h : ∀ d, dst = some d -> t ≠ d) : (putA tm dst v)[t]? = tm[t]? := by
 cases dst with
 | none => rfl
 | some d => exact Ykg tm v (h d rfl)
theorem WantA.move {ol : List Oper} {o : Oper} {tm tm' : List AV} {b : Bool} (h : WantA ol o tm b) (he : ∀ t ∈ o.looksAt ol.toArray, tm[t]? = tm'[t]?) : WantA ol o tm' b := fun φ a hs => h φ a fun t ht v hv hj => hs t ht v (by rw [<- he t ht]; exact hv) hj
theorem Yom {ol : List Oper} {o : Oper} {t : Tmp} (h : Operand.tmp t ∈ o.op.operands) : t ∈ o.looksAt ol.toArray := by
 unfold Oper.looksAt;exact List.mem_append_left _ (List.mem_filterMap.2 ⟨.tmp t, by simpa using h, rfl⟩)
theorem DoesW.move {P : Program} {ol : List Oper} {o : Oper} {tm tm' : List AV} {hs us nw : Heap} {val : AV} (h : DoesW P o tm hs val us nw) (he : ∀ t ∈ o.looksAt ol.toArray, tm[t]? = tm'[t]?) (hn : NewFor (keys nw) tm hs) : DoesW P o tm' hs val us nw :=
 fun φ w0 M R a w K Q ho _ hS kk => h φ w0 M R a w K Q (fun x hx v hv hj => ho x hx v (by
  cases x with
  | tmp t =>
   have h1 : tm[t]? = some v := hv;rw [he t (Yom hx)] at h1;exact h1
  | const c => exact hv
  | global g => exact hv
  | func f => exact hv) hj) hn hS kk
theorem Ywp {P : Program} {ol : List Oper} {e f : Ev} {tm : List AV} {hp : Heap} (he : StepE P ol e tm hp) (hf : StepE P ol f (e.tm tm) (e.hp hp)) (hi : Ind ol e f) (hne : NewFor (keys e.nw) tm hp) (hnf : NewFor (keys f.nw) tm hp) (hl : ∀ i ∈ keys f.nw, e.lacks i) :
  StepE P ol f tm hp /\ StepE P ol e (f.tm tm) (f.hp hp) /\ e.tm (f.tm tm) = f.tm (e.tm tm) /\ e.hp (f.hp hp) = f.hp (e.hp hp) := by
 obtain ⟨a1, a2, a3⟩ := Oper.apart_spec hi.ops;have t1 : ∀ t ∈ f.o.looksAt ol.toArray, (e.tm tm)[t]? = tm[t]? := fun t ht => Yvm fun d hd e' => a1 d hd (e' ▸ ht);have t2 : ∀ t ∈ e.o.looksAt ol.toArray, tm[t]? = (f.tm tm)[t]? := fun t ht => (Yvm fun d hd e' => a3 d hd (e' ▸ ht)).symm;have hfu : ∀ i ∈ keys f.us, i ∈ keys f.hs := hf.sub;have pf : PartOf f.hs hp := ⟨hf.part.nd, fun p hp' => by
  have hm : p.1 ∈ keys f.hs := List.mem_map_of_mem hp';rw [<- Ysi he hne (fun h => hi.ef _ h hm) (fun h => hi.nf _ h hm)];exact hf.part.all p hp'⟩
 have sf : StepE P ol f tm hp := by
  refine ⟨pf, hf.sub, hf.nd, hf.mod, ?_⟩;rcases hf.run with ⟨h1, h2, h3⟩ | ⟨h1, h2, h3⟩
  ·exact .inl ⟨h1, h2.move t1, h3⟩
  ·exact .inr ⟨h1, h2.move t1, h3.move t1 ((hnf.hs pf).mono_tm fun i hi' => Yv3 (hnf i hi').1 (hl i hi').1)⟩
 have hsk : ∀ i ∈ keys e.hs, i ∈ keys hp := fun i hi' => by
  obtain ⟨p, hp', rfl⟩ := List.mem_map.1 hi';exact Ycj (he.part.all p hp')
 refine ⟨sf, ⟨⟨he.part.nd, fun p hp' => ?_⟩, he.sub, he.nd, he.mod, ?_⟩, ?_, ?_⟩
 ·have hm : p.1 ∈ keys e.hs := List.mem_map_of_mem hp';rw [Ysi sf hnf (fun h => hi.fe _ h hm) (fun h => hnf.keys _ h (hsk _ hm))];exact he.part.all p hp'
 ·rcases he.run with ⟨h1, h2, h3⟩ | ⟨h1, h2, h3⟩
  ·exact .inl ⟨h1, h2.move t2, h3⟩
  ·exact .inr ⟨h1, h2.move t2, h3.move t2 (hne.hs he.part)⟩
 ·unfold Ev.tm putA;cases hd : e.o.dst with
  | none => rfl
  | some d =>
   cases hd' : f.o.dst with
   | none => rfl
   | some d' =>
    have hnd : d' ≠ d := fun e' => a2 d hd (by rw [hd', e']);simp only;exact Yoh _ _ _ hnd
 ·unfold Ev.hp;have d1 : disj (keys e.us) (keys f.us) := fun i h1 h2 => hi.ef i h1 (hfu i h2);have d2 : disj (keys e.nw) (keys f.us) := fun i h1 h2 => hi.nf i h1 (hfu i h2);have d3 : disj (keys f.nw) (keys e.us) := fun i h1 h2 => hnf.keys i h1 (hsk i (he.sub i h2));have d4 : disj (keys e.nw) (keys f.nw) := fun i h1 h2 => by
   obtain ⟨p, hp', e'⟩ := List.mem_map.1 h2;exact (Yw (hi.lack i h1).2.2 hp').1 e'
  rw [Ycy f.nw e.us _ d3, Ycy e.nw f.us _ d2, Yky e.us f.us hp d1, Yme e.nw f.nw _ d4]
end Go.Proofs.Ytfbhampnigdaaaa
namespace Go.Proofs.Ytfbhampnigdaaaa
open Go.RowKit
variable [InW]
attribute [local irreducible] Go.Oper.wp
def LClosed (ops : Array Oper) (listed : Array Bool) : Prop := ∀ (j : Nat) (oj : Oper), ops[j]? = some oj -> listed.getD j false = true -> ∀ e ∈ oj.after, Region.binds .any e = true -> listed.getD e.on false = true
theorem LClosed.start (ops : Array Oper) (n : Nat) : LClosed ops (Array.replicate n false) := fun j oj _ h => by
 rcases Nat.lt_or_ge j n with h' | h'
 ·simp [h'] at h
 ·simp [h'] at h
theorem Ysj {listed : Array Bool} {i k : Nat} (hk : listed.getD k false = true) : (listed.setIfInBounds i true).getD k false = true := by
 by_cases hki : i = k
 ·subst hki;rcases Nat.lt_or_ge i listed.size with h' | h'
  ·simp [h']
  ·simp [Array.getElem?_eq_none h'] at hk
 ·rw [getD_set_ne false hki]; exact hk
theorem LClosed.step {ops : Array Oper} {listed : Array Bool} {i : Nat} (h : LClosed ops listed) (hi : i ∈ Region.ready .any ops listed) : LClosed ops (listed.setIfInBounds i true) := by
 obtain ⟨h0, oi, hoi, hall⟩ := mem_ready.1 hi;intro j oj hoj hl e he hb
 by_cases hji : i = j
 ·subst hji;rw [hoi] at hoj;cases hoj;exact Ysj (hall e he hb)
 ·rw [getD_set_ne false hji] at hl;exact Ysj (h j oj hoj hl e he hb)
def Y1e (ops : Array Oper) (j i : Nat) : Prop := ∀ listed, LClosed ops listed -> (∀ oj, ops[j]? = some oj -> ∀ e ∈ oj.after, Region.binds .any e = true -> listed.getD e.on false = true) -> listed.getD i false = true
def nthN : List Nat -> Nat -> Nat
 | [], _ => 0
 | x :: _, 0 => x
 | _ :: xs, n + 1 => nthN xs n
def Yia (ms : List Nat) : List Edge -> Nat -> Nat
 | [], s => s
 | e :: es, s => match Region.binds .any e with | true => Yia ms es (s ||| 2 ^ e.on ||| nthN ms e.on) | false => Yia ms es s
def Ydk : List Oper -> List Nat -> List Nat
 | [], acc => acc
 | o :: rest, acc => Ydk rest (acc ++ [Yia acc o.after.toList 0])
theorem Yqb : ∀ (ms : List Nat) (k : Nat), nthN ms k = ms.getD k 0
 | [], k => by simp [nthN]
 | x :: xs, 0 => rfl
 | x :: xs, k + 1 => by simp [nthN, Yqb xs k]
theorem Yfz (ms : List Nat) : ∀ (es : List Edge) (s i : Nat), (Yia ms es s).testBit i = true -> s.testBit i = true \/ ∃ e ∈ es, Region.binds .any e = true /\ (e.on = i \/ (ms.getD e.on 0).testBit i = true)
 | [], s, i, h => .inl h
 | e :: es, s, i, h => by
  unfold Yia at h;cases hb : Region.binds .any e with
  | true =>
   rw [hb] at h;rcases Yfz ms es _ i h with h1 | ⟨e', he', h2⟩
   ·simp only [Nat.testBit_or, Bool.or_eq_true, Nat.testBit_two_pow, decide_eq_true_eq, Yqb] at h1;rcases h1 with (h1 | h1) | h1
    ·exact .inl h1
    ·exact .inr ⟨e, List.mem_cons_self, hb, .inl h1⟩
    ·exact .inr ⟨e, List.mem_cons_self, hb, .inr h1⟩
   ·exact .inr ⟨e', List.mem_cons_of_mem _ he', h2⟩
  | false =>
   rw [hb] at h;rcases Yfz ms es _ i h with h1 | ⟨e', he', h2⟩
   ·exact .inl h1
   ·exact .inr ⟨e', List.mem_cons_of_mem _ he', h2⟩
theorem Yvu (ops : Array Oper) : ∀ (l : List Oper) (acc : List Nat), (∀ j, l[j]? = ops[acc.length + j]?) -> (∀ j m, acc[j]? = some m -> ∀ i, m.testBit i = true -> Y1e ops j i) -> ∀ j m, (Ydk l acc)[j]? = some m -> ∀ i, m.testBit i = true -> Y1e ops j i
 | [], acc, _, h => h
 | o :: rest, acc, hl, h => by
  unfold Ydk;refine Yvu ops rest _ (fun j => ?_) (fun j m hm i hi => ?_)
  ·have := hl (j + 1);simp only [List.length_append, List.length_cons, List.length_nil];rw [show acc.length + (0 + 1) + j = acc.length + (j + 1) by omega, <- this];simp
  ·rw [List.getElem?_append] at hm
   split at hm
   ·exact h j m hm i hi
   ·rename_i hge;have hj : j = acc.length := by
     rcases Nat.lt_or_ge (j - acc.length) 1 with h1 | h1
     ·omega
     ·rw [List.getElem?_eq_none (by simpa using h1)] at hm; cases hm
    subst hj;simp only [Nat.sub_self, List.getElem?_cons_zero, Option.some.injEq] at hm;subst hm;have ho : ops[acc.length]? = some o := by have := hl 0; simpa using this.symm
    intro listed hc hall;rcases Yfz acc _ 0 i hi with h1 | ⟨e, he, hb, h1⟩
    ·simp at h1
    ·have hon := hall o ho e (by simpa using he) hb;rcases h1 with rfl | h1
     ·exact hon
     ·cases ha : acc[e.on]? with
      | none => simp [List.getD_eq_getElem?_getD, ha] at h1
      | some m' =>
       simp only [List.getD_eq_getElem?_getD, ha, Option.getD_some] at h1;exact h e.on m' ha i h1 listed hc fun oj hoj e' he' hb' => hc e.on oj hoj hon e' he' hb'
theorem Yph {ol : List Oper} {j i : Nat} (h : (nthN (Ydk ol []) j).testBit i = true) : Y1e ol.toArray j i := by
 rw [Yqb, List.getD_eq_getElem?_getD] at h;cases hm : (Ydk ol [])[j]? with
 | none => simp [hm] at h
 | some m =>
  rw [hm] at h;exact Yvu ol.toArray ol [] (fun j => by simp) (fun j m hm => by simp at hm) j m hm i h
abbrev Todo := List (Nat × Ev)
def Y1g (P : Program) (ol : List Oper) : Todo -> List AV -> Heap -> List AV -> Heap -> Prop
 | [], tm, hp, tm', hp' => tm = tm' /\ hp = hp'
 | p :: r, tm, hp, tm', hp' => StepE P ol p.2 tm hp /\ Y1g P ol r (p.2.tm tm) (p.2.hp hp) tm' hp'
structure PairOk (ol : List Oper) (p q : Nat × Ev) : Prop where
 lack : ∀ i ∈ keys q.2.nw, p.2.lacks i
 ord : Y1e ol.toArray q.1 p.1 \/ Ind ol p.2 q.2
def AllNew (r : Todo) (tm : List AV) (hp : Heap) : Prop := ∀ p ∈ r, NewFor (keys p.2.nw) tm hp
theorem pull {P : Program} {ol : List Oper} {q : Nat × Ev} {r2 : Todo} {tmE : List AV} {hpE : Heap} : ∀ (r1 : Todo) (tm : List AV) (hp : Heap), Y1g P ol (r1 ++ q :: r2) tm hp tmE hpE -> (r1 ++ q :: r2).Pairwise (PairOk ol) -> AllNew (r1 ++ q :: r2) tm hp -> (∀ p ∈ r1, Ind ol p.2 q.2) ->
  StepE P ol q.2 tm hp /\ Y1g P ol (r1 ++ r2) (q.2.tm tm) (q.2.hp hp) tmE hpE
 | [], tm, hp, hc, _, _, _ => hc
 | p :: r1, tm, hp, hc, hpw, hn, hi => by
  obtain ⟨h1, h2⟩ := hc;have hpw' := List.pairwise_cons.1 hpw;have hn' : AllNew (r1 ++ q :: r2) (p.2.tm tm) (p.2.hp hp) := fun p' hp' => (hn p' (List.mem_cons_of_mem _ hp')).step fun i hi' => (hpw'.1 p' hp').lack i hi';obtain ⟨h3, h4⟩ := pull r1 _ _ h2 hpw'.2 hn' fun p' hp' => hi p' (List.mem_cons_of_mem _ hp');have hq : q ∈ r1 ++ q :: r2 := by simp
  obtain ⟨h5, h6, h7, h8⟩ := Ywp h1 h3 (hi p List.mem_cons_self) (hn p List.mem_cons_self) (hn q (List.mem_cons_of_mem _ hq)) fun i hi' => (hpw'.1 q hq).lack i hi';refine ⟨h5, h6, ?_⟩;rw [h7, h8];exact h4
structure Left (ol : List Oper) (r : Todo) (listed : Array Bool) : Prop where
 iff : ∀ k, k < ol.length -> (listed.getD k true = false ↔ k ∈ r.map (·.1))
 lt : ∀ p ∈ r, p.1 < ol.length /\ ol[p.1]? = some p.2.o
 sorted : r.Pairwise fun p q => p.1 < q.1
 size : listed.size = ol.length
def Yx4 : List Oper -> Nat -> Bool
 | [], _ => true
 | o :: rest, i => match o.after.toList.all (fun e => !Region.binds .any e || Nat.blt e.on i) with | true => Yx4 rest (i + 1) | false => false
theorem Ypc : ∀ (l : List Oper) (i : Nat), Yx4 l i = true -> ∀ j o, l[j]? = some o -> ∀ e ∈ o.after, Region.binds .any e = true -> e.on < i + j
 | [], i, _, j, o, h => by simp at h
 | o' :: rest, i, hb, j, o, h => by
  unfold Yx4 at hb
  split at hb
  ·rename_i h1;cases j with
   | zero =>
    simp only [List.getElem?_cons_zero, Option.some.injEq] at h;subst h;intro e he hbi;have := List.all_eq_true.1 h1 e (by simpa using he);simp only [hbi, Bool.not_true, Bool.false_or, Nat.blt_eq] at this;simpa using this
   | succ j =>
    intro e he hbi;have := Ypc rest (i + 1) hb j o (by simpa using h) e he hbi;omega
  ·cases hb
theorem Ymi {listed : Array Bool} {k : Nat} (h : k < listed.size) : listed.getD k true = false ↔ listed.getD k false = false := by simp [h]
theorem Left.ready {ol : List Oper} {r : Todo} {listed : Array Bool} (h : Left ol r listed) {j : Nat} (hj : j ∈ Region.ready .any ol.toArray listed) : ∃ e, (j, e) ∈ r := by
 obtain ⟨h0, oj, hoj, _⟩ := mem_ready.1 hj;have hlt : j < ol.length := by
  have := (Array.getElem?_eq_some_iff.1 hoj).1;simpa using this
 obtain ⟨p, hp, e⟩ := List.mem_map.1 ((h.iff j hlt).1 h0);exact ⟨p.2, by rw [<- e]; exact hp⟩
theorem Left.head_ready {ol : List Oper} {p : Nat × Ev} {r : Todo} {listed : Array Bool} (h : Left ol (p :: r) listed) (hb : Yx4 ol 0 = true) : p.1 ∈ Region.ready .any ol.toArray listed := by
 have h1 := h.lt p List.mem_cons_self;refine mem_ready.2 ⟨(h.iff p.1 h1.1).2 (by simp), p.2.o, by simpa using h1.2, fun e he hbi => ?_⟩;have hon := Ypc ol 0 hb p.1 p.2.o h1.2 e he hbi;have hlt : e.on < ol.length := by omega
 cases hq : listed.getD e.on false with
 | true => rfl
 | false =>
  have h2 : listed.getD e.on true = false := (Ymi (by rw [h.size]; exact hlt)).2 hq;obtain ⟨q, hq, e'⟩ := List.mem_map.1 ((h.iff e.on hlt).1 h2);rcases List.mem_cons.1 hq with rfl | hq
  ·omega
  ·have := (List.pairwise_cons.1 h.sorted).1 q hq;omega
theorem Left.step {ol : List Oper} {r1 r2 : Todo} {q : Nat × Ev} {listed : Array Bool} (h : Left ol (r1 ++ q :: r2) listed) : Left ol (r1 ++ r2) (listed.setIfInBounds q.1 true) := by
 have hsub : (r1 ++ r2).Sublist (r1 ++ q :: r2) := (List.Sublist.refl r1).append (List.sublist_cons_self q r2);have hne : ∀ p ∈ r1 ++ r2, p.1 ≠ q.1 := fun p hp => by
  have hs := List.pairwise_append.1 h.sorted;rcases List.mem_append.1 hp with hp | hp
  ·have := hs.2.2 p hp q List.mem_cons_self; omega
  ·have := (List.pairwise_cons.1 hs.2.1).1 p hp; omega
 refine ⟨fun k hk => ?_, fun p hp => h.lt p (hsub.subset hp), h.sorted.sublist hsub, by simpa using h.size⟩
 by_cases e : q.1 = k
 ·subst e;have h1 : (listed.setIfInBounds q.1 true).getD q.1 true = true := by simp [h.size, hk]
  constructor
  ·intro h2; rw [h1] at h2; cases h2
  ·intro h2;obtain ⟨p, hp, e⟩ := List.mem_map.1 h2;exact absurd e (hne p hp)
 ·rw [getD_set_ne true e, h.iff k hk];simp only [List.map_append, List.map_cons, List.mem_append, List.mem_cons];constructor
  ·rintro (h1 | h1 | h1)
   ·exact .inl h1
   ·exact absurd h1.symm e
   ·exact .inr h1
  ·rintro (h1 | h1)
   ·exact .inl h1
   ·exact .inr (.inr h1)
theorem Y0d {ol : List Oper} {r1 r2 : Todo} {q : Nat × Ev} {listed : Array Bool} (h : Left ol (r1 ++ q :: r2) listed) (hc : LClosed ol.toArray listed) (hpw : (r1 ++ q :: r2).Pairwise (PairOk ol)) (hj : q.1 ∈ Region.ready .any ol.toArray listed) : ∀ p ∈ r1, Ind ol p.2 q.2 := fun p hp => by
 have h1 := (List.pairwise_append.1 hpw).2.2 p hp q List.mem_cons_self;refine h1.ord.resolve_left fun hw => ?_;obtain ⟨_, oj, hoj, hall⟩ := mem_ready.1 hj;have h2 := hw listed hc fun oj' hoj' => by rw [hoj] at hoj'; cases hoj'; exact hall
 have hm : p ∈ r1 ++ q :: r2 := List.mem_append_left _ hp;have h3 := (h.iff p.1 (h.lt p hm).1).2 (List.mem_map_of_mem hm);rw [Ymi (by rw [h.size]; exact (h.lt p hm).1), h2] at h3;cases h3
theorem AllNew.step {ol : List Oper} {r1 r2 : Todo} {q : Nat × Ev} {tm : List AV} {hp : Heap} (hn : AllNew (r1 ++ q :: r2) tm hp) (hpw : (r1 ++ q :: r2).Pairwise (PairOk ol)) (hi : ∀ p ∈ r1, Ind ol p.2 q.2) : AllNew (r1 ++ r2) (q.2.tm tm) (q.2.hp hp) := fun p hp' => by
 rcases List.mem_append.1 hp' with h1 | h1
 ·exact (hn p (List.mem_append_left _ h1)).step fun i hi' => (hi p h1).lack i hi'
 ·exact (hn p (List.mem_append_right _ (List.mem_cons_of_mem _ h1))).step fun i hi' => ((List.pairwise_cons.1 (List.pairwise_append.1 hpw).2.1).1 p h1).lack i hi'
section
variable {P : Program} {ol : List Oper} {φ0 : Phi} {w0 : World} {M : List Nat} {R : RL} {r0 : Option Nat} {Q : Exit -> Act -> World -> Prop} {D : List Deferred} {tmE : List AV} {hpE : Heap}
theorem Yqn (hb : Yx4 ol 0 = true) (hQ : ∀ φ' a' w', RepS φ0 φ' w0 M R tmE hpE a' w' -> a'.defers = D -> Q .normal a' w') :
  ∀ (n : Nat) (r : Todo) (listed : Array Bool) (tm : List AV) (hp : Heap) (φ : Phi) (a : Act) (w : World), r.length <= n -> Left ol r listed -> LClosed ol.toArray listed -> Y1g P ol r tm hp tmE hpE -> r.Pairwise (PairOk ol) -> AllNew r tm hp -> RepS φ0 φ w0 M R tm hp a w -> a.defers = D -> wpAnyIn (wF r0) 0 P .any ol.toArray Q n listed a w
 | 0, r, listed, tm, hp, φ, a, w, hl, hL, hc, hch, hpw, hn, hr, hD => by
  have : r = [] := List.length_eq_zero_iff.1 (by omega);subst this;obtain ⟨rfl, rfl⟩ := hch;refine ⟨?_, hQ φ a w hr hD⟩;cases hrd : Region.ready .any ol.toArray listed with
  | nil => rfl
  | cons j js =>
   obtain ⟨e, he⟩ := hL.ready (j := j) (by rw [hrd]; exact List.mem_cons_self);cases he
 | n + 1, r, listed, tm, hp, φ, a, w, hl, hL, hc, hch, hpw, hn, hr, hD => by
  refine ⟨fun h0 => ?_, fun j hj => ?_⟩
  ·cases r with
   | nil => obtain ⟨rfl, rfl⟩ := hch; exact hQ φ a w hr hD
   | cons p r => have := hL.head_ready hb; rw [h0] at this; cases this
  ·obtain ⟨f, hf⟩ := hL.ready hj;obtain ⟨r1, r2, rfl⟩ := List.append_of_mem hf;have hi := Y0d hL hc hpw hj;obtain ⟨hs, hch2⟩ := pull r1 tm hp hch hpw hn hi;have hlen : (r1 ++ r2).length <= n := by simp only [List.length_append, List.length_cons] at hl ⊢; omega
   have hnx := hn.step hpw hi;have hpw2 : (r1 ++ r2).Pairwise (PairOk ol) := hpw.sublist ((List.Sublist.refl r1).append (List.sublist_cons_self _ r2));have ho : ol.toArray[j]? = some f.o := by simpa using (hL.lt (j, f) hf).2
   unfold wpOpIn;simp only [ho];rcases hs.run with ⟨h1, h2, h3, h4, h5⟩ | ⟨h1, h2, h3⟩
   ·rw [h2.at hr.tmps];simp only [Bool.false_eq_true, if_false];have e1 : f.tm tm = putA tm f.o.dst (.v undef) := by unfold Ev.tm; rw [h3]
    have e2 : f.hp hp = hp := by unfold Ev.hp; rw [h4, h5]; rfl
    dsimp only at hch2 hnx;rw [e1, e2] at hch2 hnx;exact ⟨fun _ _ => trivial, Yqn hb hQ n (r1 ++ r2) _ _ _ φ _ w hlen hL.step (hc.step hj) hch2 hpw2 hnx (hr.skip f.o.dst) (by rw [Ye4, hD])⟩
   ·rw [h2.at hr.tmps];simp only [if_true];exact (Ymn h3 hs.part hs.sub ⟨hn (j, f) hf, hs.nd, hs.mod⟩ hr fun φ' w' hr' => Yqn hb hQ n (r1 ++ r2) _ _ _ φ' _ w' hlen hL.step (hc.step hj) hch2 hpw2 hnx hr' (by rw [Ye4, hD])) r0
end
end Go.Proofs.Ytfbhampnigdaaaa
namespace Go.Proofs.Ytfbhampnigdaaaa
open Go.RowKit
variable [InW]
attribute [local irreducible] Go.Oper.wp
theorem DoesPW.move {P : Program} {ol : List Oper} {o : Oper} {tm tm' : List AV} {hs us nw : Heap} {val : AV} (h : DoesPW P o tm hs val us nw) (he : ∀ t ∈ o.looksAt ol.toArray, tm[t]? = tm'[t]?) (hn : NewFor (keys nw) tm hs) : DoesPW P o tm' hs val us nw :=
 fun φ w0 M R a w K Q ho _ hS kk => h φ w0 M R a w K Q (fun x hx v hv hj => ho x hx v (by
  cases x with
  | tmp t =>
   have h1 : tm[t]? = some v := hv;rw [he t (Yom hx)] at h1;exact h1
  | const c => exact hv
  | global g => exact hv
  | func f => exact hv) hj) hn hS kk
structure LeftP (ol : List Oper) (r : Todo) (j : Nat) (f : Ev) (listed : Array Bool) : Prop where
 iff : ∀ k, k < j -> (listed.getD k true = false ↔ k ∈ r.map (·.1))
 lt : ∀ p ∈ r, p.1 < j /\ ol[p.1]? = some p.2.o
 at_ : ol[j]? = some f.o
 self : listed.getD j true = false
 sorted : r.Pairwise fun p q => p.1 < q.1
 size : listed.size = ol.length
 behind : ∀ k, j < k -> k < ol.length -> Y1e ol.toArray k j
theorem LeftP.step {ol : List Oper} {r1 r2 : Todo} {q : Nat × Ev} {j : Nat} {f : Ev} {listed : Array Bool} (h : LeftP ol (r1 ++ q :: r2) j f listed) : LeftP ol (r1 ++ r2) j f (listed.setIfInBounds q.1 true) := by
 have hsub : (r1 ++ r2).Sublist (r1 ++ q :: r2) := (List.Sublist.refl r1).append (List.sublist_cons_self q r2);have hq := h.lt q (by simp);have hjl : j < ol.length := (List.getElem?_eq_some_iff.1 h.at_).1;have hne : ∀ p ∈ r1 ++ r2, p.1 ≠ q.1 := fun p hp => by
  have hs := List.pairwise_append.1 h.sorted;rcases List.mem_append.1 hp with hp | hp
  ·have := hs.2.2 p hp q List.mem_cons_self; omega
  ·have := (List.pairwise_cons.1 hs.2.1).1 p hp; omega
 refine ⟨fun k hk => ?_, fun p hp => h.lt p (hsub.subset hp), h.at_, ?_, h.sorted.sublist hsub, by simpa using h.size, h.behind⟩
 ·by_cases e : q.1 = k
  ·subst e;have h1 : (listed.setIfInBounds q.1 true).getD q.1 true = true := by
    have : q.1 < listed.size := by rw [h.size]; omega
    simp [this]
   constructor
   ·intro h2; rw [h1] at h2; cases h2
   ·intro h2;obtain ⟨p, hp, e⟩ := List.mem_map.1 h2;exact absurd e (hne p hp)
  ·rw [getD_set_ne true e, h.iff k hk];simp only [List.map_append, List.map_cons, List.mem_append, List.mem_cons];constructor
   ·rintro (h1 | h1 | h1)
    ·exact .inl h1
    ·exact absurd h1.symm e
    ·exact .inr h1
   ·rintro (h1 | h1)
    ·exact .inl h1
    ·exact .inr (.inr h1)
 ·rw [getD_set_ne true (by omega)]; exact h.self
section
variable {P : Program} {ol : List Oper} {φ0 : Phi} {w0 : World} {M : List Nat} {R : RL} {r0 : Option Nat} {Q : Exit -> Act -> World -> Prop} {D : List Deferred} {tmS tmT : List AV} {hpT : Heap} {j : Nat} {f : Ev} {ds : List (Option Tmp)}
end
end Go.Proofs.Ytfbhampnigdaaaa
namespace Go.Proofs.Ytfbhampnigdaaaa
open Go.RowKit
variable [InW]
mutual
def AV.ren (ρ : Nat -> Nat) : AV -> AV
 | .v x => .v x
 | .ptr id k => .ptr (ρ id) k
 | .sl id a b c => .sl (ρ id) a b c
 | .slc id a b c => .slc (ρ id) a b c
 | .emp id => .emp (ρ id)
 | .agg cs => .agg (AV.renL ρ cs)
 | .tup cs => .tup (AV.renL ρ cs)
 | .fn f a b => .fn f (AV.renL ρ a) (AV.renL ρ b)
 | .ifc t x => .ifc t (AV.ren ρ x)
 | .mp id => .mp (ρ id)
 | .yl id => .yl (ρ id)
 | .held x => .held (AV.ren ρ x)
 | .junk => .junk
 | .si k n => .si k n
 | .sb b => .sb b
 | .ss s => .ss s
 | .rs ts r => .rs ts r
 | .rp ts r i k => .rp ts r i k
 | .rw id => .rw (ρ id)
 | .ep id sz i k => .ep (ρ id) sz i k
 | .rwp id sz l n => .rwp (ρ id) sz l n
 | .opq id => .opq (ρ id)
 | .fp id sz i k => .fp (ρ id) sz i k
def AV.renL (ρ : Nat -> Nat) : List AV -> List AV
 | [] => []
 | x :: xs => AV.ren ρ x :: AV.renL ρ xs
end
mutual
def renK (ρ : Nat -> Nat) : AV -> (AV -> Prop) -> Prop
 | .v x, K => K (.v x)
 | .ptr id k, K => Y5 (ρ id) fun id => K (.ptr id k)
 | .sl id a b c, K => Y5 (ρ id) fun id => K (.sl id a b c)
 | .slc id a b c, K => Y5 (ρ id) fun id => K (.slc id a b c)
 | .emp id, K => Y5 (ρ id) fun id => K (.emp id)
 | .agg cs, K => Yhw ρ cs fun cs => K (.agg cs)
 | .tup cs, K => Yhw ρ cs fun cs => K (.tup cs)
 | .fn f a b, K => Yhw ρ a fun a => Yhw ρ b fun b => K (.fn f a b)
 | .ifc t x, K => renK ρ x fun x => K (.ifc t x)
 | .mp id, K => Y5 (ρ id) fun id => K (.mp id)
 | .yl id, K => Y5 (ρ id) fun id => K (.yl id)
 | .held x, K => renK ρ x fun x => K (.held x)
 | .junk, K => K .junk
 | .si k n, K => K (.si k n)
 | .sb b, K => K (.sb b)
 | .ss s, K => K (.ss s)
 | .rs ts r, K => K (.rs ts r)
 | .rp ts r i k, K => K (.rp ts r i k)
 | .rw id, K => Y5 (ρ id) fun id => K (.rw id)
 | .ep id sz i k, K => Y5 (ρ id) fun id => K (.ep id sz i k)
 | .rwp id sz l n, K => Y5 (ρ id) fun id => K (.rwp id sz l n)
 | .opq id, K => Y5 (ρ id) fun id => K (.opq id)
 | .fp id sz i k, K => Y5 (ρ id) fun id => K (.fp id sz i k)
def Yhw (ρ : Nat -> Nat) : List AV -> (List AV -> Prop) -> Prop
 | [], K => K []
 | x :: xs, K => renK ρ x fun x => Yhw ρ xs fun xs => K (x :: xs)
end
mutual
theorem Ykf (ρ : Nat -> Nat) : ∀ (x : AV) (K : AV -> Prop), renK ρ x K ↔ K (x.ren ρ)
 | .v _, K => Iff.rfl
 | .ptr id k, K => by simp only [renK, AV.ren, Yk]
 | .sl id a b c, K => by simp only [renK, AV.ren, Yk]
 | .slc id a b c, K => by simp only [renK, AV.ren, Yk]
 | .emp id, K => by simp only [renK, AV.ren, Yk]
 | .agg cs, K => by simp only [renK, AV.ren]; exact Ycv ρ cs _
 | .tup cs, K => by simp only [renK, AV.ren]; exact Ycv ρ cs _
 | .fn f a b, K => by simp only [renK, AV.ren]; rw [Ycv ρ a, Ycv ρ b]
 | .ifc t x, K => by simp only [renK, AV.ren]; exact Ykf ρ x _
 | .mp id, K => by simp only [renK, AV.ren, Yk]
 | .yl id, K => by simp only [renK, AV.ren, Yk]
 | .held x, K => by simp only [renK, AV.ren]; exact Ykf ρ x _
 | .junk, K => Iff.rfl
 | .si k n, K => Iff.rfl
 | .sb b, K => Iff.rfl
 | .ss s, K => Iff.rfl
 | .rs ts r, K => Iff.rfl
 | .rp ts r i k, K => Iff.rfl
 | .rw id, K => by simp only [renK, AV.ren, Yk]
 | .ep id sz i k, K => by simp only [renK, AV.ren, Yk]
 | .rwp id sz l n, K => by simp only [renK, AV.ren, Yk]
 | .opq id, K => by simp only [renK, AV.ren, Yk]
 | .fp id sz i k, K => by simp only [renK, AV.ren, Yk]
theorem Ycv (ρ : Nat -> Nat) : ∀ (xs : List AV) (K : List AV -> Prop), Yhw ρ xs K ↔ K (AV.renL ρ xs)
 | [], K => Iff.rfl
 | x :: xs, K => by simp only [Yhw, AV.renL]; rw [Ykf ρ x, Ycv ρ xs]
end
mutual
def AV.ids (p : Nat -> Bool) : AV -> Bool
 | .v _ => true
 | .ptr id _ => p id
 | .sl id _ _ _ => p id
 | .slc id _ _ _ => p id
 | .emp id => p id
 | .agg cs => AV.idsL p cs
 | .tup cs => AV.idsL p cs
 | .fn _ a b => match AV.idsL p a with | true => AV.idsL p b | false => false
 | .ifc _ x => AV.ids p x
 | .mp id => p id
 | .yl id => p id
 | .held x => AV.ids p x
 | .junk => true
 | .si _ _ => true
 | .sb _ => true
 | .ss _ => true
 | .rs _ _ => true
 | .rp _ _ _ _ => true
 | .rw id => p id
 | .ep id _ _ _ => p id
 | .rwp id _ _ _ => p id
 | .opq id => p id
 | .fp id _ _ _ => p id
def AV.idsL (p : Nat -> Bool) : List AV -> Bool
 | [] => true
 | x :: xs => match AV.ids p x with | true => AV.idsL p xs | false => false
end
mutual
theorem Ygs {p : Nat -> Bool} {φ φ' : Phi} {ρ : Nat -> Nat} (h : ∀ i, p i = true -> φ' (ρ i) = φ i) : ∀ x : AV, x.ids p = true -> (x.ren ρ).conc φ' = x.conc φ
 | .v _, _ => rfl
 | .ptr id k, hx => by simp only [AV.ren, AV.conc, h id hx]
 | .sl id a b c, hx => by simp only [AV.ren, AV.conc, h id hx]
 | .slc id a b c, hx => by simp only [AV.ren, AV.conc, h id hx]
 | .emp id, hx => by simp only [AV.ren, AV.conc, h id hx]
 | .agg cs, hx => by simp only [AV.ren, AV.conc, Yca h cs hx]
 | .tup cs, hx => by simp only [AV.ren, AV.conc, Yca h cs hx]
 | .fn f a b, hx => by
  unfold AV.ids at hx
  split at hx
  ·rename_i h1;simp only [AV.ren, AV.conc, Yca h a h1, Yca h b hx]
  ·cases hx
 | .ifc t x, hx => by simp only [AV.ren, AV.conc, Ygs h x hx]
 | .mp id, hx => by simp only [AV.ren, AV.conc, h id hx]
 | .yl id, hx => by simp only [AV.ren, AV.conc, h id hx]
 | .held _, _ => rfl
 | .junk, _ => rfl
 | .si _ _, _ => rfl
 | .sb _, _ => rfl
 | .ss _, _ => rfl
 | .rs _ _, _ => rfl
 | .rp _ _ _ _, _ => rfl
 | .rw id, hx => by simp only [AV.ren, AV.conc, h id hx]
 | .ep id _ _ _, hx => by simp only [AV.ren, AV.conc, h id hx]
 | .rwp id _ _ _, hx => by simp only [AV.ren, AV.conc, h id hx]
 | .opq id, hx => by simp only [AV.ren, AV.conc, h id hx]
 | .fp id _ _ _, hx => by simp only [AV.ren, AV.conc, h id hx]
theorem Yca {p : Nat -> Bool} {φ φ' : Phi} {ρ : Nat -> Nat} (h : ∀ i, p i = true -> φ' (ρ i) = φ i) : ∀ xs : List AV, AV.idsL p xs = true -> AV.concL φ' (AV.renL ρ xs) = AV.concL φ xs
 | [], _ => rfl
 | x :: xs, hx => by
  unfold AV.idsL at hx
  split at hx
  ·rename_i h1;simp only [AV.renL, AV.concL, Ygs h x h1, Yca h xs hx]
  ·cases hx
end
def It.ren (ρ : Nat -> Nat) : It -> It
 | .blk T cs => .blk T (AV.renL ρ cs)
 | .row T sz n cs => .row T sz n (AV.renL ρ cs)
 | .rowV T sz n xs => .rowV T sz n xs
 | .obj x => .obj x
 | .lp L cs => .lp L (AV.renL ρ cs)
 | .dead => .dead
 | .arr T ts xs => .arr T ts xs
 | .bk T ts xs j => .bk T ts xs (ρ j)
 | .bkv T sz n cs j => .bkv T sz n (AV.renL ρ cs) (ρ j)
 | .nst T ts xs => .nst T ts xs
 | .fro ts xs => .fro ts xs
def Yw6 (ρ : Nat -> Nat) : It -> (It -> Prop) -> Prop
 | .blk T cs, K => Yhw ρ cs fun cs => K (.blk T cs)
 | .row T sz n cs, K => Yhw ρ cs fun cs => K (.row T sz n cs)
 | .rowV T sz n xs, K => K (.rowV T sz n xs)
 | .obj x, K => K (.obj x)
 | .lp L cs, K => Yhw ρ cs fun cs => K (.lp L cs)
 | .dead, K => K .dead
 | .arr T ts xs, K => K (.arr T ts xs)
 | .bk T ts xs j, K => Y5 (ρ j) fun j => K (.bk T ts xs j)
 | .bkv T sz n cs j, K => Y5 (ρ j) fun j => Yhw ρ cs fun cs => K (.bkv T sz n cs j)
 | .nst T ts xs, K => K (.nst T ts xs)
 | .fro ts xs, K => K (.fro ts xs)
theorem Yhx {ρ : Nat -> Nat} {x : It} {K : It -> Prop} : Yw6 ρ x K ↔ K (x.ren ρ) := by
 cases x <;> simp only [Yw6, It.ren, Ycv, Yk]
def It.ids (p : Nat -> Bool) : It -> Bool
 | .blk _ cs => AV.idsL p cs
 | .row _ _ _ cs => AV.idsL p cs
 | .rowV .. => true
 | .obj _ => true
 | .lp _ cs => AV.idsL p cs
 | .dead => true
 | .arr .. => true
 | .bk _ _ _ j => p j
 | .bkv _ _ _ cs j => match p j with | true => AV.idsL p cs | false => false
 | .nst .. => true
 | .fro .. => true
theorem Yoz {p : Nat -> Bool} {φ φ' : Phi} {ρ : Nat -> Nat} (h : ∀ i, p i = true -> φ' (ρ i) = φ i) {id : Nat} (hid : φ' (ρ id) = φ id) : ∀ x : It, x.ids p = true -> (x.ren ρ).conc φ' (ρ id) = x.conc φ id
 | .blk T cs, hx => by simp only [It.ren, It.conc, hid, Yca h cs hx]
 | .row T sz n cs, hx => by simp only [It.ren, It.conc, hid, Yca h cs hx]
 | .rowV .., hx => by simp only [It.ren, It.conc, hid]
 | .obj _, hx => by simp only [It.ren, It.conc, hid]
 | .lp L cs, hx => by simp only [It.ren, It.conc, hid, Yca h cs hx]
 | .dead, hx => rfl
 | .arr .., hx => by simp only [It.ren, It.conc, hid]
 | .bk _ _ _ j, hx => by simp only [It.ren, It.conc, hid, h j hx]
 | .nst .., hx => by simp only [It.ren, It.conc, hid]
 | .fro .., hx => by simp only [It.ren, It.conc, hid]
 | .bkv _ _ _ cs j, hx => by
  have hx' : (match p j with | true => AV.idsL p cs | false => false) = true := hx
  split at hx'
  ·rename_i h1;simp only [It.ren, It.conc, hid, h j h1, Yca h cs hx']
  ·cases hx'
mutual
theorem Yqh : ∀ x : AV, x.ids (fun _ => true) = true
 | .v _ => rfl
 | .ptr _ _ => rfl
 | .sl _ _ _ _ => rfl
 | .slc _ _ _ _ => rfl
 | .emp _ => rfl
 | .agg cs => Yd4 cs
 | .tup cs => Yd4 cs
 | .fn _ a b => by unfold AV.ids; rw [Yd4 a]; exact Yd4 b
 | .ifc _ x => Yqh x
 | .mp _ => rfl
 | .yl _ => rfl
 | .held x => Yqh x
 | .junk => rfl
 | .si _ _ => rfl
 | .sb _ => rfl
 | .ss _ => rfl
 | .rs _ _ => rfl
 | .rp _ _ _ _ => rfl
 | .rw _ => rfl
 | .ep _ _ _ _ => rfl
 | .rwp _ _ _ _ => rfl
 | .opq _ => rfl
 | .fp _ _ _ _ => rfl
theorem Yd4 : ∀ xs : List AV, AV.idsL (fun _ => true) xs = true
 | [] => rfl
 | x :: xs => by unfold AV.idsL; rw [Yqh x]; exact Yd4 xs
end
theorem Ymc (x : It) : x.ids (fun _ => true) = true := by cases x <;> first | rfl | exact Yd4 _
mutual
theorem Yvj : ∀ x : AV, x.ren (fun i => i) = x
 | .v _ => rfl
 | .ptr _ _ => rfl
 | .sl _ _ _ _ => rfl
 | .slc _ _ _ _ => rfl
 | .emp _ => rfl
 | .agg cs => by simp only [AV.ren, Yi4 cs]
 | .tup cs => by simp only [AV.ren, Yi4 cs]
 | .fn _ a b => by simp only [AV.ren, Yi4 a, Yi4 b]
 | .ifc _ x => by simp only [AV.ren, Yvj x]
 | .mp _ => rfl
 | .yl _ => rfl
 | .held x => by simp only [AV.ren, Yvj x]
 | .junk => rfl
 | .si _ _ => rfl
 | .sb _ => rfl
 | .ss _ => rfl
 | .rs _ _ => rfl
 | .rp _ _ _ _ => rfl
 | .rw _ => rfl
 | .ep _ _ _ _ => rfl
 | .rwp _ _ _ _ => rfl
 | .opq _ => rfl
 | .fp _ _ _ _ => rfl
theorem Yi4 : ∀ xs : List AV, AV.renL (fun i => i) xs = xs
 | [] => rfl
 | x :: xs => by simp only [AV.renL, Yvj x, Yi4 xs]
end
theorem Yip {p : Nat -> Bool} {φ φ' : Phi} (h : ∀ i, p i = true -> φ' i = φ i) (x : AV) (hx : x.ids p = true) : x.conc φ' = x.conc φ := by
 have := Ygs (p := p) (ρ := fun i => i) (φ := φ) (φ' := φ') h x hx;rwa [Yvj] at this
theorem Yut {p : Nat -> Bool} {φ φ' : Phi} (h : ∀ i, p i = true -> φ' i = φ i) {id : Nat} (hid : p id = true) (x : It) (hx : x.ids p = true) : x.conc φ' id = x.conc φ id := by
 have := Yoz (p := p) (ρ := fun i => i) (φ := φ) (φ' := φ') h (id := id) (h id hid) x hx;have e : x.ren (fun i => i) = x := by cases x <;> simp only [It.ren, Yi4]
 rwa [e] at this
def rIn (i : Nat) : Nat := 3 * i + 1
def rOut (d i : Nat) : Nat := match Nat.beq (i % 3) 1 with | true => i / 3 | false => 3 * (i * 1024 + d) + 2
mutual
def AV.lead : AV -> List Nat -> List Nat
 | .v _, acc => acc
 | .ptr id _, acc => id :: acc
 | .sl id _ _ _, acc => id :: acc
 | .slc id _ _ _, acc => id :: acc
 | .emp id, acc => id :: acc
 | .agg cs, acc => AV.leadL cs acc
 | .tup cs, acc => AV.leadL cs acc
 | .fn _ a b, acc => AV.leadL a (AV.leadL b acc)
 | .ifc _ x, acc => AV.lead x acc
 | .mp id, acc => id :: acc
 | .yl id, acc => id :: acc
 | .held x, acc => AV.lead x acc
 | .junk, acc => acc
 | .si _ _, acc => acc
 | .sb _, acc => acc
 | .ss _, acc => acc
 | .rs _ _, acc => acc
 | .rp _ _ _ _, acc => acc
 | .rw id, acc => id :: acc
 | .ep id _ _ _, acc => id :: acc
 | .rwp id _ _ _, acc => id :: acc
 | .opq id, acc => id :: acc
 | .fp id _ _ _, acc => id :: acc
def AV.leadL : List AV -> List Nat -> List Nat
 | [], acc => acc
 | x :: xs, acc => AV.lead x (AV.leadL xs acc)
end
def It.lead : It -> List Nat -> List Nat
 | .blk _ cs, acc => AV.leadL cs acc
 | .row _ _ _ cs, acc => AV.leadL cs acc
 | .lp _ cs, acc => AV.leadL cs acc
 | .bk _ _ _ j, acc => j :: acc
 | .bkv _ _ _ cs j, acc => j :: AV.leadL cs acc
 | _, acc => acc
def Yg0 (p : Nat -> Bool) (hp : Heap) : Nat -> List Nat -> Heap -> (Heap -> Prop) -> Prop
 | 0, _, _, _ => Stuck 48
 | _ + 1, [], hs, K => K hs
 | n + 1, i :: is, hs, K => match p i with
  | false => Yg0 p hp n is hs K
  | true => match look hs i with
   | some _ => Yg0 p hp n is hs K
   | none => match look hp i with
    | none => Yg0 p hp n is hs K
    | some it => Yg0 p hp n (it.lead is) ((i, it) :: hs) K
theorem Yb6 {p : Nat -> Bool} {hp : Heap} : ∀ {n : Nat} {is : List Nat} {hs : Heap} {K : Heap -> Prop}, PartOf hs hp -> (∀ i ∈ keys hs, p i = true) -> Yg0 p hp n is hs K -> ∃ hs', PartOf hs' hp /\ (∀ i ∈ keys hs', p i = true) /\ K hs'
 | 0, _, _, _, _, _, h => h.elim
 | _ + 1, [], hs, K, hpart, hall, h => ⟨hs, hpart, hall, h⟩
 | n + 1, i :: is, hs, K, hpart, hall, h => by
  unfold Yg0 at h
  split at h
  ·exact Yb6 hpart hall h
  ·rename_i hpi
   split at h
   ·exact Yb6 hpart hall h
   ·rename_i hno
    split at h
    ·exact Yb6 hpart hall h
    ·rename_i it hit;refine Yb6 ⟨?_, ?_⟩ ?_ h
     ·simp only [keys, List.map_cons, List.nodup_cons];refine ⟨fun hm => ?_, hpart.nd⟩;obtain ⟨q, hq, e⟩ := List.mem_map.1 hm;have := Ybw hpart.nd hq;rw [e, hno] at this;cases this
     ·intro q hq;rcases List.mem_cons.1 hq with rfl | hq
      ·exact hit
      ·exact hpart.all q hq
     ·intro k hk;simp only [keys, List.map_cons, List.mem_cons] at hk;rcases hk with rfl | hk
      ·exact hpi
      ·exact hall k hk
def nilA (a : Array Value) : Bool := match a with | ⟨[]⟩ => true | ⟨_ :: _⟩ => false
theorem Yh8 {a : Array Value} (h : nilA a = true) : a = #[] := by
 obtain ⟨l⟩ := a;cases l with
 | nil => rfl
 | cons _ _ => cases h
def Yvf (f g : Fn) : Bool := match f, g with | .func i, .func j => Nat.beq i j | _, _ => false
theorem Yt5 {f g : Fn} (h : Yvf f g = true) : f = g := by
 unfold Yvf at h
 split at h
 ·rw [Yd.1 h]
 ·cases h
def Y4f : Value -> Value -> Bool
 | .int k n, .int k' n' => decide (k = k') && decide (n = n')
 | .string a, .string b => decide (a.data = b.data)
 | _, _ => false
def Yvy : List Value -> List Value -> Bool
 | [], [] => true
 | x :: xs, y :: ys => Y4f x y && Yvy xs ys
 | _, _ => false
theorem Yxp {a b : Value} (h : Y4f a b = true) : a = b := by
 unfold Y4f at h
 split at h
 ·simp only [Bool.and_eq_true, decide_eq_true_eq] at h;rw [h.1, h.2]
 ·rename_i a b;simp only [decide_eq_true_eq] at h;obtain ⟨d⟩ := a;obtain ⟨d'⟩ := b;rw [show d = d' from h]
 ·cases h
theorem Yl9 : ∀ {a b : List Value}, Yvy a b = true -> a = b
 | [], [], _ => rfl
 | [], _ :: _, h => by cases h
 | _ :: _, [], h => by cases h
 | x :: xs, y :: ys, h => by
  simp only [Yvy, Bool.and_eq_true] at h;rw [Yxp h.1, Yl9 h.2]
def Ycr : Value -> Value -> Bool
 | .int k n, .int k' n' => decide (k = k') && decide (n = n')
 | .bool a, .bool b => match a, b with | true, true => true | false, false => true | _, _ => false
 | .string a, .string b => decide (a.data = b.data)
 | .pointer none, .pointer none => true
 | .slice none n c, .slice none n' c' => Nat.beq n n' && Nat.beq c c'
 | .map none, .map none => true
 | .nilFunc, .nilFunc => true
 | .nilIface, .nilIface => true
 | .iface t v, .iface t' v' => Nat.beq t t' && Ycr v v'
 | .func f a c, .func f' a' c' => nilA a && nilA c && nilA a' && nilA c' && Yvf f f'
 | .agg a, .agg b => Yvy a.toList b.toList
 | _, _ => false
theorem Ydr : ∀ (a b : Value), Ycr a b = true -> a = b
 | .agg a, b, h => by
  cases b <;> simp only [Ycr, Bool.false_eq_true] at h;rename_i b;exact congrArg Value.agg (Array.ext' (Yl9 h))
 | .iface t v, b, h => by
  cases b <;> simp only [Ycr, Bool.and_eq_true, Bool.false_eq_true] at h;rw [Yd.1 h.1, Ydr v _ h.2]
 | .int k n, b, h => by cases b <;> simp_all [Ycr]
 | .bool a, b, h => by
  cases b <;> simp only [Ycr, Bool.false_eq_true] at h;rename_i b;cases a <;> cases b <;> simp_all
 | .string a, b, h => by
  cases b <;> simp only [Ycr, decide_eq_true_eq, Bool.false_eq_true] at h;rename_i b;cases a; cases b
  simp_all
 | .pointer none, b, h => by
  cases b <;> try (simp [Ycr] at h; done)
  rename_i b;cases b <;> simp_all [Ycr]
 | .pointer (some _), b, h => by simp [Ycr] at h
 | .slice none n c, b, h => by
  cases b <;> try (simp [Ycr] at h; done)
  rename_i b n' c';cases b <;> simp only [Ycr, Bool.and_eq_true, Yd, Bool.false_eq_true] at h;rw [h.1, h.2]
 | .slice (some _) n c, b, h => by simp [Ycr] at h
 | .map none, b, h => by
  cases b <;> try (simp [Ycr] at h; done)
  rename_i b;cases b <;> simp_all [Ycr]
 | .map (some _), b, h => by simp [Ycr] at h
 | .nilFunc, b, h => by cases b <;> simp_all [Ycr]
 | .nilIface, b, h => by cases b <;> simp_all [Ycr]
 | .float _ _, b, h => by simp [Ycr] at h
 | .complex _ _ _, b, h => by simp [Ycr] at h
 | .chan _, b, h => by simp [Ycr] at h
 | .func f a c, b, h => by
  cases b <;> simp only [Ycr, Bool.and_eq_true, Bool.false_eq_true] at h;obtain ⟨⟨⟨⟨h1, h2⟩, h3⟩, h4⟩, h5⟩ := h;rw [Yh8 h1, Yh8 h2, Yh8 h3, Yh8 h4, Yt5 h5]
 | .tuple _, b, h => by simp [Ycr] at h
mutual
def Ydm : AV -> AV -> Bool
 | .v a, .v b => Ycr a b
 | .ptr i k, .ptr i' k' => Nat.beq i i' && Nat.beq k k'
 | .sl i a b c, .sl i' a' b' c' => Nat.beq i i' && Nat.beq a a' && Nat.beq b b' && Nat.beq c c'
 | .mp i, .mp i' => Nat.beq i i'
 | .yl i, .yl i' => Nat.beq i i'
 | .rw i, .rw i' => Nat.beq i i'
 | .opq i, .opq i' => Nat.beq i i'
 | .ifc t x, .ifc t' x' => Nat.beq t t' && Ydm x x'
 | .agg a, .agg b => sameL a b
 | _, _ => false
def sameL : List AV -> List AV -> Bool
 | [], [] => true
 | x :: xs, y :: ys => match Ydm x y with | true => sameL xs ys | false => false
 | _, _ => false
end
mutual
theorem Yn9 : ∀ (a b : AV), Ydm a b = true -> a = b
 | .v a, b, h => by cases b <;> simp only [Ydm, Bool.false_eq_true] at h; rw [Ydr _ _ h]
 | .ptr i k, b, h => by cases b <;> simp only [Ydm, Bool.and_eq_true, Yd, Bool.false_eq_true] at h; rw [h.1, h.2]
 | .sl i x y z, b, h => by cases b <;> simp only [Ydm, Bool.and_eq_true, Yd, Bool.false_eq_true] at h; rw [h.1.1.1, h.1.1.2, h.1.2, h.2]
 | .mp i, b, h => by cases b <;> simp only [Ydm, Yd, Bool.false_eq_true] at h; rw [h]
 | .yl i, b, h => by cases b <;> simp only [Ydm, Yd, Bool.false_eq_true] at h; rw [h]
 | .ifc t x, b, h => by cases b <;> simp only [Ydm, Bool.and_eq_true, Yd, Bool.false_eq_true] at h; rw [h.1, Yn9 x _ h.2]
 | .agg a, b, h => by cases b <;> simp only [Ydm, Bool.false_eq_true] at h; rw [Ygi a _ h]
 | .slc _ _ _ _, b, h => by simp [Ydm] at h
 | .emp _, b, h => by simp [Ydm] at h
 | .tup _, b, h => by simp [Ydm] at h
 | .fn _ _ _, b, h => by simp [Ydm] at h
 | .held _, b, h => by simp [Ydm] at h
 | .junk, b, h => by simp [Ydm] at h
 | .si _ _, b, h => by simp [Ydm] at h
 | .sb _, b, h => by simp [Ydm] at h
 | .ss _, b, h => by simp [Ydm] at h
 | .rs _ _, b, h => by simp [Ydm] at h
 | .rp _ _ _ _, b, h => by simp [Ydm] at h
 | .rw i, b, h => by cases b <;> simp only [Ydm, Yd, Bool.false_eq_true] at h; rw [h]
 | .ep _ _ _ _, b, h => by simp [Ydm] at h
 | .rwp _ _ _ _, b, h => by simp [Ydm] at h
 | .opq i, b, h => by cases b <;> simp only [Ydm, Yd, Bool.false_eq_true] at h; rw [h]
theorem Ygi : ∀ (a b : List AV), sameL a b = true -> a = b
 | [], b, h => by cases b <;> simp_all [sameL]
 | x :: xs, b, h => by
  cases b with
  | nil => simp [sameL] at h
  | cons y ys =>
   unfold sameL at h
   split at h
   ·rename_i h1;rw [Yn9 x y h1, Ygi xs ys h]
   ·cases h
end
def Ywu : List MapEntry -> List MapEntry -> Bool
 | [], [] => true
 | e :: es, f :: fs => Ycr e.key f.key && Ycr e.val f.val && Nat.beq e.born f.born && Ywu es fs
 | _, _ => false
theorem Yn8 : ∀ {a b : List MapEntry}, Ywu a b = true -> a = b
 | [], b, h => by cases b <;> simp_all [Ywu]
 | e :: es, b, h => by
  cases b with
  | nil => simp [Ywu] at h
  | cons f fs =>
   simp only [Ywu, Bool.and_eq_true, Yd] at h;obtain ⟨k, v, n⟩ := e;obtain ⟨k', v', n'⟩ := f;obtain ⟨⟨⟨h1, h2⟩, h3⟩, h4⟩ := h;have e1 : k = k' := Ydr _ _ h1;have e2 : v = v' := Ydr _ _ h2;have e3 : n = n' := h3;rw [e1, e2, e3, Yn8 h4]
def Yyq : It -> It -> Bool
 | .blk T a, .blk T' b => Nat.beq T T' && sameL a b
 | .row T s n a, .row T' s' n' b => Nat.beq T T' && Nat.beq s s' && Nat.beq n n' && sameL a b
 | .obj (.sit s p), .obj (.sit s' p') => Nat.beq p p' && decide (s.data = s'.data)
 | .obj (.mpV es k), .obj (.mpV es' k') => Nat.beq k k' && Ywu es es'
 | .dead, .dead => true
 | _, _ => false
theorem Yn7 {a b : It} (h : Yyq a b = true) : a = b := by
 unfold Yyq at h
 split at h
 ·simp only [Bool.and_eq_true, Yd] at h;rw [h.1, Ygi _ _ h.2]
 ·simp only [Bool.and_eq_true, Yd] at h;rw [h.1.1.1, h.1.1.2, h.1.2, Ygi _ _ h.2]
 ·rename_i s p s' p';simp only [Bool.and_eq_true, Yd, decide_eq_true_eq] at h;obtain ⟨d⟩ := s;obtain ⟨d'⟩ := s';rw [h.1, show d = d' from h.2]
 ·simp only [Bool.and_eq_true, Yd] at h;rw [h.1, Yn8 h.2]
 ·rfl
 ·cases h
end Go.Proofs.Ytfbhampnigdaaaa
namespace Go.Proofs.Ytfbhampnigdaaaa
open Go.RowKit
variable [InW]
def Y3u (o : Oper) : Bool :=
 match o.op with
 | .alloc _ => true
 | .box _ _ => true
 | .buildSlice _ _ _ => true
 | .makeSlice _ _ _ => true
 | .slice _ _ _ _ _ => true
 | .range _ _ => true
 | .makeMap _ _ => true
 | .call _ => true
 | _ => false
def Y51 (d k : Nat) : Bool := match Nat.beq k (3 * d) with | true => true | false => (match Nat.beq (k % 3) 2 with | true => Nat.beq ((k / 3) % 1024) d | false => false)
def Y04 : List Oper -> Nat -> Bool
 | [], _ => false
 | o :: os, k => match Y3u o with | true => (match Y51 (o.dst.getD 0) k with | true => true | false => Y04 os k) | false => Y04 os k
def hitB (d d3 : Nat) : Heap -> Bool
 | [] => false
 | p :: h => match Nat.beq p.1 d3 with
  | true => true
  | false => match Nat.beq (p.1 % 3) 2 with
   | true => (match Nat.beq ((p.1 / 3) % 1024) d with | true => true | false => hitB d d3 h)
   | false => hitB d d3 h
def Y03 : List Oper -> Heap -> Bool
 | [], _ => false
 | o :: os, hp => match Y3u o with
  | true => (match hitB (o.dst.getD 0) (3 * o.dst.getD 0) hp with | true => true | false => Y03 os hp)
  | false => Y03 os hp
def tabK (ops : List Oper) : Heap -> Nat -> (List (Nat × Nat) -> Prop) -> Prop
 | [], _, K => K []
 | p :: h, m, K => match Y04 ops p.1 with
  | true => Y5 (m + 1) fun m' => tabK ops h m' fun r => Y5 (3 * m') fun i => K ((p.1, i) :: r)
  | false => tabK ops h m K
def maxK : Heap -> Nat -> Nat
 | [], m => m
 | p :: h, m => match Nat.ble (3 * m) p.1 with | true => maxK h (p.1 / 3 + 1) | false => maxK h m
def rho2 : List (Nat × Nat) -> Nat -> Nat
 | [], i => i
 | q :: t, i => match Nat.beq q.1 i with | true => q.2 | false => rho2 t i
def Yhn : List (Nat × Nat) -> Nat -> Option Nat
 | [], _ => none
 | q :: t, y => match Nat.beq q.2 y with | true => some q.1 | false => Yhn t y
def Yer : List Nat -> Bool
 | [] => true
 | x :: xs => match xs.contains x with | true => false | false => Yer xs
def oldB (t : List (Nat × Nat)) (i : Nat) : Bool := match Yhn t i with | some _ => false | none => true
def tabB (t : List (Nat × Nat)) : Bool := match t with
 | [] => true
 | q :: t => match Yhn t q.2 with
  | some _ => false
  | none => match Nat.beq (q.2 % 3) 1 with | true => false | false => tabB t
def Y5i (t : List (Nat × Nat)) (tm : List AV) (hp : Heap) : Bool := tabB t && AV.idsL (oldB t) tm && (hp.all fun p => oldB t p.1 && p.2.ids (oldB t)) && Yer (hp.map fun p => rho2 t p.1)
def Yvl (t : List (Nat × Nat)) : Heap -> (Heap -> Prop) -> Prop
 | [], K => K []
 | p :: h, K => Y5 (rho2 t p.1) fun i => Yw6 (rho2 t) p.2 fun x => Yvl t h fun r => K ((i, x) :: r)
def Yyy (t : List (Nat × Nat)) (h : Heap) : Heap := h.map fun p => (rho2 t p.1, p.2.ren (rho2 t))
theorem Yog {t : List (Nat × Nat)} : ∀ {h : Heap} {K : Heap -> Prop}, Yvl t h K ↔ K (Yyy t h)
 | [], K => Iff.rfl
 | p :: h, K => by simp only [Yvl, Yk, Yhx, Yog (h := h), Yyy, List.map_cons]
def Y4k : Heap -> List Nat
 | [] => []
 | p :: h => match Nat.beq (p.1 % 3) 1 with | true => p.1 :: Y4k h | false => Y4k h
def Yy1 (n : Nat) (ops : List Oper) (tm : List AV) (hp : Heap) (K : List AV -> Heap -> Prop) : Prop :=
 match Y03 ops hp with
 | false => K tm hp
 | true => Yg0 (fun _ => true) hp n (AV.leadL tm (Y4k hp)) [] fun hs => tabK ops hs (maxK hs 1024) fun t => match t with
  | [] => K tm hs
  | q :: t => Yc (Y5i (q :: t) tm hs) (Yhw (rho2 (q :: t)) tm fun tm' => Yvl (q :: t) hs fun hp' => K tm' hp')
theorem Y24 {t : List (Nat × Nat)} (ht : tabB t = true) {φ : Phi} {i : Nat} (hi : oldB t i = true) : (match Yhn t (rho2 t i) with | some o => φ o | none => φ (rho2 t i)) = φ i := by
 induction t with
 | nil => rfl
 | cons q t ih =>
  unfold tabB at ht
  split at ht
  ·cases ht
  ·rename_i h1
   split at ht
   ·cases ht
   ·have hi2 : oldB t i = true /\ ¬ q.2 = i := by
     unfold oldB Yhn at hi
     split at hi
     ·cases hi
     ·rename_i hb
      split at hb
      ·cases hb
      ·rename_i hne;exact ⟨by unfold oldB; rw [hb], Y2.1 hne⟩
    unfold rho2;cases hb : Nat.beq q.1 i with
    | true =>
     simp only [Yhn, Nat.beq_refl];rw [Yd.1 hb]
    | false =>
     have := ih ht hi2.1;simp only;unfold Yhn;cases hb2 : Nat.beq q.2 (rho2 t i) with
     | false => exact this
     | true =>
      exfalso;have e := Yd.1 hb2;have key : ∀ (t : List (Nat × Nat)) (j : Nat), rho2 t j = j \/ Yhn t (rho2 t j) ≠ none := by
       intro t
       induction t with
       | nil => intro j; exact .inl rfl
       | cons r t ih2 =>
        intro j;unfold rho2;cases hr : Nat.beq r.1 j with
        | true => right; simp [Yhn, Nat.beq_refl]
        | false =>
         simp only;rcases ih2 j with h | h
         ·exact .inl h
         ·right;unfold Yhn
          split
          ·simp
          ·exact h
      rcases key t i with h | h
      ·exact hi2.2 (by rw [e, h])
      ·rw [<- e] at h;exact h h1
theorem Ybe : ∀ {l : List Nat}, Yer l = true -> l.Nodup
 | [], _ => List.nodup_nil
 | x :: xs, h => by
  unfold Yer at h
  split at h
  ·cases h
  ·rename_i h1;refine List.nodup_cons.2 ⟨fun hm => ?_, Ybe h⟩;rw [List.contains_iff_mem.2 hm] at h1;cases h1
theorem Yvc : ∀ {t : List (Nat × Nat)}, tabB t = true -> ∀ y, Yhn t y ≠ none -> y % 3 ≠ 1
 | [], _, y, h => absurd rfl h
 | q :: t, ht, y, h => by
  unfold tabB at ht
  split at ht
  ·cases ht
  ·split at ht
   ·cases ht
   ·rename_i hm;unfold Yhn at h
    split at h
    ·rename_i hb; rw [<- Yd.1 hb]; exact Y2.1 hm
    ·exact Yvc ht y h
theorem RepS.sub {φ0 φ : Phi} {w0 : World} {M : List Nat} {R : RL} {tm : List AV} {hp hs : Heap} {a : Act} {w : World} (h : RepS φ0 φ w0 M R tm hp a w) (hp' : PartOf hs hp) : RepS φ0 φ w0 M R tm hs a w := by
 refine ⟨h.tmps, ?_, hp'.nd, h.base⟩;have := h.st.perm ((Yu (hp'.perm h.nd)).append (List.Perm.refl R));rw [Yp, List.append_assoc] at this;exact this.sub ((List.Sublist.refl _).append (List.sublist_append_right _ _))
theorem Yhv (ρ : Nat -> Nat) : ∀ (xs : List AV) (t : Nat), (AV.renL ρ xs)[t]? = (xs[t]?).map (AV.ren ρ)
 | [], t => by simp [AV.renL]
 | x :: xs, 0 => by simp [AV.renL]
 | x :: xs, t + 1 => by simpa [AV.renL] using Yhv ρ xs t
theorem Y1z {ρ : Nat -> Nat} {x : AV} (h : (x.ren ρ).rd = true) : x.rd = true := by cases x <;> first | rfl | exact h
theorem Yp3 (ρ : Nat -> Nat) (x : AV) : (x.ren ρ).isHeld = x.isHeld := by cases x <;> rfl
theorem Yjd (ρ : Nat -> Nat) : ∀ tm : List AV, Ybt (AV.renL ρ tm) = (Ybt tm).map (AV.ren ρ)
 | [] => rfl
 | x :: xs => by rw [AV.renL, Ybh, Ybh, Yjd ρ xs]; cases x <;> rfl
theorem Yqi {p : Nat -> Bool} : ∀ {xs : List AV}, AV.idsL p xs = true -> ∀ x ∈ xs, x.ids p = true
 | [], _, x, hx => by cases hx
 | y :: ys, h, x, hx => by
  unfold AV.idsL at h
  split at h
  ·rename_i h1;rcases List.mem_cons.1 hx with rfl | hx
   ·exact h1
   ·exact Yqi h x hx
  ·cases h
theorem Ylt {n : Nat} {ops : List Oper} {tm : List AV} {hp : Heap} {K : List AV -> Heap -> Prop} (h : Yy1 n ops tm hp K) : ∃ tm' hp', K tm' hp' /\
  ∀ (φ0 φ : Phi) (w0 : World) (M : List Nat) (R : RL) (a : Act) (w : World), RepS φ0 φ w0 M R tm hp a w -> ∃ φ', RepS φ0 φ' w0 M R tm' hp' a w := by
 unfold Yy1 at h
 split at h
 ·exact ⟨tm, hp, h, fun φ0 φ w0 M R a w hr => ⟨φ, hr⟩⟩
 ·obtain ⟨hs, hpart, _, h1⟩ := Yb6 (PartOf.nil hp) (by simp [keys]) h;have htab : ∀ {h : Heap} {m : Nat} {K : List (Nat × Nat) -> Prop}, tabK ops h m K -> ∃ t, K t := by
   intro h
   induction h with
   | nil => intro m K hk; exact ⟨[], hk⟩
   | cons p h ih =>
    intro m K hk;unfold tabK at hk
    split at hk
    ·obtain ⟨r, hr⟩ := ih (Yk.1 hk);exact ⟨_, Yk.1 hr⟩
    ·exact ih hk
  obtain ⟨t, h2⟩ := htab h1
  split at h2
  ·exact ⟨tm, hs, h2, fun φ0 φ w0 M R a w hr => ⟨φ, hr.sub hpart⟩⟩
  ·rename_i q t;generalize q :: t = t at h2;obtain ⟨hB, h3⟩ := Ya h2;simp only [Y5i, Bool.and_eq_true] at hB;obtain ⟨⟨⟨b1, b2⟩, b3⟩, b4⟩ := hB;have h4 := Yog.1 ((Ycv _ _ _).1 h3);refine ⟨_, _, h4, fun φ0 φ w0 M R a w hr0 => ?_⟩;have hr := hr0.sub hpart;obtain ⟨φ', hdef⟩ : ∃ φ' : Phi, φ' = fun y => match Yhn t y with | some o => φ o | none => φ y := ⟨_, rfl⟩
   have hφ : ∀ i, oldB t i = true -> φ' (rho2 t i) = φ i := fun i hi => by rw [hdef]; exact Y24 b1 hi
   refine ⟨φ', ⟨⟨fun s v hv hh => ?_, fun s v hv hh => ?_, fun s v hv hj => ?_, ?_, ?_⟩, ?_, ?_, fun x => ?_⟩⟩
   ·rw [Yhv, Option.map_eq_some_iff] at hv;obtain ⟨u, hu, rfl⟩ := hv;exact hr.tmps.size s u hu (by rw [<- Yp3 (rho2 t), hh])
   ·rw [Yhv, Option.map_eq_some_iff] at hv;obtain ⟨u, hu, rfl⟩ := hv;exact hr.tmps.held s u hu (by rw [<- Yp3 (rho2 t), hh])
   ·rw [Yhv, Option.map_eq_some_iff] at hv;obtain ⟨u, hu, rfl⟩ := hv;rw [hr.tmps.slot s u hu (Y1z hj), Ygs hφ u (Yqi b2 u (List.mem_of_getElem? hu))]
   ·rw [Yjd, List.map_map];rw [hr.tmps.df]
    congr 1
    refine List.map_congr_left fun x hx => ?_;have := Yqi b2 _ (Yet hx);unfold Yfc;simp only [Function.comp, Yfc, Ygs hφ x this]
   ·have : (AV.renL (rho2 t) tm).length = tm.length := by
     have := congrArg List.length (Yca hφ tm b2);simpa [Yg] using this
    rw [this]; exact hr.tmps.len
   ·have e : Yb φ' (Yyy t hs) = Yb φ hs := by
     unfold Yb Yyy;rw [List.map_map];refine List.map_congr_left fun p hp' => ?_;have := List.all_eq_true.1 b3 p hp';rw [Bool.and_eq_true] at this;exact Yoz hφ (hφ p.1 this.1) p.2 this.2
    rw [e];exact hr.st
   ·have := Ybe b4;simpa [keys, Yyy, Function.comp_def] using this
   ·have hno : Yhn t (3 * x + 1) = none := by
     cases hb : Yhn t (3 * x + 1) with
     | none => rfl
     | some o => exact absurd (by omega) (Yvc b1 (3 * x + 1) (by rw [hb]; simp))
    rw [hdef];simp only [hno];exact hr.base x
end Go.Proofs.Ytfbhampnigdaaaa
namespace Go.Proofs.Ytfbhampnigdaaaa
open Go.RowKit
variable [InW]
attribute [local irreducible] Go.Oper.wp
def Yzy (e : Ev) (i : Nat) : Bool := !(e.val.has i) && !(hasH i e.us) && !(hasH i e.nw)
def Yge (e : Ev) : Heap -> Bool
 | [] => true
 | p :: h => match Yzy e p.1 with | true => Yge e h | false => false
def disjB : Heap -> Heap -> Bool
 | [], _ => true
 | p :: a, b => match look b p.1 with | none => disjB a b | some _ => false
def indB (ol : List Oper) (e f : Ev) : Bool := e.o.apart ol.toArray f.o && disjB e.us f.hs && disjB f.us e.hs && disjB e.nw f.hs && Yge f e.nw
def Y35 (ol : List Oper) (ms : List Nat) (p q : Nat × Ev) : Bool :=
 match Yge p.2 q.2.nw with
 | false => false
 | true => match (nthN ms q.1).testBit p.1 with | true => true | false => indB ol p.2 q.2
def Yvo (ol : List Oper) (ms : List Nat) : Todo -> Bool
 | [] => true
 | p :: r => match r.all (Y35 ol ms p) with | true => Yvo ol ms r | false => false
def Yih (tm : List AV) (hp : Heap) : Todo -> Bool
 | [] => true
 | p :: r => match Ysb p.2.nw tm hp with | true => Yih tm hp r | false => false
def Y5w (ol : List Oper) (tm : List AV) (hp : Heap) (r : Todo) : Bool := Yx4 ol 0 && Yih tm hp r && Yvo ol (Ydk ol []) r
abbrev KD := Todo -> Nat -> Ev -> List AV -> Heap -> Prop
def Yqw (c : Cx) (ol : List Oper) (KP : KD) : List Oper -> Nat -> Todo -> List AV -> Heap -> (Todo -> List AV -> Heap -> Prop) -> Prop
 | [], _, acc, tm, hp, K => K acc tm hp
 | o :: rest, i, acc, tm, hp, K => Yv4 ol o tm
   (Y1k c o tm hp (fun val hs us nw => Yve ol o val fun val => Yfl hp us fun hp' => Yfb hp' nw fun hp' => putK tm o.dst val fun tm' => Yqw c ol KP rest (i + 1) ((i, ⟨o, false, val, hs, us, nw⟩) :: acc) tm' hp' K) (fun val hs us nw => KP acc i ⟨o, false, val, hs, us, nw⟩ tm hp))
   (putK tm o.dst (.v undef) fun tm' => Yqw c ol KP rest (i + 1) ((i, ⟨o, true, .v undef, [], [], []⟩) :: acc) tm' hp K)
def Y5v (ol : List Oper) (tm : List AV) (hp : Heap) (r : Todo) (j : Nat) (f : Ev) : Bool := false
def Y2j (ds : List (Option Tmp)) : List AV -> Nat -> (List AV -> Prop) -> Prop
 | [], _, K => K []
 | x :: xs, t, K => match ds.contains (some t) with
  | true => (match x with
   | .held y => Y2j ds xs (t + 1) fun r => K (.held y :: r)
   | _ => Y2j ds xs (t + 1) fun r => K (.junk :: r))
  | false => Y2j ds xs (t + 1) fun r => K (x :: r)
def Y3f (c : Cx) (ol : List Oper) (tm : List AV) (hp : Heap) (K : KX) : Prop :=
 Yqw c ol (fun acc j f tm' hp' => Yc (Y5v ol tm hp acc.reverse j f) (Yfl hp' f.us fun hp' => Yfb hp' f.nw fun hp' => Y2j (ol.map (·.dst)) tm 0 fun tmj => K (.pan f.val) tmj hp')) ol 0 [] tm hp
  fun acc tm' hp' => Yc (Y5w ol tm hp acc.reverse) (K .norm tm' hp')
theorem Yup {e : Ev} {i : Nat} (h : Yzy e i = true) : e.lacks i := by
 simp only [Yzy, Bool.and_eq_true, Bool.not_eq_true'] at h;exact ⟨h.1.1, h.1.2, h.2⟩
theorem Yem {e : Ev} : ∀ {h : Heap}, Yge e h = true -> ∀ i ∈ keys h, e.lacks i
 | [], _, i, hi => by simp [keys] at hi
 | p :: h, hb, i, hi => by
  unfold Yge at hb
  split at hb
  ·rename_i h1;simp only [keys, List.map_cons, List.mem_cons] at hi;rcases hi with rfl | hi
   ·exact Yup h1
   ·exact Yem hb i hi
  ·cases hb
theorem Ygr : ∀ {a b : Heap}, disjB a b = true -> disj (keys a) (keys b)
 | [], b, _, i, hi => by simp [keys] at hi
 | p :: a, b, h, i, hi => by
  unfold disjB at h
  split at h
  ·rename_i h1;simp only [keys, List.map_cons, List.mem_cons] at hi;rcases hi with rfl | hi
   ·intro hm;obtain ⟨q, hq, e⟩ := List.mem_map.1 hm;have : look b p.1 ≠ none := by
     intro h2;have hx : ∀ {h : Heap} {i : Nat}, look h i = none -> i ∉ keys h := by
      intro h
      induction h with
      | nil => intro i _ hm; simp [keys] at hm
      | cons r h ih =>
       intro i hl hm;rw [Yr] at hl
       split at hl
       ·cases hl
       ·rename_i hne;simp only [keys, List.map_cons, List.mem_cons] at hm;rcases hm with e | hm
        ·exact hne e.symm
        ·exact ih hl hm
     exact hx h2 hm
    exact this h1
   ·exact Ygr h i hi
  ·cases h
theorem Yz3 {ol : List Oper} {e f : Ev} (h : indB ol e f = true) : Ind ol e f := by
 simp only [indB, Bool.and_eq_true] at h;exact ⟨h.1.1.1.1, Ygr h.1.1.1.2, Ygr h.1.1.2, Ygr h.1.2, Yem h.2⟩
theorem Yxd {ol : List Oper} {p q : Nat × Ev} (h : Y35 ol (Ydk ol []) p q = true) : PairOk ol p q := by
 unfold Y35 at h
 split at h
 ·cases h
 ·rename_i h1;refine ⟨Yem h1, ?_⟩
  split at h
  ·rename_i h2; exact .inl (Yph h2)
  ·exact .inr (Yz3 h)
theorem Ylw {ol : List Oper} : ∀ {r : Todo}, Yvo ol (Ydk ol []) r = true -> r.Pairwise (PairOk ol)
 | [], _ => List.Pairwise.nil
 | p :: r, h => by
  unfold Yvo at h
  split at h
  ·rename_i h1;exact List.Pairwise.cons (fun q hq => Yxd (List.all_eq_true.1 h1 q hq)) (Ylw h)
  ·cases h
theorem Yg2 {tm : List AV} {hp : Heap} : ∀ {r : Todo}, Yih tm hp r = true -> ∀ p ∈ r, NewFor (keys p.2.nw) tm hp /\ (keys p.2.nw).Nodup /\ ∀ i ∈ keys p.2.nw, i % 3 ≠ 1
 | [], _, p, hp => by cases hp
 | q :: r, h, p, hp => by
  unfold Yih at h
  split at h
  ·rename_i h1;rcases List.mem_cons.1 hp with rfl | hp
   ·exact Ydu h1
   ·exact Yg2 h p hp
  ·cases h
structure StepW (P : Program) (ol : List Oper) (e : Ev) (tm : List AV) (hp : Heap) : Prop where
 part : PartOf e.hs hp
 sub : ∀ i ∈ keys e.us, i ∈ keys e.hs
 run : (e.skip = true /\ WantA ol e.o tm false /\ e.val = .v undef /\ e.us = [] /\ e.nw = []) \/ (e.skip = false /\ WantA ol e.o tm true /\ DoesW P e.o tm e.hs e.val e.us e.nw)
def ChainW (P : Program) (ol : List Oper) : Todo -> List AV -> Heap -> List AV -> Heap -> Prop
 | [], tm, hp, tm', hp' => tm = tm' /\ hp = hp'
 | p :: r, tm, hp, tm', hp' => StepW P ol p.2 tm hp /\ ChainW P ol r (p.2.tm tm) (p.2.hp hp) tm' hp'
theorem ChainW.chain {P : Program} {ol : List Oper} {tm' : List AV} {hp' : Heap} : ∀ {r : Todo} {tm : List AV} {hp : Heap}, ChainW P ol r tm hp tm' hp' -> (∀ p ∈ r, (keys p.2.nw).Nodup /\ ∀ i ∈ keys p.2.nw, i % 3 ≠ 1) -> Y1g P ol r tm hp tm' hp'
 | [], _, _, h, _ => h
 | p :: r, tm, hp, h, hn => ⟨⟨h.1.part, h.1.sub, (hn p List.mem_cons_self).1, (hn p List.mem_cons_self).2, h.1.run⟩, h.2.chain fun q hq => hn q (List.mem_cons_of_mem _ hq)⟩
structure StepWP (P : Program) (ol : List Oper) (f : Ev) (tm : List AV) (hp : Heap) : Prop where
 part : PartOf f.hs hp
 sub : ∀ i ∈ keys f.us, i ∈ keys f.hs
 want : WantA ol f.o tm true
 does : DoesPW P f.o tm f.hs f.val f.us f.nw
theorem Ykv {c : Cx} {ol : List Oper} {KP : KD} (hc : HandOkR c) : ∀ (l : List Oper) (i : Nat) (acc : Todo) (tm : List AV) (hp : Heap) (K : Todo -> List AV -> Heap -> Prop), Yqw c ol KP l i acc tm hp K ->
  (∃ (r : Todo) (tm' : List AV) (hp' : Heap), K (r.reverse ++ acc) tm' hp' /\ ChainW c.P ol r tm hp tm' hp' /\ r.map (·.1) = List.range' i l.length /\ r.map (·.2.o) = l) \/
  (∃ (r : Todo) (f : Ev) (tm' : List AV) (hp' : Heap), KP (r.reverse ++ acc) (i + r.length) f tm' hp' /\ ChainW c.P ol r tm hp tm' hp' /\ r.map (·.1) = List.range' i r.length /\ (∃ rest, r.map (·.2.o) ++ f.o :: rest = l) /\ StepWP c.P ol f tm' hp')
 | [], i, acc, tm, hp, K, h => .inl ⟨[], tm, hp, h, ⟨rfl, rfl⟩, rfl, rfl⟩
 | o :: rest, i, acc, tm, hp, K, h => by
  have fin : ∀ (e : Ev), e.o = o -> StepW c.P ol e tm hp -> Yqw c ol KP rest (i + 1) ((i, e) :: acc) (e.tm tm) (e.hp hp) K ->
    (∃ (r : Todo) (tm' : List AV) (hp' : Heap), K (r.reverse ++ acc) tm' hp' /\ ChainW c.P ol r tm hp tm' hp' /\ r.map (·.1) = List.range' i (o :: rest).length /\ r.map (·.2.o) = o :: rest) \/
    (∃ (r : Todo) (f : Ev) (tm' : List AV) (hp' : Heap), KP (r.reverse ++ acc) (i + r.length) f tm' hp' /\ ChainW c.P ol r tm hp tm' hp' /\ r.map (·.1) = List.range' i r.length /\ (∃ rest', r.map (·.2.o) ++ f.o :: rest' = o :: rest) /\ StepWP c.P ol f tm' hp') := by
   intro e he hs h1;rcases Ykv hc rest (i + 1) _ _ _ K h1 with ⟨r, tm', hp', h2, h3, h4, h5⟩ | ⟨r, f, tm', hp', h2, h3, h4, ⟨rest', h5⟩, h6⟩
   ·exact .inl ⟨(i, e) :: r, tm', hp', by simpa using h2, ⟨hs, h3⟩, by simp [h4, List.range'_succ], by simp [h5, he]⟩
   ·refine .inr ⟨(i, e) :: r, f, tm', hp', ?_, ⟨hs, h3⟩, by simp [h4, List.range'_succ], ⟨rest', by simp [h5, he]⟩, h6⟩;have e1 : i + ((i, e) :: r).length = i + 1 + r.length := by simp only [List.length_cons]; omega
    rw [e1];simpa using h2
  rcases Ymh h with ⟨hw, h1⟩ | ⟨hw, h1⟩
  ·rcases Ykw hc h1 with ⟨val, hs, us, nw, h2, hpart, hu, hd⟩ | ⟨val, hs, us, nw, h2, hpart, hu, hd⟩
   ·obtain ⟨val, h2, he⟩ := Yle h2
    replace hd := hd.same he
    have h3 := Yh1 (Yc9.1 (Ydy.1 h2));exact fin ⟨o, false, val, hs, us, nw⟩ rfl ⟨hpart, hu, .inr ⟨rfl, hw, hd⟩⟩ h3
   ·exact .inr ⟨[], ⟨o, false, val, hs, us, nw⟩, tm, hp, h2, ⟨rfl, rfl⟩, rfl, ⟨rest, rfl⟩, ⟨hpart, hu, hw, hd⟩⟩
  ·have h3 := Yh1 h1;exact fin ⟨o, true, .v undef, [], [], []⟩ rfl ⟨.nil _, Ygw, .inl ⟨rfl, hw, rfl, rfl, rfl⟩⟩ h3
abbrev BigC (P : Program) (cd : Code) := Big (fun Q a w => ∀ r, cd.wpIn (wF r) 0 P Q a w)
theorem Y46 {r : Option Nat} (f : FuncId) : (wF r).fn f := trivial
theorem RepS.drew {φ0 φ : Phi} {w0 : World} {M : List Nat} {R : RL} {tm : List AV} {hp : Heap} {a : Act} {w : World} (h : RepS φ0 φ w0 M R tm hp a w) : RepS φ0 φ w0 M R tm hp a { w with drawn := w.drawn + 1 } := ⟨h.tmps, h.st.drew, h.nd, h.base⟩
theorem Yq3 {c : Cx} {ol : List Oper} (hc : HandOkR c) (hm : c.P.follows .mixedOrders = true) {id : Nat} {tm : List AV} {hp : Heap} {K : KX} (h : Y3f c ol tm hp K) : ∃ x tm' hp', K x tm' hp' /\ BigC c.P (.region id ol.toArray true) tm hp x tm' hp' := by
 rcases Ykv hc ol 0 [] tm hp _ h with ⟨r, tm', hp', h1, h2, h3, h4⟩ | ⟨r, f, tm', hp', h1, h2, h3, ⟨rest, h4⟩, h6⟩
 ·rw [List.append_nil, List.reverse_reverse] at h1;obtain ⟨hB, h5⟩ := Ya h1;simp only [Y5w, Bool.and_eq_true] at hB;have hfr := Yg2 hB.1.2;have hch := h2.chain fun p hp => (hfr p hp).2;have hlen : r.length = ol.length := by rw [<- List.length_map (f := (·.1)), h3]; simp
  refine ⟨.norm, tm', hp', h5, fun φ0 φ w0 M R a w hr Q kk rr => wpIn_region_any hm ?_⟩;refine Yqn hB.1.1 (fun φ' a' w' hr' hD => kk φ' .normal a' w' rfl hr' hD) _ r _ tm hp φ a _ (by simp [hlen]) ⟨fun k hk => ?_, fun p hp => ?_, ?_, by simp⟩ (LClosed.start _ _) hch (Ylw hB.2) (fun p hp => (hfr p hp).1) hr.drew rfl
  ·rw [h3];simp [hk]
  ·obtain ⟨n, hn, rfl⟩ := List.getElem_of_mem hp;have e1 : r[n].1 = n := by
    have := congrArg (·[n]?) h3;simpa [hn, hlen ▸ hn] using this
   have e2 : ol[n]? = some r[n].2.o := by
    have := congrArg (·[n]?) h4;simpa [hn] using this.symm
   rw [e1];exact ⟨by omega, e2⟩
  ·have : (r.map (·.1)).Pairwise (· < ·) := by rw [h3]; exact List.pairwise_lt_range'
   exact List.pairwise_map.1 this
 ·rw [List.append_nil, List.reverse_reverse, Nat.zero_add] at h1;obtain ⟨hB, h5⟩ := Ya h1;cases hB
theorem Yc3 {P : Program} {b : Frame} {a : Act} {k : List Item} {cs : List Frame} {w : World} {c : Code} : step P (lone (b.atR a (.code (.scope c) :: k)) cs w) = .next (lone (b.atR a (.code c :: .inScope c :: k)) cs w) := step_lone_go (by simp [stepG, stepG.exec, Frame.atR])
theorem Ypz {P : Program} {b : Frame} {a : Act} {k : List Item} {cs : List Frame} {w : World} {c : Code} : step P (lone (b.atR a (.inScope c :: k)) cs w) = .next (lone (b.atR a k) cs w) := step_lone_go (by simp [stepG, stepG.exec, Frame.atR])
theorem Yg5 {F : Fence} {n : Nat} {P : Program} {Q : Exit -> Act -> World -> Prop} {a : Act} {w : World} {c : Code} (h : c.wpIn F n P (Exit.noGoto Q) a w) : (Code.scope c).wpIn F n P Q a w := by
 intro b k cs hro hb hr;obtain ⟨e, a₁, w₁, hq, harr⟩ := h b (.inScope c :: k) cs hro hb hr;have h0 : (lone (b.atR a (.code (.scope c) :: k)) cs w).fenced P F := fenced_calm hb hr rfl;cases e with
 | normal => exact ⟨.normal, a₁, w₁, hq, .head h0 Yc3 (StepsIn.trans harr (.one (fenced_calm hb hr rfl) Ypz))⟩
 | exit id => exact ⟨.exit id, a₁, w₁, hq, fun k' hk => .head h0 Yc3 (harr.1 k' (by simp [exitTo, hk])), fun hr' hk =>
   let ⟨k₁, h1, h2⟩ := harr.2 hr' (by simp [exitTo, hk]); ⟨k₁, h1, .head h0 Yc3 h2⟩⟩
 | goto l => exact hq.elim
 | ret => exact ⟨_, a₁, w₁, hq, .of_steps (.one h0 Yc3) harr⟩
 | panic ch => exact ⟨_, a₁, w₁, hq, .of_steps (.one h0 Yc3) harr⟩
 | outgrown => exact ⟨_, a₁, w₁, hq, .of_steps (.one h0 Yc3) harr⟩
def Yzs (body : List AV -> Heap -> KX -> Prop) : Nat -> List AV -> Heap -> KX -> Prop
 | 0, _, _, _ => Stuck 45
 | n + 1, tm, hp, K => body tm hp fun x tm hp => match x with | .norm => Yzs body n tm hp K | x => K x tm hp
def Ydx (c : Cx) (n : Nat) : Code -> List AV -> Heap -> KX -> Prop
 | .skip, tm, hp, K => K .norm tm hp
 | .label _, tm, hp, K => K .norm tm hp
 | .region _ ops draw, tm, hp, K => Yy1 n ops.toList tm hp fun tm hp => match draw with | true => Y3f c ops.toList tm hp K | false => Y1j c ops.toList ops.toList tm hp K
 | .seq a b, tm, hp, K => Ydx c n a tm hp fun x tm hp => match x with | .norm => Ydx c n b tm hp K | x => K x tm hp
 | .cond x a b, tm, hp, K => evK tm x fun v => match v with | .v (.bool t) => vcIf t (Ydx c n a tm hp K) (Ydx c n b tm hp K) | .sb t => Vif t (Ydx c n a tm hp K) (Ydx c n b tm hp K) | _ => Stuck 46
 | .block id a, tm, hp, K => Ydx c n a tm hp fun x tm hp => match x with | .exit i => (match Nat.beq i id with | true => K .norm tm hp | false => K (.exit i) tm hp) | x => K x tm hp
 | .loop a, tm, hp, K => Yzs (Ydx c n a) n tm hp K
 | .scope a, tm, hp, K => Ydx c n a tm hp K
 | .exit i, tm, hp, K => K (.exit i) tm hp
 | .ret, tm, hp, K => K .ret tm hp
 | _, _, _, _ => Stuck 47
theorem Big.mono {W W' : (Exit -> Act -> World -> Prop) -> Act -> World -> Prop} {tm tm' : List AV} {hp hp' : Heap} {x : AX} (h : Big W tm hp x tm' hp') (hw : ∀ Q a w, W Q a w -> W' Q a w) : Big W' tm hp x tm' hp' := fun φ0 φ w0 M R a w hr Q kk => hw _ _ _ (h φ0 φ w0 M R a w hr Q kk)
theorem Yoq {P : Program} {cd : Code} {body : List AV -> Heap -> KX -> Prop} (hb : ∀ tm hp K, body tm hp K -> ∃ x tm' hp', K x tm' hp' /\ BigC P cd tm hp x tm' hp') : ∀ (n : Nat) (tm : List AV) (hp : Heap) (K : KX), Yzs body n tm hp K ->
  ∃ x tm' hp', K x tm' hp' /\ Big (fun Q a w => ∀ r, Code.roundsIn (wF r) 0 P cd Q n a w) tm hp x tm' hp'
 | 0, tm, hp, K, h => h.elim
 | n + 1, tm, hp, K, h => by
  obtain ⟨x, tm1, hp1, h1, h2⟩ := hb _ _ _ h;have key : (∀ φ e, x.is φ e -> e ≠ .normal) -> K x tm1 hp1 -> ∃ x tm' hp', K x tm' hp' /\ Big (fun Q a w => ∀ r, Code.roundsIn (wF r) 0 P cd Q (n + 1) a w) tm hp x tm' hp' := fun hx hk => by
   refine ⟨x, tm1, hp1, hk, fun φ0 φ w0 M R a w hr Q kk => ?_⟩;intro r;rw [roundsIn_succ];refine h2 φ0 φ w0 M R a w hr _ (fun φ' e a' w' he hr' hd => ?_) r;have hne := hx φ' e he;cases e <;> first | exact absurd rfl hne | exact kk φ' _ a' w' he hr' hd
  cases x with
  | norm =>
   obtain ⟨x2, tm2, hp2, h3, h4⟩ := Yoq hb n _ _ K h1;refine ⟨x2, tm2, hp2, h3, fun φ0 φ w0 M R a w hr Q kk => ?_⟩;intro r;rw [roundsIn_succ];refine h2 φ0 φ w0 M R a w hr _ (fun φ' e a' w' he hr' hd => ?_) r;cases he;exact h4 φ0 φ' w0 M R a' w' hr' Q (fun φ2 e a2 w2 he2 hr2 hd2 => kk φ2 e a2 w2 he2 hr2 (hd2.trans hd)) r
  | exit i => exact key (fun φ e he => by cases he; simp) h1
  | ret => exact key (fun φ e he => by cases he; simp) h1
  | pan v => exact key (fun φ e he => by cases he; simp) h1
theorem Y7 {c : Cx} (hc : HandOkR c) (hm : c.P.follows .mixedOrders = true) (n : Nat) : ∀ (cd : Code) (tm : List AV) (hp : Heap) (K : KX), Ydx c n cd tm hp K -> ∃ x tm' hp', K x tm' hp' /\ BigC c.P cd tm hp x tm' hp'
 | .skip, tm, hp, K, h => ⟨.norm, tm, hp, h, fun φ0 φ w0 M R a w hr Q kk r => wpIn_skip (kk φ _ a w rfl hr rfl)⟩
 | .label _, tm, hp, K, h => ⟨.norm, tm, hp, h, fun φ0 φ w0 M R a w hr Q kk r => wpIn_label (kk φ _ a w rfl hr rfl)⟩
 | .exit i, tm, hp, K, h => ⟨.exit i, tm, hp, h, fun φ0 φ w0 M R a w hr Q kk r => wpIn_exit (kk φ _ a w rfl hr rfl)⟩
 | .ret, tm, hp, K, h => ⟨.ret, tm, hp, h, fun φ0 φ w0 M R a w hr Q kk r => wpIn_ret (kk φ _ a w rfl hr rfl)⟩
 | .region id ops draw, tm, hp, K, h => by
  obtain ⟨l⟩ := ops;obtain ⟨tm1, hp1, h0, hpre⟩ := Ylt h;have pre : ∀ {W : (Exit -> Act -> World -> Prop) -> Act -> World -> Prop} {x : AX} {tm' : List AV} {hp' : Heap}, Big W tm1 hp1 x tm' hp' -> Big W tm hp x tm' hp' := fun hb φ0 φ w0 M R a w hr Q kk => by
   obtain ⟨φ', hr'⟩ := hpre φ0 φ w0 M R a w hr;exact hb φ0 φ' w0 M R a w hr' Q kk
  cases draw with
  | true =>
   obtain ⟨x, tm', hp', h1, h2⟩ := Yq3 hc hm h0;exact ⟨x, tm', hp', h1, pre h2⟩
  | false =>
   obtain ⟨x, tm', hp', h1, h2⟩ := Yg7 hc l tm1 hp1 K h0;exact ⟨x, tm', hp', h1, pre (h2.mono fun Q a w hw r => Yku Y46 (hw r))⟩
 | .seq a b, tm, hp, K, h => by
  obtain ⟨x, tm1, hp1, h1, h2⟩ := Y7 hc hm n a tm hp _ h;have key : (∀ φ e, x.is φ e -> e ≠ .normal) -> K x tm1 hp1 -> ∃ x tm' hp', K x tm' hp' /\ BigC c.P (.seq a b) tm hp x tm' hp' := fun hx hk => by
   refine ⟨x, tm1, hp1, hk, fun φ0 φ w0 M R ac w hr Q kk r => wpIn_seq (h2 φ0 φ w0 M R ac w hr _ (fun φ' e a' w' he hr' hd => ?_) r)⟩;have hne := hx φ' e he;cases e <;> first | exact absurd rfl hne | exact kk φ' _ a' w' he hr' hd
  cases x with
  | norm =>
   obtain ⟨x2, tm2, hp2, h3, h4⟩ := Y7 hc hm n b tm1 hp1 K h1;refine ⟨x2, tm2, hp2, h3, fun φ0 φ w0 M R ac w hr Q kk r => wpIn_seq (h2 φ0 φ w0 M R ac w hr _ (fun φ' e a' w' he hr' hd => ?_) r)⟩;cases he;exact h4 φ0 φ' w0 M R a' w' hr' Q (fun φ2 e a2 w2 he2 hr2 hd2 => kk φ2 e a2 w2 he2 hr2 (hd2.trans hd)) r
  | exit i => exact key (fun φ e he => by cases he; simp) h1
  | ret => exact key (fun φ e he => by cases he; simp) h1
  | pan v => exact key (fun φ e he => by cases he; simp) h1
 | .cond x a b, tm, hp, K, h => by
  obtain ⟨v, hj, hx, h1⟩ := Ye h
  try dsimp only at h1
  split at h1
  ·rename_i t;rcases Yfj h1 with ⟨rfl, h2⟩ | ⟨rfl, h2⟩
   ·obtain ⟨x', tm', hp', h3, h4⟩ := Y7 hc hm n a tm hp K h2;exact ⟨x', tm', hp', h3, fun φ0 φ w0 M R ac w hr Q kk r => wpIn_cond_true (hr.tmps.ev hx (by simp)) (h4 φ0 φ w0 M R ac w hr Q kk r)⟩
   ·obtain ⟨x', tm', hp', h3, h4⟩ := Y7 hc hm n b tm hp K h2;exact ⟨x', tm', hp', h3, fun φ0 φ w0 M R ac w hr Q kk r => wpIn_cond_false (hr.tmps.ev hx (by simp)) (h4 φ0 φ w0 M R ac w hr Q kk r)⟩
  ·rename_i t;rcases Vif.spec h1 with ⟨rfl, h2⟩ | ⟨rfl, h2⟩
   ·obtain ⟨x', tm', hp', h3, h4⟩ := Y7 hc hm n a tm hp K h2;exact ⟨x', tm', hp', h3, fun φ0 φ w0 M R ac w hr Q kk r => wpIn_cond_true (hr.tmps.ev hx (by simp)) (h4 φ0 φ w0 M R ac w hr Q kk r)⟩
   ·obtain ⟨x', tm', hp', h3, h4⟩ := Y7 hc hm n b tm hp K h2;exact ⟨x', tm', hp', h3, fun φ0 φ w0 M R ac w hr Q kk r => wpIn_cond_false (hr.tmps.ev hx (by simp)) (h4 φ0 φ w0 M R ac w hr Q kk r)⟩
  ·exact h1.elim
 | .block id a, tm, hp, K, h => by
  obtain ⟨x, tm1, hp1, h1, h2⟩ := Y7 hc hm n a tm hp _ h;cases x with
  | exit i =>
   cases hb : Nat.beq i id with
   | true =>
    simp only [hb] at h1;refine ⟨.norm, tm1, hp1, h1, fun φ0 φ w0 M R ac w hr Q kk r => wpIn_block (h2 φ0 φ w0 M R ac w hr _ (fun φ' e a' w' he hr' hd => ?_) r)⟩;cases he;simp only [Exit.inBlock, Yd.1 hb, if_true];exact kk φ' .normal a' w' rfl hr' hd
   | false =>
    simp only [hb] at h1;refine ⟨.exit i, tm1, hp1, h1, fun φ0 φ w0 M R ac w hr Q kk r => wpIn_block (h2 φ0 φ w0 M R ac w hr _ (fun φ' e a' w' he hr' hd => ?_) r)⟩;cases he;simp only [Exit.inBlock, Y2.1 hb, if_false];exact kk φ' _ a' w' rfl hr' hd
  | norm => exact ⟨.norm, tm1, hp1, h1, fun φ0 φ w0 M R ac w hr Q kk r => wpIn_block (h2 φ0 φ w0 M R ac w hr _ (fun φ' e a' w' he hr' hd => by cases he; exact kk φ' _ a' w' rfl hr' hd) r)⟩
  | ret => exact ⟨.ret, tm1, hp1, h1, fun φ0 φ w0 M R ac w hr Q kk r => wpIn_block (h2 φ0 φ w0 M R ac w hr _ (fun φ' e a' w' he hr' hd => by cases he; exact kk φ' _ a' w' rfl hr' hd) r)⟩
  | pan v => exact ⟨.pan v, tm1, hp1, h1, fun φ0 φ w0 M R ac w hr Q kk r => wpIn_block (h2 φ0 φ w0 M R ac w hr _ (fun φ' e a' w' he hr' hd => by cases he; exact kk φ' _ a' w' rfl hr' hd) r)⟩
 | .loop a, tm, hp, K, h => by
  obtain ⟨x, tm', hp', h1, h2⟩ := Yoq (P := c.P) (cd := a) (fun tm hp K h => Y7 hc hm n a tm hp K h) n tm hp K h;exact ⟨x, tm', hp', h1, h2.mono fun Q a w hw r => wpIn_loop_rounds n (hw r)⟩
 | .scope a, tm, hp, K, h => by
  obtain ⟨x, tm1, hp1, h1, h2⟩ := Y7 hc hm n a tm hp _ h;refine ⟨x, tm1, hp1, h1, fun φ0 φ w0 M R ac w hr Q kk r => Yg5 (h2 φ0 φ w0 M R ac w hr _ (fun φ' e a' w' he hr' hd => ?_) r)⟩;cases x <;> cases he <;> exact kk φ' _ a' w' rfl hr' hd
 | .rangeFunc .., tm, hp, K, h => h.elim
 | .goto _, tm, hp, K, h => h.elim
 | .refuse _, tm, hp, K, h => h.elim
end Go.Proofs.Ytfbhampnigdaaaa
namespace Go.Proofs.Ytfbhampnigdaaaa
open Go.RowKit
variable [InW]
attribute [local irreducible] Go.Oper.wp
def Yw8 (ρ : Nat -> Nat) : Heap -> (Heap -> Prop) -> Prop
 | [], K => K []
 | p :: h, K => Y5 (ρ p.1) fun i => Yw6 ρ p.2 fun x => Yw8 ρ h fun r => K ((i, x) :: r)
def renH (ρ : Nat -> Nat) (h : Heap) : Heap := h.map fun p => (ρ p.1, p.2.ren ρ)
theorem Yhy {ρ : Nat -> Nat} : ∀ {h : Heap} {K : Heap -> Prop}, Yw8 ρ h K ↔ K (renH ρ h)
 | [], K => Iff.rfl
 | p :: h, K => by simp only [Yw8, Yk, Yhx, Yhy (h := h), renH, List.map_cons]
def Yvk (ρ : Nat -> Nat) : Heap -> (Heap -> Prop) -> Prop
 | [], K => K []
 | p :: h, K => Yw6 ρ p.2 fun x => Yvk ρ h fun r => K ((p.1, x) :: r)
def Yw7 (ρ : Nat -> Nat) (h : Heap) : Heap := h.map fun p => (p.1, p.2.ren ρ)
theorem Yof {ρ : Nat -> Nat} : ∀ {h : Heap} {K : Heap -> Prop}, Yvk ρ h K ↔ K (Yw7 ρ h)
 | [], K => Iff.rfl
 | p :: h, K => by simp only [Yvk, Yhx, Yof (h := h), Yw7, List.map_cons]
def Ypj : Nat -> (List AV -> Prop) -> Prop
 | 0, K => K []
 | n + 1, K => Ypj n fun r => K (.v undef :: r)
theorem Ykz : ∀ {n : Nat} {K : List AV -> Prop}, Ypj n K ↔ K (List.replicate n (.v undef))
 | 0, K => Iff.rfl
 | n + 1, K => by simp only [Ypj, Ykz (n := n), List.replicate_succ]
def padK : List AV -> Nat -> (List AV -> Prop) -> Prop
 | [], n, K => Ypj n K
 | x :: xs, n, K => match n with | 0 => Stuck 49 | n + 1 => padK xs n fun r => K (x :: r)
theorem Ylx : ∀ {xs : List AV} {n : Nat} {K : List AV -> Prop}, padK xs n K -> K (xs ++ List.replicate (n - xs.length) (.v undef))
 | [], n, K, h => by simpa using Ykz.1 h
 | x :: xs, 0, K, h => h.elim
 | x :: xs, n + 1, K, h => by simpa using Ylx (xs := xs) h
def Yhu (tt : Tr TI) (tm : List AV) (hp : Heap) : List ResultVar -> (List AV -> Prop) -> Prop
 | [], K => K []
 | r :: rs, K => match r with
  | .tmp t => getK tm t fun v => Yvq v fun v => Yhu tt tm hp rs fun vs => K (v :: vs)
  | .cell p T => getK tm p fun a => match a with
   | .ptr i k => Yv hp i fun it => Yzw tt T it k fun v => Yhu tt tm hp rs fun vs => K (v :: vs)
   | _ => Stuck 50
def outA : List AV -> AV
 | [v] => v
 | vs => .tup vs
theorem Y2h {tt : Tr TI} {P : Program} (ht : TabOk P tt) {T : TypeId} {it : It} {i j : Nat} {K : AV -> Prop} (h : Yzw tt T it j K) : ∃ v, K v /\ ∀ (φ : Phi) (w0 : World) (M : List Nat) (R : RL) (w : World), St w0 M (it.conc φ i :: R) w -> (loadVar T ⟨(φ i).b, j, none⟩).run P w = .ok (v.conc φ) w := by
 have key : ∀ cs, (∀ φ, it.vals φ = AV.concL φ cs) -> Yqe tt T cs j K -> ∃ v, K v /\ ∀ (φ : Phi) (w0 : World) (M : List Nat) (R : RL) (w : World), St w0 M (it.conc φ i :: R) w -> (loadVar T ⟨(φ i).b, j, none⟩).run P w = .ok (v.conc φ) w := by
  intro cs hcs h;have h1 := Yl ht h
  split at h1
  ·rename_i ha;obtain ⟨v, h2, h3⟩ := Ybp h1;exact ⟨v, h3, fun φ w0 M R w hS => Yot (Ycn (Yci ha) (Ybg hS (Yib hcs h2 φ)))⟩
  ·rename_i ha
   split at h1
   ·rename_i n hn;obtain ⟨h2, h3⟩ := Ycd h1;obtain ⟨h4, h5⟩ := Yb0 h3;refine ⟨_, h5, fun φ w0 M R w hS => Yot (Ydh (Yci ha) (Ycw hn) (by rw [Yg, List.length_take]; omega) fun j' u hj => ?_)⟩;refine Ybg hS ?_;rw [hcs, <- List.getElem?_drop, <- Yex];rw [Ydw, List.getElem?_take] at hj
    split at hj
    ·exact hj
    ·cases hj
   ·exact h1.elim
  ·exact h1.elim
 cases it with
 | blk T' cs => exact key cs (fun φ => rfl) h
 | row T' sz n cs => exact key cs (fun φ => rfl) h
 | rowV _ _ _ _ => exact h.elim
 | obj _ => exact h.elim
 | lp _ _ => exact h.elim
 | dead => exact h.elim
 | arr _ _ _ => exact h.elim
 | bk _ _ _ _ => exact h.elim
 | bkv _ _ _ _ _ => exact h.elim
 | nst _ _ _ => exact h.elim
 | fro _ _ => exact h.elim
theorem Yxk {hp : Heap} (hn : (keys hp).Nodup) {i : Nat} {it : It} (h : look hp i = some it) {φ : Phi} {w0 w : World} {M : List Nat} {R : RL} (hS : St w0 M (Yb φ hp ++ R) w) : ∃ R', St w0 M (it.conc φ i :: R') w := by
 have := hS.perm ((Yu ((PartOf.one h).perm hn)).append (List.Perm.refl R));exact ⟨_, by simpa [Yb] using this⟩
theorem Yef {tt : Tr TI} {P : Program} (ht : TabOk P tt) {tm : List AV} {hp : Heap} : ∀ {rs : List ResultVar} {K : List AV -> Prop}, Yhu tt tm hp rs K -> ∃ vs, K vs /\ vs.length = rs.length /\
  ∀ (φ0 φ : Phi) (w0 : World) (M : List Nat) (R : RL) (a : Act) (w : World), RepS φ0 φ w0 M R tm hp a w -> (rs.mapM (resM a.tmps)).run P w = .ok (AV.concL φ vs) w
 | [], K, h => ⟨[], h, rfl, fun _ _ _ _ _ _ _ _ => rfl⟩
 | r :: rs, K, h => by
  cases r with
  | tmp t =>
   obtain ⟨v, h1, h2⟩ := Ybp h;obtain ⟨hj, h3⟩ := Yhd h2;obtain ⟨vs, h4, h5, h6⟩ := Yef ht h3;refine ⟨v :: vs, h4, by simp [h5], fun φ0 φ w0 M R a w hr => ?_⟩;have e : a.tmps.getD t undef = v.conc φ := by simp [Array.getD_eq_getD_getElem?, hr.tmps.slot t v h1 hj]
   simp only [List.mapM_cons, Sem.run_bind, resM, e, Sem.run_pure, Result.andThen_ok, h6 φ0 φ w0 M R a w hr, AV.concL]
  | cell p T =>
   obtain ⟨x, h1, h2⟩ := Ybp h
   try dsimp only at h2
   split at h2
   ·rename_i i k;obtain ⟨it, h3, h4⟩ := Yf h2;obtain ⟨v, h5, h6⟩ := Y2h (i := i) ht h4;obtain ⟨vs, h7, h8, h9⟩ := Yef ht h5;refine ⟨v :: vs, h7, by simp [h8], fun φ0 φ w0 M R a w hr => ?_⟩;have e : a.tmps.getD p undef = .pointer (some ⟨(φ i).b, k, none⟩) := by
     have := hr.tmps.slot p _ h1 (by simp);simp only [AV.conc] at this;simp [Array.getD_eq_getD_getElem?, this]
    obtain ⟨R', hS⟩ := Yxk hr.nd h3 hr.st;simp only [List.mapM_cons, Sem.run_bind, resM, e, asAddr, Sem.run_pure, Result.andThen_ok, h6 φ w0 M R' w hS, h9 φ0 φ w0 M R a w hr, AV.concL]
   ·exact h2.elim
theorem Ylq {fn : Func} {P : Program} {a : Act} {w : World} {φ : Phi} {vs : List AV} (hl : vs.length = fn.results.toList.length) (h : (fn.results.toList.mapM (resM a.tmps)).run P w = .ok (AV.concL φ vs) w) : (results fn a.tmps).run P w = .ok ((outA vs).conc φ) w := by
 have h2 : (fn.results.mapM (resM a.tmps)).run P w = .ok (AV.concL φ vs).toArray w := by
  rw [Array.mapM_eq_mapM_toList, map_eq_pure_bind, Sem.run_bind, h];rfl
 rw [Yrw, Sem.run_bind, h2];simp only [Result.andThen_ok];cases vs with
 | nil => rfl
 | cons v vs =>
  cases vs with
  | nil => rfl
  | cons u us => simp [AV.concL, outA, AV.conc]
def chgK (hpF : Heap) : Heap -> (Heap -> Prop) -> Prop
 | [], K => K []
 | p :: hs, K => Yv hpF (rIn p.1) fun x => Yw6 rIn p.2 fun x0 => match Yyq x x0 with
  | true => chgK hpF hs K
  | false => chgK hpF hs fun r => K ((p.1, x) :: r)
inductive Chg (hpF : Heap) : Heap -> Heap -> Heap -> Prop
 | nil : Chg hpF [] [] []
 | same {i : Nat} {x : It} {hs ch hsF : Heap} (hl : look hpF (rIn i) = some (x.ren rIn)) (t : Chg hpF hs ch hsF) : Chg hpF ((i, x) :: hs) ch ((rIn i, x.ren rIn) :: hsF)
 | chg {i : Nat} {x y : It} {hs ch hsF : Heap} (hl : look hpF (rIn i) = some y) (t : Chg hpF hs ch hsF) : Chg hpF ((i, x) :: hs) ((i, y) :: ch) ((rIn i, y) :: hsF)
theorem Ymr {hpF : Heap} : ∀ {hs : Heap} {K : Heap -> Prop}, chgK hpF hs K -> ∃ ch hsF, Chg hpF hs ch hsF /\ K ch
 | [], K, h => ⟨[], [], .nil, h⟩
 | (i, x) :: hs, K, h => by
  obtain ⟨y, h1, h2⟩ := Yf h;have h3 := Yhx.1 h2
  split at h3
  ·rename_i hs';obtain ⟨ch, hsF, h4, h5⟩ := Ymr h3;have e := Yn7 hs';subst e;exact ⟨ch, _, .same h1 h4, h5⟩
  ·obtain ⟨ch, hsF, h4, h5⟩ := Ymr h3;exact ⟨_, _, .chg h1 h4, h5⟩
theorem Chg.keys {hpF hs ch hsF : Heap} (h : Chg hpF hs ch hsF) : keys hsF = (keys hs).map rIn /\ (∀ i ∈ keys ch, i ∈ keys hs) /\ ∀ p ∈ hsF, look hpF p.1 = some p.2 := by
 induction h with
 | nil => exact ⟨rfl, by simp [Go.Proofs.Ytfbhampnigdaaaa.keys], by simp⟩
 | same hl t ih =>
  refine ⟨by simp only [Go.Proofs.Ytfbhampnigdaaaa.keys, List.map_cons] at ih ⊢; rw [ih.1], fun i hi => ?_, fun p hp => ?_⟩
  ·simp only [Go.Proofs.Ytfbhampnigdaaaa.keys, List.map_cons, List.mem_cons]; exact .inr (ih.2.1 i hi)
  ·rcases List.mem_cons.1 hp with rfl | hp
   ·exact hl
   ·exact ih.2.2 p hp
 | chg hl t ih =>
  refine ⟨by simp only [Go.Proofs.Ytfbhampnigdaaaa.keys, List.map_cons] at ih ⊢; rw [ih.1], fun i hi => ?_, fun p hp => ?_⟩
  ·simp only [Go.Proofs.Ytfbhampnigdaaaa.keys, List.map_cons, List.mem_cons] at hi ⊢;exact hi.imp id (ih.2.1 i)
  ·rcases List.mem_cons.1 hp with rfl | hp
   ·exact hl
   ·exact ih.2.2 p hp
theorem Ytn {i : Nat} {x y : It} {hs : Heap} : ∀ {pre : Heap}, i ∉ keys pre -> upd (pre ++ (i, x) :: hs) i y = pre ++ (i, y) :: hs
 | [], _ => by simp [upd, Nat.beq_refl]
 | p :: pre, h => by
  simp only [keys, List.map_cons, List.mem_cons, not_or] at h;simp only [List.cons_append, upd, Y2.2 (Ne.symm h.1)];rw [Ytn h.2]
theorem Y23 {hpF : Heap} {φ φ' φF : Phi} {ks : List Nat} {p : Nat -> Bool} {ρ : Nat -> Nat} (hag : Agree ks φ φ') (hF : ∀ x, φF (rIn x) = φ x) (hρ : ∀ i, p i = true -> φ' (ρ i) = φF i) :
  ∀ {hs ch hsF : Heap}, Chg hpF hs ch hsF -> ∀ pre : Heap, (∀ i ∈ keys hs, i ∉ keys pre) -> (keys hs).Nodup -> (∀ k ∈ ks, hasH k hs = false) -> (ch.all fun q => q.2.ids p) = true -> (∀ i ∈ keys hs, ρ (rIn i) = i) ->
   Yb φ' (Yh (pre ++ hs) (Yw7 ρ ch)) = Yb φ' pre ++ Yb φF hsF := by
 intro hs ch hsF h
 induction h with
 | nil => intro pre _ _ _ _ _; simp [Yw7, Yh, Yb]
 | @same i x hs ch hsF hl t ih =>
  intro pre hd hn hk hp hρi;simp only [keys, List.map_cons, List.nodup_cons, List.mem_cons, forall_eq_or_imp] at hd hn hρi;have hk' : ∀ k ∈ ks, i ≠ k /\ x.has k = false /\ hasH k hs = false := fun k hkk => by
   have := hk k hkk;simp only [hasH, Bool.or_eq_false_iff, Y2] at this;exact ⟨this.1.1, this.1.2, this.2⟩
  have := ih (pre ++ [(i, x)]) (fun j hj hm => by
   rw [Ybk] at hm;rcases List.mem_append.1 hm with hm | hm
   ·exact hd.2 j hj hm
   ·simp [keys] at hm; subst hm; exact hn.1 hj) hn.2 (fun k hkk => (hk' k hkk).2.2) hp hρi.2
  rw [List.append_assoc, List.singleton_append] at this;rw [this, Yp, List.append_assoc]
  congr 1
  have e1 : x.conc φ' i = x.conc φ i := Ygp hag (fun hm => (hk' i hm).1 rfl) x fun k hkk => (hk' k hkk).2.1;have e2 : (x.ren rIn).conc φF (rIn i) = x.conc φ i := Yoz (p := fun _ => true) (fun j _ => hF j) (hF i) x (Ymc x);simp [Yb, e1, e2]
 | @chg i x y hs ch hsF hl t ih =>
  intro pre hd hn hk hp hρi;simp only [keys, List.map_cons, List.nodup_cons, List.mem_cons, forall_eq_or_imp] at hd hn hρi;simp only [List.all_cons, Bool.and_eq_true] at hp;have hk' : ∀ k ∈ ks, i ≠ k /\ x.has k = false /\ hasH k hs = false := fun k hkk => by
   have := hk k hkk;simp only [hasH, Bool.or_eq_false_iff, Y2] at this;exact ⟨this.1.1, this.1.2, this.2⟩
  have := ih (pre ++ [(i, y.ren ρ)]) (fun j hj hm => by
   rw [Ybk] at hm;rcases List.mem_append.1 hm with hm | hm
   ·exact hd.2 j hj hm
   ·simp [keys] at hm; subst hm; exact hn.1 hj) hn.2 (fun k hkk => (hk' k hkk).2.2) hp.2 hρi.2
  simp only [Yw7, List.map_cons, Yh] at this ⊢;rw [Ytn hd.1];rw [List.append_assoc, List.singleton_append] at this;rw [this, Yp, List.append_assoc]
  congr 1
  have hi0 : φ' i = φF (rIn i) := by rw [hF i]; exact hag i fun hm => (hk' i hm).1 rfl
  have e2 : (y.ren ρ).conc φ' i = y.conc φF (rIn i) := by
   have := Yoz (p := p) (φ := φF) (φ' := φ') (ρ := ρ) hρ (id := rIn i) (by rw [hρi.1, hi0]) y hp.1;rwa [hρi.1] at this
  simp [Yb, e2]
def Yxs (d : Nat) (nwc : Heap) (i : Nat) : Bool :=
 match Nat.beq (i % 3) 1 with
 | true => (match look (renH (rOut d) nwc) (i / 3) with | some _ => false | none => true)
 | false => (match look nwc i with | some _ => true | none => false)
def Y3l (d : Nat) (v : AV) (ch nwc : Heap) : Bool := Nat.blt d 1024 && v.ids (Yxs d nwc) && (ch.all fun q => q.2.ids (Yxs d nwc)) && (nwc.all fun q => q.2.ids (Yxs d nwc))
def Y4g : Heap -> List Nat -> List Nat
 | [], acc => acc
 | p :: h, acc => p.2.lead (Y4g h acc)
def Ysl (n d : Nat) (hs : Heap) (v : AV) (hpF : Heap) (k : KE) : Prop :=
 chgK hpF hs fun ch => Yg0 (fun i => !(Nat.beq (i % 3) 1)) hpF n (v.lead (Y4g ch [])) [] fun nwc =>
  Yc (Y3l d v ch nwc) (renK (rOut d) v fun v' => Yvk (rOut d) ch fun us => Yw8 (rOut d) nwc fun nw => k v' hs us nw)
theorem Ysa {l : List Nat} (h : l.Nodup) : (l.map rIn).Nodup := List.Pairwise.map rIn (fun a b hne e => hne (by simp only [rIn] at e; omega)) h
theorem Y32 (d i : Nat) : rOut d (rIn i) = i := by
 have h1 : (3 * i + 1) % 3 = 1 := by omega
 have h2 : (3 * i + 1) / 3 = i := by omega
 simp [rOut, rIn, h1, h2, Nat.beq_refl]
theorem Y11 {d i : Nat} (h : i % 3 ≠ 1) : rOut d i = 3 * (i * 1024 + d) + 2 := by simp [rOut, Y2.2 h]
theorem Yso (ρ : Nat -> Nat) (h : Heap) : keys (renH ρ h) = (keys h).map ρ := by simp [keys, renH]
theorem Ykk {h : Heap} {i : Nat} : (∃ x, look h i = some x) ↔ i ∈ keys h := by
 constructor
 ·rintro ⟨x, hx⟩; exact Ycj hx
 ·intro hm;cases hl : look h i with
  | some x => exact ⟨x, rfl⟩
  | none =>
   exfalso
   induction h with
   | nil => simp [keys] at hm
   | cons p h ih =>
    rw [Yr] at hl
    split at hl
    ·cases hl
    ·rename_i hne;simp only [keys, List.map_cons, List.mem_cons] at hm;rcases hm with e | hm
     ·exact hne e.symm
     ·exact ih hm hl
theorem Yow {n d : Nat} {hs hpF : Heap} {v : AV} {k : KE} (hsn : (keys hs).Nodup) (h : Ysl n d hs v hpF k) : ∃ v' us nw, k v' hs us nw /\ (∀ i ∈ keys us, i ∈ keys hs) /\
  ∀ (φ φF : Phi) (w0 : World) (M : List Nat) (R : RL) (w : World), (∀ i ∈ keys nw, hasH i hs = false) -> (keys hpF).Nodup -> (∀ x, φF (3 * x + 1) = φ x) -> St w0 M (Yb φF hpF ++ R) w ->
   ∃ φ', Agree (keys nw) φ φ' /\ v'.conc φ' = v.conc φF /\ St w0 M (Yb φ' (Yh hs us ++ nw) ++ R) w := by
 obtain ⟨ch, hsF, h1, h2⟩ := Ymr h;obtain ⟨nwc, h3, h3p, h4⟩ := Yb6 (PartOf.nil _) (by simp [keys]) h2;obtain ⟨hB, h5⟩ := Ya h4;have h6 := (Ykf _ _ _).1 h5;have h7 := Yhy.1 (Yof.1 h6);simp only [Y3l, Bool.and_eq_true, Nat.blt_eq] at hB;obtain ⟨⟨⟨hd, hv⟩, hch⟩, hnw⟩ := hB;obtain ⟨k1, k2, k3⟩ := h1.keys;have hown : ∀ i ∈ keys nwc, i % 3 ≠ 1 := fun i hi => by
  have := h3p i hi;simp only [Bool.not_eq_true', Y2] at this;exact this
 refine ⟨_, _, _, h7, fun i hi => k2 i (by simpa [keys, Yw7] using hi), fun φ φF w0 M R w hfr hnd hF hS => ?_⟩
 let φ' : Phi := fun y => if y ∈ keys (renH (rOut d) nwc) then φF ((y / 3) / 1024) else φ y
 have hag : Agree (keys (renH (rOut d) nwc)) φ φ' := fun i hi => by simp only [φ', hi, if_false]
 have hback : ∀ i, i ∈ keys nwc -> φ' (rOut d i) = φF i := fun i hi => by
  have hm : rOut d i ∈ keys (renH (rOut d) nwc) := by rw [Yso]; exact List.mem_map_of_mem hi
  have e : ((rOut d i) / 3) / 1024 = i := by rw [Y11 (hown i hi)]; omega
  simp only [φ', hm, if_true, e]
 have hρ : ∀ i, Yxs d nwc i = true -> φ' (rOut d i) = φF i := fun i hi => by
  unfold Yxs at hi;cases hb : Nat.beq (i % 3) 1 with
  | true =>
   rw [hb] at hi;have h31 : i % 3 = 1 := Yd.1 hb;have e : rOut d i = i / 3 := by simp [rOut, hb]
   have hno : i / 3 ∉ keys (renH (rOut d) nwc) := fun hm => by
    obtain ⟨x, hx⟩ := Ykk.2 hm;rw [hx] at hi;cases hi
   rw [e, hag _ hno, <- hF (i / 3)]
   congr 1
   omega
  | false =>
   rw [hb] at hi;refine hback i (Ykk.1 ?_);cases hl : look nwc i with
   | some x => exact ⟨x, rfl⟩
   | none => rw [hl] at hi; cases hi
 refine ⟨φ', hag, Ygs hρ v hv, ?_⟩;have e1 := Y23 (p := Yxs d nwc) (ρ := rOut d) hag (fun x => hF x) hρ h1 [] (by simp [keys]) hsn hfr hch (fun i _ => Y32 d i);have e2 : Yb φ' (renH (rOut d) nwc) = Yb φF nwc := by
  unfold Yb renH;rw [List.map_map];refine List.map_congr_left fun q hq => ?_;exact Yoz hρ (hback q.1 (List.mem_map_of_mem hq)) q.2 (List.all_eq_true.1 hnw q hq)
 have hpart : PartOf (hsF ++ nwc) hpF := by
  refine ⟨?_, fun q hq => ?_⟩
  ·rw [Ybk, k1];refine List.nodup_append.2 ⟨?_, h3.nd, fun a ha b hb e => ?_⟩
   ·exact Ysa hsn
   ·obtain ⟨x, _, rfl⟩ := List.mem_map.1 ha;exact hown b hb (by rw [<- e]; simp only [rIn]; omega)
  ·rcases List.mem_append.1 hq with hq | hq
   ·exact k3 q hq
   ·exact h3.all q hq
 have hS2 := hS.perm ((Yu (hpart.perm hnd)).append (List.Perm.refl R));rw [Yp, Yp, List.append_assoc] at hS2;simp only [List.nil_append] at e1;rw [Yp, e1, e2];simp only [Yb, List.map_nil, List.nil_append] at hS2 ⊢;exact hS2.sub ((List.Sublist.refl _).append (List.sublist_append_right _ _))
end Go.Proofs.Ytfbhampnigdaaaa
namespace Go.Proofs.Ytfbhampnigdaaaa
open Go.RowKit
variable [InW]
attribute [local irreducible] Go.Oper.wp
def BigT (W : (Exit -> Act -> World -> Prop) -> Act -> World -> Prop) (tm : List AV) (hp : Heap) (x : AX) (tm' : List AV) (hp' : Heap) : Prop :=
 ∀ (φ0 φ : Phi) (w0 : World) (M : List Nat) (R : RL) (a : Act) (w : World), RepS φ0 φ w0 M R tm hp a w -> ∀ Q : Exit -> Act -> World -> Prop,
  (∀ φ' e a' w', x.is φ' e -> RepS φ0 φ' w0 M R tm' hp' a' w' -> Q e a' w') -> W Q a w
theorem Big.top {W : (Exit -> Act -> World -> Prop) -> Act -> World -> Prop} {tm tm' : List AV} {hp hp' : Heap} {x : AX} (h : Big W tm hp x tm' hp') : BigT W tm hp x tm' hp' := fun φ0 φ w0 M R a w hr Q kk => h φ0 φ w0 M R a w hr Q fun φ' e a' w' h1 h2 _ => kk φ' e a' w' h1 h2
theorem Yuv (tm : List AV) (x : AV) : Ybt (tm ++ [.held x]) = Ybt tm ++ [x] := by
 induction tm with
 | nil => rfl
 | cons y tm ih => rw [List.cons_append, Ybh, Ybh, ih, List.append_assoc]
theorem RepT.push {φ : Phi} {tm : List AV} {a : Act} (h : RepT φ tm a) (x : AV) : RepT φ (tm ++ [.held x]) { a with defers := Yfc φ x :: a.defers } := by
 have key : ∀ (t : Nat) (v : AV), (tm ++ [AV.held x])[t]? = some v -> (tm[t]? = some v) \/ (t = tm.length /\ v = .held x) := fun t v hv => by
  rw [List.getElem?_append] at hv
  split at hv
  ·exact .inl hv
  ·rename_i hge;have ht : t = tm.length := by
    rcases Nat.lt_or_ge (t - tm.length) 1 with h1 | h1
    ·omega
    ·rw [List.getElem?_eq_none (by simpa using h1)] at hv; cases hv
   subst ht;simp at hv;exact .inr ⟨rfl, hv.symm⟩
 refine ⟨fun t v hv hh => ?_, fun t v hv hh => ?_, fun t v hv hr => ?_, ?_, by simp; have := h.len; omega⟩
 ·rcases key t v hv with h1 | ⟨_, rfl⟩
  ·exact h.size t v h1 hh
  ·cases hh
 ·rcases key t v hv with h1 | ⟨rfl, rfl⟩
  ·exact h.held t v h1 hh
  ·exact h.len
 ·rcases key t v hv with h1 | ⟨_, rfl⟩
  ·exact h.slot t v h1 hr
  ·cases hr
 ·rw [Yuv, List.map_append, List.reverse_append, h.df];rfl
theorem Yur (w : World) (b : Nat) (o : Obj) : Kept w.heap.size [b] w (w.putObj b o) :=
 ⟨rfl, rfl, rfl, by simp, fun k _ hk => World.putObj_heap_other (by simpa using hk)⟩
theorem RepS.turn {φ0 φ : Phi} {w0 : World} {M : List Nat} {R : RL} {tm : List AV} {hp : Heap} {a : Act} {w : World} (h : RepS φ0 φ w0 M R tm hp a w) {i b : Nat} {it it' : It} {o o' : Obj} (hl : look hp i = some it) (e1 : it.conc φ i = .blk b o) (e2 : it'.conc φ i = .blk b o') :
  w.heap[b]? = some o /\ RepS φ0 φ w0 M R tm (upd hp i it') a (w.putObj b o') := by
 have hpart := PartOf.one hl;have hS : St w0 M (Yb φ [(i, it)] ++ (Yb φ (Yb5 [(i, it)] hp) ++ R)) w := by
  have := h.st.perm ((Yu (hpart.perm h.nd)).append (List.Perm.refl R));rwa [Yp, List.append_assoc] at this
 have hS2 : St w0 M (Res.blk b o :: (Yb φ (Yb5 [(i, it)] hp) ++ R)) w := by simpa [Yb, e1] using hS
 have hb : w.heap[b]? = some o := hS2.has _ List.mem_cons_self;refine ⟨hb, ?_⟩;have hS3 : St w0 M (Res.blk b o' :: (Yb φ (Yb5 [(i, it)] hp) ++ R)) (w.putObj b o') :=
  hS2.upd .head (Yur w b o') (World.putObj_heap_same (Array.getElem?_eq_some_iff.1 hb).1) (fun c hc => .inl hc)
 have := h.new_heap (us := [(i, it')]) (nw := []) hpart (fun j hj => by simpa [keys] using hj) ⟨fun j hj => by simp [keys] at hj, by simp [keys], fun j hj => by simp [keys] at hj⟩ (Agree.refl _ φ) (by simpa [Yh, upd, Yb, Nat.beq_refl, e2] using hS3) none (.v undef);simpa [Yh, Ybb, putA, Act.put] using this
def Ykr : List AV -> Bool
 | [] => true
 | x :: xs => match x with | .held _ => Ykr xs | _ => false
def Y1q : List AV -> (List AV -> Prop) -> Prop
 | [], K => K []
 | x :: xs, K => match x with | .junk => Stuck 93 | .held _ => Yc (Ykr xs) (K []) | x => Y1q xs fun r => K (x :: r)
theorem Yis : ∀ {xs : List AV}, Ykr xs = true -> ∀ x ∈ xs, x.isHeld = true
 | [], _, x, hx => by cases hx
 | y :: xs, h, x, hx => by
  cases y <;> simp only [Ykr, Bool.false_eq_true] at h;rcases List.mem_cons.1 hx with rfl | hx
  ·rfl
  ·exact Yis h x hx
theorem Yn0 : ∀ {tm : List AV} {K : List AV -> Prop}, Y1q tm K -> ∃ sn hl, tm = sn ++ hl /\ (∀ x ∈ sn, x.rd = true) /\ (∀ x ∈ hl, x.isHeld = true) /\ K sn
 | [], K, h => ⟨[], [], rfl, by simp, by simp, h⟩
 | x :: xs, K, h => by
  have go : x.rd = true -> Y1q xs (fun r => K (x :: r)) -> ∃ sn hl, x :: xs = sn ++ hl /\ (∀ y ∈ sn, y.rd = true) /\ (∀ y ∈ hl, y.isHeld = true) /\ K sn := fun hr h => by
   obtain ⟨sn, hl, rfl, h1, h2, h3⟩ := Yn0 h;exact ⟨x :: sn, hl, rfl, fun y hy => (List.mem_cons.1 hy).elim (fun e => e ▸ hr) (h1 y), h2, h3⟩
  cases x with
  | junk => exact h.elim
  | held y =>
   obtain ⟨h1, h2⟩ := Ya h;exact ⟨[], .held y :: xs, rfl, by simp, fun z hz => (List.mem_cons.1 hz).elim (fun e => e ▸ rfl) (Yis h1 z), h2⟩
  | _ => exact go rfl h
theorem RepT.snap {φ : Phi} {sn hl : List AV} {a : Act} (h : RepT φ (sn ++ hl) a) (h1 : ∀ x ∈ sn, x.rd = true) (h2 : ∀ x ∈ hl, x.isHeld = true) : a.tmps = (AV.concL φ sn).toArray := by
 have hs : a.tmps.size = sn.length := by
  refine Nat.le_antisymm ?_ ?_
  ·cases hl with
   | nil => have := h.len; simpa using this
   | cons y hl => exact h.held sn.length y (by simp) (h2 y List.mem_cons_self)
  ·rcases Nat.eq_zero_or_pos sn.length with e | e
   ·omega
   ·have hx : sn[sn.length - 1]? = some sn[sn.length - 1] := by simp
    have hr := h1 _ (List.getElem_mem (show sn.length - 1 < sn.length by omega));have := h.size (sn.length - 1) sn[sn.length - 1] (by rw [List.getElem?_append_left (by omega)]; exact hx) (by cases hv : sn[sn.length - 1] <;> simp_all [AV.isHeld]);omega
 refine Array.ext_getElem? fun t => ?_;rcases Nat.lt_or_ge t sn.length with ht | ht
 ·have hx : sn[t]? = some sn[t] := by simp [ht]
  rw [h.slot t sn[t] (by rw [List.getElem?_append_left ht]; exact hx) (h1 _ (List.getElem_mem ht))];simp [Yt, hx]
 ·rw [Array.getElem?_eq_none (by omega), Array.getElem?_eq_none (by simpa [Yg] using ht)]
end Go.Proofs.Ytfbhampnigdaaaa
namespace Go.Proofs.Ytfbhampnigdaaaa
open Go.RowKit
variable [InW]
attribute [local irreducible] Go.Oper.wp
def Y31 : Oper := { dst := some 1023, op := .call { callee := .value (.const undef), args := #[], argTypes := #[] }, type := 0, pos := "", after := #[], guard := none }
def busyB (L : LI) : Bool := match L.st with | .busy => true | _ => false
def Ysf (it : It) (K : LI -> List AV -> Prop) : Prop := match it with | .lp L cs => K L cs | _ => Stuck 96
theorem Yhf {it : It} {K : LI -> List AV -> Prop} (h : Ysf it K) : ∃ L cs, it = .lp L cs /\ K L cs := by
 unfold Ysf at h
 split at h
 ·exact ⟨_, _, rfl, h⟩
 ·exact h.elim
def Y5q (j : Option Code) (tm : List AV) (hp : Heap) (K : KX) : Prop :=
 match j with | none => K .norm tm hp | some .ret => K .ret tm hp | some (.exit i) => K (.exit i) tm hp | _ => Stuck 97
def Y1d (li : Nat) (tm : List AV) (hp us nw : Heap) (K : List AV -> Heap -> Prop) : Prop :=
 Yc (Ysb nw tm hp) (Yfl hp us fun hp => Yfb hp nw fun hp => K tm hp)
def Y3h (c : Cx) (n : Nat) (g : Operand) (ps : Array Tmp) (assign body : Code) (tm : List AV) (hp : Heap) (K : KX) : Prop :=
 Yy1 n [Y31] tm hp fun tm hp => evK tm g fun gv => funK gv fun gf fa fb => Y5 (maxK hp 1024) fun m => Y5 (3 * m + 3) fun di => Y5 (3 * m + 6) fun li => Y1q tm fun sn =>
  Yc (Yfe c.P gf) (Yc (Ysb [(di, .obj (.dfb true)), (li, .lp ⟨.ready, none, ps, assign, body⟩ (.mp di :: sn))] tm hp)
   (Yfb hp [(di, .obj (.dfb true)), (li, .lp ⟨.ready, none, ps, assign, body⟩ (.mp di :: sn))] fun hp1 => appK tm [.held (.mp di)] fun tm1 => appK fa (.yl li :: fb) fun args =>
    c.callH gf args hp1 1023
     (fun _ hs us nw => Y1d li tm1 hp1 us nw fun tm hp => Yv hp li fun it => Ysf it fun L cs => Yc (!busyB L) (updK hp li (.lp { L with st := .exhausted } cs) fun hp => Y5q L.pend tm hp K))
     (fun val hs us nw => Y1d li tm1 hp1 us nw fun tm hp => K (.pan val) tm hp)))
theorem Ym6 {li : Nat} {tm : List AV} {hp us nw : Heap} {K : List AV -> Heap -> Prop} (h : Y1d li tm hp us nw K) : (NewFor (keys nw) tm hp /\ (keys nw).Nodup /\ ∀ i ∈ keys nw, i % 3 ≠ 1) /\ K tm (Ybb (Yh hp us) nw) := by
 obtain ⟨h1, h2⟩ := Ya h;exact ⟨Ydu h1, Yc9.1 (Ydy.1 h2)⟩
theorem Yqt {P : Program} {g : Operand} {ps : Array Tmp} {assign body : Code} {Q : Exit -> Act -> World -> Prop} {a : Act} {w : World}
  (h : ∀ fn : FuncId, ∃ (l : Nat) (mark : List Deferred) (w₁ : World) (d : Deferred) (f : FuncId) (args : Array Value),
   (Instr.enterLoop fn a.tmps ps assign body none).run P w = .ok (l, mark) w₁ /\ (resolve a.eval (rangeCall g l) 0).run P w₁ = .ok d w₁ /\ (invoke d.target d.args).run P w₁ = .ok (.enter f args) w₁ /\
   Calls P f args w₁ (rangePost Fence.wide 0 P l Q { a with defers := mark ++ a.defers })) : (Code.rangeFunc g ps assign body).wp P Q a w :=
 (wpIn_wide (n := 0)).1 (wpIn_rangeFunc fun fn _ => by
  obtain ⟨l, mark, w₁, d, f, args, h1, h2, h3, h4⟩ := h fn;exact ⟨l, mark, w₁, d, w₁, f, args, w₁, h1, h2, fun _ _ => trivial, h3, fun h => by simp [Fence.wide] at h, callsIn_wide.2 h4⟩)
theorem Yub {c : Cx} (hc : HandOk c) {n : Nat} {g : Operand} {ps : Array Tmp} {assign body : Code} {tm : List AV} {hp : Heap} {K : KX} (h : Y3h c n g ps assign body tm hp K) :
  ∃ x tm' hp', K x tm' hp' /\ BigT (fun Q a w => (Code.rangeFunc g ps assign body).wp c.P Q a w) tm hp x tm' hp' := by
 obtain ⟨tm0, hp0, h0, hpre⟩ := Ylt h;obtain ⟨gv, hj, hg, h1⟩ := Ye h0;obtain ⟨gf, fa, fb, h2, hgv, hgh⟩ := Ymj h1;have h3 := Yk.1 (Yk.1 (Yk.1 h2));generalize 3 * maxK hp0 1024 + 3 = di at h3;generalize 3 * maxK hp0 1024 + 6 = li at h3;obtain ⟨sn, hl, rfl, s1, s2, h4⟩ := Yn0 h3;obtain ⟨hok, h5⟩ := Ya h4;obtain ⟨hB0, h6⟩ := Ya h5;have hN := Ydu hB0;have h7 := Ydg.1 (Ydg.1 (Yc9.1 h6));clear h h0 h1 h2 h3 h4 h5 h6;have hdl : di ≠ li := fun e => by have := hN.2.1; simp [keys, e] at this
 have hnd0 : ∀ i ∈ keys [(di, It.obj (.dfb true)), (li, It.lp ⟨.ready, none, ps, assign, body⟩ (.mp di :: sn))], AV.hasL i (sn ++ hl) = false /\ hasH i hp0 = false := hN.1;have hli : AV.hasL li (sn ++ hl) = false := (hnd0 li (by simp [keys])).1;have hdi : AV.hasL di (sn ++ hl) = false := (hnd0 di (by simp [keys])).1;have main : ∀ (φ0 φ : Phi) (w0 : World) (M : List Nat) (R : RL) (a : Act) (w : World), RepS φ0 φ w0 M R (sn ++ hl) hp0 a w -> ∀ fn : FuncId, ∃ φ1 : Phi, (φ1 di).b = w.heap.size /\ (φ1 li).b = w.heap.size + 1 /\
   RepS φ0 φ1 w0 M R ((sn ++ hl) ++ [.held (.mp di)]) (Ybb hp0 [(di, .obj (.dfb true)), (li, .lp ⟨.ready, none, ps, assign, body⟩ (.mp di :: sn))]) { a with defers := { target := .collected w.heap.size, args := #[] } :: a.defers }
    ((w.alloc (.deferred (some []))).alloc (.loop { state := .ready, pending := none, fn, tmps := a.tmps, params := ps, assign, body, defers := w.heap.size })) := by
  intro φ0 φ w0 M R a w hr fn
  let φ1 : Phi := fun i => if i = di then ⟨w.heap.size, false, 0, none, 0, undef, fun _ => False⟩ else if i = li then ⟨w.heap.size + 1, false, 0, none, fn, undef, fun _ => False⟩ else φ i
  have e1 : φ1 di = ⟨w.heap.size, false, 0, none, 0, undef, fun _ => False⟩ := by simp [φ1]
  have e2 : φ1 li = ⟨w.heap.size + 1, false, 0, none, fn, undef, fun _ => False⟩ := by simp [φ1, Ne.symm hdl]
  have hag : Agree (keys [(di, It.obj (.dfb true)), (li, It.lp ⟨.ready, none, ps, assign, body⟩ (.mp di :: sn))]) φ φ1 := fun i hi => by
   simp only [keys, List.map_cons, List.map_nil, List.mem_cons, List.not_mem_nil, or_false, not_or] at hi;simp [φ1, hi.1, hi.2]
  have esn : AV.concL φ1 sn = AV.concL φ sn := Yy hag sn fun i hi => by
   have := (hnd0 i hi).1;rw [Yo, List.any_append, Bool.or_eq_false_iff] at this;rw [Yo]; exact this.1
  have etm := hr.tmps.snap s1 s2;have hS := (hr.st.alloc (.deferred (some []))).alloc (.loop { state := .ready, pending := none, fn, tmps := a.tmps, params := ps, assign, body, defers := w.heap.size });have hS' : St w0 M (Yb φ1 (Yh [] [] ++ [(di, It.obj (.dfb true)), (li, It.lp ⟨.ready, none, ps, assign, body⟩ (.mp di :: sn))]) ++ (Yb φ (Yb5 [] hp0) ++ R)) ((w.alloc (.deferred (some []))).alloc (.loop { state := .ready, pending := none, fn, tmps := a.tmps, params := ps, assign, body, defers := w.heap.size })) := by
   have er : Yb5 [] hp0 = hp0 := by simp [Yb5, keys]
   rw [er];have := hS.perm (List.Perm.swap _ _ _);simpa [Yh, Yb, It.conc, e1, e2, OI.obj, LI.obj, defB, AV.concL, AV.conc, esn, etm, World.size_alloc] using this
  have hr1 := hr.new_heap (PartOf.nil hp0) Ygw hN hag hS' none (.v undef);have hr2 : RepS φ0 φ1 w0 M R (sn ++ hl) (Ybb hp0 [(di, .obj (.dfb true)), (li, .lp ⟨.ready, none, ps, assign, body⟩ (.mp di :: sn))]) a ((w.alloc (.deferred (some []))).alloc (.loop { state := .ready, pending := none, fn, tmps := a.tmps, params := ps, assign, body, defers := w.heap.size })) := hr1;refine ⟨φ1, by rw [e1], by rw [e2], ?_⟩;have hp := hr2.tmps.push (.mp di);have ed : Yfc φ1 (.mp di) = { target := .collected w.heap.size, args := #[] } := by simp [Yfc, AV.conc, e1]
  rw [ed] at hp;exact ⟨hp, hr2.st, hr2.nd, hr2.base⟩
 generalize hhp1 : Ybb hp0 [(di, It.obj (.dfb true)), (li, It.lp ⟨.ready, none, ps, assign, body⟩ (.mp di :: sn))] = hp1 at h7 main;generalize htm1 : (sn ++ hl) ++ [AV.held (.mp di)] = tm1 at h7 main;have hlk : li ∈ keys hp1 := by
  rw [<- hhp1];exact (Yhi _ _).mem_iff.2 (List.mem_append_left _ (by simp [keys]))
 have hargs : ∀ i, i ≠ li -> AV.hasL i tm1 = false -> AV.hasL i (fa ++ .yl li :: fb) = false := fun i hne hi => by
  rw [<- htm1, Yo, List.any_append, Bool.or_eq_false_iff, <- Yo] at hi;have h9 := hgh i (hg.new hi.1);rw [Yo, List.any_append, <- Yo, <- Yo];simp only [AV.hasL, AV.has, h9.1, h9.2, Y2.2 (Ne.symm hne), Bool.or_self]
 have walk : ∀ (pan : Bool) (val : AV) (hs us nw : Heap) (x : AX) (tm' : List AV) (hp' : Heap), PartOf hs hp1 -> (∀ i ∈ keys us, i ∈ keys hs) -> ACall c.P gf (fa ++ .yl li :: fb) hs pan val us nw -> (NewFor (keys nw) tm1 hp1 /\ (keys nw).Nodup /\ ∀ i ∈ keys nw, i % 3 ≠ 1) ->
   (∀ (φ0 φ : Phi) (w0 : World) (M : List Nat) (R : RL) (a : Act) (w : World) (l : Nat), RepS φ0 φ w0 M R tm1 (Ybb (Yh hp1 us) nw) a w -> (φ li).b = l -> ∀ Q : Exit -> Act -> World -> Prop,
    (∀ φ' e a' w', x.is φ' e -> RepS φ0 φ' w0 M R tm' hp' a' w' -> Q e a' w') -> rangePost Fence.wide 0 c.P l Q a (Ytf pan (val.conc φ)) w) ->
   BigT (fun Q a w => (Code.rangeFunc g ps assign body).wp c.P Q a w) tm hp x tm' hp' := by
  intro pan val hs us nw x tm' hp' hpart hu hA hB hpost φ0 φ w0 M R a w hr0 Q kk;obtain ⟨φa, hr⟩ := hpre φ0 φ w0 M R a w hr0;refine Yqt fun fn => ?_;obtain ⟨φ1, b1, b2, hr1⟩ := main φ0 φa w0 M R a w hr fn;have eg := hr.tmps.ev hg hj;rw [hgv φa] at eg;refine ⟨w.heap.size + 1, [{ target := .collected w.heap.size, args := #[] }], _, { target := .fn (.func gf) (AV.concL φa fb).toArray, args := (AV.concL φa fa).toArray ++ #[.func (.yield (w.heap.size + 1)) #[] #[]] }, gf, (AV.concL φ1 (fa ++ .yl li :: fb)).toArray, run_enterLoop_outer _ _ _ _ _, ?_, ?_, ?_⟩
  ·simp only [resolve, eg, Deferred.ofValue, Sem.run_bind, Sem.run_pure, Result.andThen_ok];simp [Act.eval]
  ·have ea : AV.concL φ1 fa = AV.concL φa fa /\ AV.concL φ1 fb = AV.concL φa fb := by
    have := hgv φ1;have h8 : gv.conc φ1 = gv.conc φa := by
     have h9 := hr1.tmps;have hm : gv.conc φ1 = a.eval g := by
      cases g with
      | tmp t =>
       have hg1 : (tm1)[t]? = some gv := by
        rw [<- htm1];have hg' : (sn ++ hl)[t]? = some gv := hg;rw [List.getElem?_append_left (List.getElem?_eq_some_iff.1 hg').1];exact hg'
       have := h9.slot t gv hg1 hj;simp [Act.eval, Array.getD_eq_getD_getElem?, this]
      | const k => have hx : gv = .v k := hg; subst hx; rfl
      | global k => exact hg.elim
      | func f => have hx : gv = .fn (.func f) [] [] := hg; subst hx; rfl
     rw [hm, hr.tmps.ev hg hj]
    rw [h8, hgv φa] at this;simp only [Value.func.injEq, true_and] at this;have t1 := congrArg Array.toList this.1;have t2 := congrArg Array.toList this.2;exact ⟨by simpa using t1.symm, by simpa using t2.symm⟩
   simp only [invoke, Yfs hok]
   congr 2
   rw [Ybz];simp [AV.concL, AV.conc, b2, ea.1, ea.2]
  ·have hS : St w0 M (Yb φ1 hs ++ (Yb φ1 (Yb5 hs hp1) ++ R)) ((w.alloc (.deferred (some []))).alloc (.loop { state := .ready, pending := none, fn, tmps := a.tmps, params := ps, assign, body, defers := w.heap.size })) := by
    have := hr1.st.perm ((Yu (hpart.perm hr1.nd)).append (List.Perm.refl R));rwa [Yp, List.append_assoc] at this
   have hnli : li ∉ keys nw := fun hm => by
    obtain ⟨p, hp', e⟩ := List.mem_map.1 hlk;exact (Yw (hB.1 li hm).2 hp').1 e
   have hnew : NewFor (keys nw) (fa ++ .yl li :: fb) hs := fun i hi => ⟨hargs i (fun e => hnli (e ▸ hi)) (hB.1 i hi).1, Yf8 fun p hp' => Yw (hB.1 i hi).2 (Ybc (hpart.all p hp'))⟩;refine Calls.mono (hA φ1 w0 M _ _ hnew hS) fun e w' ⟨φ2, hag, he, hS2⟩ => ?_;have hr2 := hr1.new_heap hpart hu hB hag hS2 none (.v undef);subst he;exact hpost φ0 φ2 w0 M R _ w' _ hr2 (by rw [hag li hnli, b2]) Q kk
 rcases hc.call _ _ _ _ _ _ h7 with ⟨val, hs, us, nw, k1, hpart, hu, hA⟩ | ⟨val, hs, us, nw, k1, hpart, hu, hA⟩
 ·obtain ⟨hB, k2⟩ := Ym6 k1;obtain ⟨it, k3, k4⟩ := Yf k2;obtain ⟨L, cs, rfl, k5⟩ := Yhf k4;obtain ⟨hbz, k6⟩ := Ya k5;have k7 := Yec.1 k6;have fin : ∀ (x : AX), K x tm1 (upd (Ybb (Yh hp1 us) nw) li (.lp { L with st := .exhausted } cs)) ->
    (∀ (φ : Phi) (a : Act) (w : World) (Q : Exit -> Act -> World -> Prop), (∀ e, x.is φ e -> Q e a w) -> match L.pend with | none => Q .normal a w | some j => j.wpIn Fence.wide 0 c.P Q a w) ->
    ∃ x tm' hp', K x tm' hp' /\ BigT (fun Q a w => (Code.rangeFunc g ps assign body).wp c.P Q a w) tm hp x tm' hp' := by
   intro x hk hj2;refine ⟨x, _, _, hk, walk false val hs us nw x _ _ hpart hu hA hB fun φ0 φ w0 M R a w l hr hl Q kk => ?_⟩;obtain ⟨hb, hr2⟩ := hr.turn k3 (b := l) (o := L.obj (φ li).fn (AV.concL φ cs)) (o' := ({ L with st := .exhausted } : LI).obj (φ li).fn (AV.concL φ cs)) (by simp [It.conc, hl]) (it' := .lp { L with st := .exhausted } cs) (by simp [It.conc, hl]);refine ⟨L.pend, _, run_endLoop hb (by
    intro e;unfold busyB at hbz;simp only at e;rw [e] at hbz;simp at hbz), ?_⟩
   exact hj2 φ a _ Q fun e he => kk φ e a _ he hr2
  unfold Y5q at k7
  split at k7
  ·rename_i hp;exact fin .norm k7 fun φ a w Q hq => by rw [hp]; exact hq _ rfl
  ·rename_i hp;exact fin .ret k7 fun φ a w Q hq => by rw [hp]; exact wpIn_ret (hq _ rfl)
  ·rename_i i hp;exact fin (.exit i) k7 fun φ a w Q hq => by rw [hp]; exact wpIn_exit (hq _ rfl)
  ·exact k7.elim
 ·obtain ⟨hB, k2⟩ := Ym6 k1;refine ⟨.pan val, _, _, k2, walk true val hs us nw _ _ _ hpart hu hA hB fun φ0 φ w0 M R a w l hr hl Q kk => ?_⟩;exact kk φ _ a w rfl hr
end Go.Proofs.Ytfbhampnigdaaaa
namespace Go.Proofs.Ytfbhampnigdaaaa
open Go.RowKit
variable [InW]
attribute [local irreducible] Go.Oper.wp
def Y4q (o : Oper) : Option Operand :=
 match o.op, o.guard, o.dst with
 | .defer { callee := .value f, args := ⟨[]⟩, .. }, none, none => some f
 | _, _, _ => none
def Y3e (c : Cx) (ol l : List Oper) (tm : List AV) (hp : Heap) (K : KX) : Prop := Stuck 99
section
variable {c : Cx} {ol : List Oper}
theorem Yqv (hc : HandOk c) : ∀ (l : List Oper) (tm : List AV) (hp : Heap) (K : KX), Y3e c ol l tm hp K ->
  ∃ x tm' hp', K x tm' hp' /\ BigT (fun Q a w => wpList c.P ol.toArray Q l a w) tm hp x tm' hp' := fun _ _ _ _ h => h.elim
end
inductive Sub (body : Code) : Code -> Prop where
 | refl : Sub body body
 | seqL {a b : Code} : Sub body (.seq a b) -> Sub body a
 | seqR {a b : Code} : Sub body (.seq a b) -> Sub body b
 | condL {x : Operand} {a b : Code} : Sub body (.cond x a b) -> Sub body a
 | condR {x : Operand} {a b : Code} : Sub body (.cond x a b) -> Sub body b
 | block {i : Nat} {a : Code} : Sub body (.block i a) -> Sub body a
 | loop {a : Code} : Sub body (.loop a) -> Sub body a
 | scope {a : Code} : Sub body (.scope a) -> Sub body a
def Y1 : Code -> List Code
 | .seq a b => Y1 a ++ Y1 b
 | .cond _ a b => Y1 a ++ Y1 b
 | .block _ a => Y1 a
 | .loop a => a :: Y1 a
 | .scope a => Y1 a
 | _ => []
theorem Sub.sub {body cd : Code} (h : Sub body cd) : ∀ x ∈ Y1 cd, x ∈ Y1 body := by
 induction h with
 | refl => exact fun _ h => h
 | seqL _ ih => exact fun x hx => ih x (by simp [Y1, hx])
 | seqR _ ih => exact fun x hx => ih x (by simp [Y1, hx])
 | condL _ ih => exact fun x hx => ih x (by simp [Y1, hx])
 | condR _ ih => exact fun x hx => ih x (by simp [Y1, hx])
 | block _ ih => exact fun x hx => ih x (by simpa [Y1] using hx)
 | loop _ ih => exact fun x hx => ih x (by simp [Y1, hx])
 | scope _ ih => exact fun x hx => ih x (by simpa [Y1] using hx)
theorem Sub.mem {body a : Code} (h : Sub body (.loop a)) : a ∈ Y1 body := h.sub a (by simp [Y1])
def InLoop (P : Program) (c : Code) (Q : Exit -> Act -> World -> Prop) (a : Act) (w : World) : Prop :=
 ∀ (b : Frame) (k : List Item) (cs : List Frame), ∃ e a' w', Q e a' w' /\ Arrives P (lone (b.at a (.code c :: .inLoop c :: k)) cs w) b k cs e a' w'
theorem InLoop.round {P : Program} {c : Code} {Q : Exit -> Act -> World -> Prop} {a : Act} {w : World} (h : c.wp P (Exit.then (InLoop P c Q) Q) a w) : InLoop P c Q a w := by
 intro b k cs;obtain ⟨e, a₁, w₁, hq, harr⟩ := h b (.inLoop c :: k) cs;cases e with
 | normal =>
  obtain ⟨e₂, a₂, w₂, hq₂, harr₂⟩ := hq b k cs;exact ⟨e₂, a₂, w₂, hq₂, .of_steps (Steps.trans harr (.one step_inLoop)) harr₂⟩
 | exit id => exact ⟨_, a₁, w₁, hq, .pass (x := .inLoop c) rfl (fun _ _ => .inl (by simp)) harr⟩
 | goto l => exact ⟨_, a₁, w₁, hq, .pass (x := .inLoop c) rfl (fun _ _ => .inl (by simp)) harr⟩
 | ret => exact ⟨_, a₁, w₁, hq, .pass (x := .inLoop c) rfl (fun _ _ => .inl (by simp)) harr⟩
 | panic ch => exact ⟨_, a₁, w₁, hq, .pass (x := .inLoop c) rfl (fun _ _ => .inl (by simp)) harr⟩
 | outgrown => exact ⟨_, a₁, w₁, hq, .pass (x := .inLoop c) rfl (fun _ _ => .inl (by simp)) harr⟩
theorem InLoop.wp {P : Program} {c : Code} {Q : Exit -> Act -> World -> Prop} {a : Act} {w : World} (h : InLoop P c Q a w) : (Code.loop c).wp P Q a w := by
 intro b k cs;obtain ⟨e, a', w', hq, harr⟩ := h b k cs;exact ⟨e, a', w', hq, .of_steps (.one step_loop) harr⟩
def Ym8 (P : Program) (a : Code) (f : List AV -> Heap -> KX -> Prop) : Prop := ∀ tm hp K, f tm hp K -> ∃ x tm' hp', K x tm' hp' /\ BigT (fun Q ac w => InLoop P a Q ac w) tm hp x tm' hp'
def Y42 (c : Cx) : Prop := ∀ g k f body a, c.loopsOf g k = some f -> (c.P.funcs[g]?).bind (·.body) = some body -> a ∈ Y1 body -> Yf2 a = k -> Ym8 c.P a f
structure HandOkL (c : Cx) : Prop extends HandOkR c where
 loops : Y42 c
theorem Yl4 {P : Program} {cd : Code} {body : List AV -> Heap -> KX -> Prop} (hb : ∀ tm hp K, body tm hp K -> ∃ x tm' hp', K x tm' hp' /\ BigT (fun Q a w => cd.wp P Q a w) tm hp x tm' hp') : ∀ (n : Nat) (tm : List AV) (hp : Heap) (K : KX), Yzs body n tm hp K ->
  ∃ x tm' hp', K x tm' hp' /\ BigT (fun Q a w => InLoop P cd Q a w) tm hp x tm' hp'
 | 0, tm, hp, K, h => h.elim
 | n + 1, tm, hp, K, h => by
  obtain ⟨x, tm1, hp1, h1, h2⟩ := hb _ _ _ h;have key : (∀ φ e, x.is φ e -> e ≠ .normal) -> K x tm1 hp1 -> ∃ x tm' hp', K x tm' hp' /\ BigT (fun Q a w => InLoop P cd Q a w) tm hp x tm' hp' := fun hx hk => by
   refine ⟨x, tm1, hp1, hk, fun φ0 φ w0 M R a w hr Q kk => InLoop.round (h2 φ0 φ w0 M R a w hr _ (fun φ' e a' w' he hr' => ?_))⟩;have hne := hx φ' e he;cases e <;> first | exact absurd rfl hne | exact kk φ' _ a' w' he hr'
  cases x with
  | norm =>
   obtain ⟨x2, tm2, hp2, h3, h4⟩ := Yl4 hb n _ _ K h1;refine ⟨x2, tm2, hp2, h3, fun φ0 φ w0 M R a w hr Q kk => InLoop.round (h2 φ0 φ w0 M R a w hr _ (fun φ' e a' w' he hr' => ?_))⟩;cases he;exact h4 φ0 φ' w0 M R a' w' hr' Q kk
  | exit i => exact key (fun φ e he => by cases he; simp) h1
  | ret => exact key (fun φ e he => by cases he; simp) h1
  | pan v => exact key (fun φ e he => by cases he; simp) h1
def Yfh (c : Cx) (n : Nat) : Code -> List AV -> Heap -> KX -> Prop
 | .seq a b, tm, hp, K => Yfh c n a tm hp fun x tm hp => match x with | .norm => Yfh c n b tm hp K | x => K x tm hp
 | .region id ops draw, tm, hp, K => match draw, ops.toList.any fun o => (Y4q o).isSome with
  | false, true => Yy1 n ops.toList tm hp fun tm hp => Y3e c ops.toList ops.toList tm hp K
  | draw, _ => Ydx c n (.region id ops draw) tm hp K
 | .cond x a b, tm, hp, K => evK tm x fun v => match v with | .v (.bool t) => vcIf t (Yfh c n a tm hp K) (Yfh c n b tm hp K) | .sb t => Vif t (Yfh c n a tm hp K) (Yfh c n b tm hp K) | _ => Stuck 98
 | .block id a, tm, hp, K => Yfh c n a tm hp fun x tm hp => match x with | .exit i => (match Nat.beq i id with | true => K .norm tm hp | false => K (.exit i) tm hp) | x => K x tm hp
 | .rangeFunc g ps assign body, tm, hp, K => Y3h c n g ps assign body tm hp K
 | .loop a, tm, hp, K => match c.loopsOf c.fn (Yf2 a) with | some f => f tm hp K | none => Yzs (Yfh c n a) n tm hp K
 | .scope a, tm, hp, K => Yfh c n a tm hp K
 | cd, tm, hp, K => Ydx c n cd tm hp K
theorem Yg6 {c : Cx} (hcL : HandOkL c) (hm : c.P.follows .mixedOrders = true) (n : Nat) {root : Code} (hroot : (c.P.funcs[c.fn]?).bind (·.body) = some root) : ∀ (cd : Code), Sub root cd -> ∀ (tm : List AV) (hp : Heap) (K : KX), Yfh c n cd tm hp K -> ∃ x tm' hp', K x tm' hp' /\ BigT (fun Q a w => cd.wp c.P Q a w) tm hp x tm' hp' := by
 have hcR' := hcL.toHandOkR;have plain : ∀ (cd : Code) (tm : List AV) (hp : Heap) (K : KX), Ydx c n cd tm hp K -> ∃ x tm' hp', K x tm' hp' /\ BigT (fun Q a w => cd.wp c.P Q a w) tm hp x tm' hp' := fun cd tm hp K h => by
  obtain ⟨x, tm', hp', h1, h2⟩ := Y7 hcR' hm n cd tm hp K h;exact ⟨x, tm', hp', h1, (h2.mono fun Q a w hw => (wpIn_wide (n := 0)).1 (hw none)).top⟩
 have hcR := hcL.toHandOkR;have hc := hcR.toHandOk;intro cd
 induction cd with
 | seq a b iha ihb =>
  intro hsub tm hp K h;obtain ⟨x, tm1, hp1, h1, h2⟩ := iha hsub.seqL tm hp _ h;have key : (∀ φ e, x.is φ e -> e ≠ .normal) -> K x tm1 hp1 -> ∃ x tm' hp', K x tm' hp' /\ BigT (fun Q a' w => (Code.seq a b).wp c.P Q a' w) tm hp x tm' hp' := fun hx hk => by
   refine ⟨x, tm1, hp1, hk, fun φ0 φ w0 M R ac w hr Q kk => wp_seq (h2 φ0 φ w0 M R ac w hr _ fun φ' e a' w' he hr' => ?_)⟩;have hne := hx φ' e he;cases e <;> first | exact absurd rfl hne | exact kk φ' _ a' w' he hr'
  cases x with
  | norm =>
   obtain ⟨x2, tm2, hp2, h3, h4⟩ := ihb hsub.seqR tm1 hp1 K h1;refine ⟨x2, tm2, hp2, h3, fun φ0 φ w0 M R ac w hr Q kk => wp_seq (h2 φ0 φ w0 M R ac w hr _ fun φ' e a' w' he hr' => ?_)⟩;cases he;exact h4 φ0 φ' w0 M R a' w' hr' Q kk
  | exit i => exact key (fun φ e he => by cases he; simp) h1
  | ret => exact key (fun φ e he => by cases he; simp) h1
  | pan v => exact key (fun φ e he => by cases he; simp) h1
 | region id ops draw =>
  intro hsub tm hp K h;obtain ⟨l⟩ := ops;unfold Yfh at h
  split at h
  ·obtain ⟨tm1, hp1, h0, hpre⟩ := Ylt h;obtain ⟨x, tm', hp', h1, h2⟩ := Yqv hc l tm1 hp1 K h0;refine ⟨x, tm', hp', h1, fun φ0 φ w0 M R a w hr Q kk => ?_⟩;obtain ⟨φ', hr'⟩ := hpre φ0 φ w0 M R a w hr;exact wp_region_lit (h2 φ0 φ' w0 M R a w hr' Q kk)
  ·exact plain _ tm hp K h
 | cond x a b iha ihb =>
  intro hsub tm hp K h;obtain ⟨v, hj, hx, h1⟩ := Ye h
  try dsimp only at h1
  split at h1
  ·rcases Yfj h1 with ⟨rfl, h2⟩ | ⟨rfl, h2⟩
   ·obtain ⟨x', tm', hp', h3, h4⟩ := iha hsub.condL tm hp K h2;exact ⟨x', tm', hp', h3, fun φ0 φ w0 M R ac w hr Q kk => wp_cond_true (hr.tmps.ev hx (by simp)) (h4 φ0 φ w0 M R ac w hr Q kk)⟩
   ·obtain ⟨x', tm', hp', h3, h4⟩ := ihb hsub.condR tm hp K h2;exact ⟨x', tm', hp', h3, fun φ0 φ w0 M R ac w hr Q kk => wp_cond_false (hr.tmps.ev hx (by simp)) (h4 φ0 φ w0 M R ac w hr Q kk)⟩
  ·rcases Vif.spec h1 with ⟨rfl, h2⟩ | ⟨rfl, h2⟩
   ·obtain ⟨x', tm', hp', h3, h4⟩ := iha hsub.condL tm hp K h2;exact ⟨x', tm', hp', h3, fun φ0 φ w0 M R ac w hr Q kk => wp_cond_true (hr.tmps.ev hx (by simp)) (h4 φ0 φ w0 M R ac w hr Q kk)⟩
   ·obtain ⟨x', tm', hp', h3, h4⟩ := ihb hsub.condR tm hp K h2;exact ⟨x', tm', hp', h3, fun φ0 φ w0 M R ac w hr Q kk => wp_cond_false (hr.tmps.ev hx (by simp)) (h4 φ0 φ w0 M R ac w hr Q kk)⟩
  ·exact h1.elim
 | block id a iha =>
  intro hsub tm hp K h;obtain ⟨x, tm1, hp1, h1, h2⟩ := iha hsub.block tm hp _ h;cases x with
  | exit i =>
   cases hb : Nat.beq i id with
   | true =>
    simp only [hb] at h1;refine ⟨.norm, tm1, hp1, h1, fun φ0 φ w0 M R ac w hr Q kk => wp_block (h2 φ0 φ w0 M R ac w hr _ fun φ' e a' w' he hr' => ?_)⟩;cases he;simp only [Exit.inBlock, Yd.1 hb, if_true];exact kk φ' .normal a' w' rfl hr'
   | false =>
    simp only [hb] at h1;refine ⟨.exit i, tm1, hp1, h1, fun φ0 φ w0 M R ac w hr Q kk => wp_block (h2 φ0 φ w0 M R ac w hr _ fun φ' e a' w' he hr' => ?_)⟩;cases he;simp only [Exit.inBlock, Y2.1 hb, if_false];exact kk φ' _ a' w' rfl hr'
  | norm => exact ⟨.norm, tm1, hp1, h1, fun φ0 φ w0 M R ac w hr Q kk => wp_block (h2 φ0 φ w0 M R ac w hr _ fun φ' e a' w' he hr' => by cases he; exact kk φ' _ a' w' rfl hr')⟩
  | ret => exact ⟨.ret, tm1, hp1, h1, fun φ0 φ w0 M R ac w hr Q kk => wp_block (h2 φ0 φ w0 M R ac w hr _ fun φ' e a' w' he hr' => by cases he; exact kk φ' _ a' w' rfl hr')⟩
  | pan v => exact ⟨.pan v, tm1, hp1, h1, fun φ0 φ w0 M R ac w hr Q kk => wp_block (h2 φ0 φ w0 M R ac w hr _ fun φ' e a' w' he hr' => by cases he; exact kk φ' _ a' w' rfl hr')⟩
 | rangeFunc g ps assign body _ _ => intro _ tm hp K h; exact Yub hc h
 | loop a iha =>
  intro hsub tm hp K h;unfold Yfh at h
  split at h
  ·rename_i f hf;obtain ⟨x, tm', hp', h1, h2⟩ := hcL.loops _ _ f root a hf hroot hsub.mem rfl tm hp K h;exact ⟨x, tm', hp', h1, fun φ0 φ w0 M R ac w hr Q kk => InLoop.wp (h2 φ0 φ w0 M R ac w hr Q kk)⟩
  ·obtain ⟨x, tm', hp', h1, h2⟩ := Yl4 (fun tm hp K h => iha hsub.loop tm hp K h) n tm hp K h;exact ⟨x, tm', hp', h1, fun φ0 φ w0 M R ac w hr Q kk => InLoop.wp (h2 φ0 φ w0 M R ac w hr Q kk)⟩
 | scope a iha =>
  intro hsub tm hp K h;obtain ⟨x, tm', hp', h1, h2⟩ := iha hsub.scope tm hp K h;refine ⟨x, tm', hp', h1, fun φ0 φ w0 M R ac w hr Q kk => wp_scope_straight (h2 φ0 φ w0 M R ac w hr _ fun φ' e a' w' he hr' => ?_)⟩;have hg : ∀ l, e ≠ .goto l := fun l hl => by subst hl; cases x <;> cases he
  cases e <;> first | exact kk φ' _ a' w' he hr' | exact absurd rfl (hg _)
 | _ => intro _ tm hp K h; exact plain _ tm hp K h
inductive PS where
 | run
 | live (v : Value)
 | done (v : Value)
def PS.mode : PS -> FrameMode
 | .run => .returning
 | .live v => .panicking [{ v, recovered := false }]
 | .done v => .panicking [{ v, recovered := true }]
end Go.Proofs.Ytfbhampnigdaaaa
namespace Go.Proofs.Ytfbhampnigdaaaa
open Go.RowKit
variable [InW]
attribute [local irreducible] Go.Oper.wp
def Yek : List AV -> Bool
 | [] => true
 | x :: xs => match x with | .held _ => false | _ => Yek xs
theorem Yfy : ∀ {xs : List AV}, Yek xs = true -> Ybt xs = [] /\ ∀ (t : Nat) (v : AV), xs[t]? = some v -> v.isHeld = false
 | [], _ => ⟨rfl, by simp⟩
 | x :: xs, h => by
  unfold Yek at h
  split at h
  ·cases h
  ·rename_i hh;have hx : x.isHeld = false := by cases x <;> first | rfl | (exfalso; exact hh _ rfl)
   obtain ⟨a, b⟩ := Yfy h;refine ⟨by rw [Ybh, a]; cases x <;> simp_all [AV.isHeld], fun t v hv => ?_⟩;cases t with
   | zero => simp only [List.getElem?_cons_zero, Option.some.injEq] at hv; rw [<- hv, hx]
   | succ t => exact b t v (by simpa using hv)
theorem Yje : ∀ (a b : List AV), Ybt (a ++ b) = Ybt a ++ Ybt b
 | [], b => rfl
 | x :: a, b => by rw [List.cons_append, Ybh, Ybh, Yje a b, List.append_assoc]
theorem Yf7 : ∀ n : Nat, Ybt (List.replicate n (.v undef)) = []
 | 0 => rfl
 | n + 1 => by rw [List.replicate_succ, Ybh, Yf7 n]; rfl
theorem Ynz {args : List AV} (h : Yek args = true) (n : Nat) : Ybt (AV.renL rIn args ++ List.replicate n (.v undef)) = [] /\ ∀ (t : Nat) (v : AV), (AV.renL rIn args ++ List.replicate n (.v undef))[t]? = some v -> v.isHeld = false := by
 obtain ⟨a, b⟩ := Yfy h;refine ⟨by rw [Yje, Yjd, a, Yf7]; rfl, fun t v hv => ?_⟩;rw [List.getElem?_append] at hv
 split at hv
 ·rw [Yhv, Option.map_eq_some_iff] at hv;obtain ⟨u, hu, rfl⟩ := hv;rw [Yp3]; exact b t u hu
 ·rw [List.getElem?_replicate] at hv
  split at hv
  ·cases hv; rfl
  ·cases hv
theorem Ysz {args : List AV} {hs : Heap} (hnoh : Yek args = true) (hnd : (keys hs).Nodup) (m : Nat) (φ : Phi) (w0 : World) (M : List Nat) (R : RL) (w : World) (hS : St w0 M (Yb φ hs ++ R) w) :
  RepS φ (fun i => if i % 3 = 1 then φ (i / 3) else ⟨0, false, 0, none, 0, undef, fun _ => False⟩) w0 M R (AV.renL rIn args ++ List.replicate (m - (AV.renL rIn args).length) (.v undef)) (renH rIn hs)
   { tmps := (AV.concL φ args).toArray ++ Array.replicate (m - (AV.concL φ args).toArray.size) undef, defers := [] } w := by
 have hin : ∀ i, (fun i => if i % 3 = 1 then φ (i / 3) else (⟨0, false, 0, none, 0, undef, fun _ => False⟩ : Hd)) (rIn i) = φ i := fun i => by
  have h1 : (3 * i + 1) % 3 = 1 := by omega
  have h2 : (3 * i + 1) / 3 = i := by omega
  simp only [rIn, h1, h2, if_true]
 have ea := Yca (p := fun _ => true) (ρ := rIn) (φ := φ) (φ' := fun i => if i % 3 = 1 then φ (i / 3) else (⟨0, false, 0, none, 0, undef, fun _ => False⟩ : Hd)) (fun i _ => hin i) args (Yd4 args);have hl : (AV.renL rIn args).length = args.length := by
  have := congrArg List.length ea;simpa [Yg] using this
 have hnh : ∀ (t : Nat) (v : AV), (AV.renL rIn args ++ List.replicate (m - (AV.renL rIn args).length) (.v undef))[t]? = some v -> v.isHeld = false -> t < ((AV.concL φ args).toArray ++ Array.replicate (m - (AV.concL φ args).toArray.size) undef).size := fun t v hv _ => by
  have := (List.getElem?_eq_some_iff.1 hv).1;simpa [Yg, hl] using this
 refine ⟨⟨hnh, fun t v hv hh => ?_, fun t v hv hj => ?_, ?_, by simp [Yg, hl]⟩, ?_, ?_, fun x => ?_⟩
 ·rw [(Ynz hnoh _).2 t v hv] at hh; cases hh
 ·rw [Array.getElem?_append, List.getElem?_append] at *;simp only [List.size_toArray, Yg, hl] at hv ⊢
  split
  ·rename_i hlt;rw [if_pos hlt] at hv;have := Ycb (fun i => if i % 3 = 1 then φ (i / 3) else (⟨0, false, 0, none, 0, undef, fun _ => False⟩ : Hd)) (AV.renL rIn args) t;rw [ea, hv] at this;simpa using this
  ·rename_i hge;rw [if_neg hge] at hv;rw [List.getElem?_replicate] at hv
   split at hv
   ·rename_i hlt;cases hv;rw [Array.getElem?_replicate, if_pos hlt];rfl
   ·cases hv
 ·rw [(Ynz hnoh _).1]; rfl
 ·have e : Yb (fun i => if i % 3 = 1 then φ (i / 3) else (⟨0, false, 0, none, 0, undef, fun _ => False⟩ : Hd)) (renH rIn hs) = Yb φ hs := by
   unfold Yb renH;rw [List.map_map];refine List.map_congr_left fun q _ => ?_;exact Yoz (p := fun _ => true) (φ := φ) (φ' := fun i => if i % 3 = 1 then φ (i / 3) else (⟨0, false, 0, none, 0, undef, fun _ => False⟩ : Hd)) (ρ := rIn) (fun i _ => hin i) (hin q.1) q.2 (Ymc q.2)
  rw [e];exact hS
 ·rw [Yso]; exact Ysa hnd
 ·exact hin x
def defK (c : Cx) (n : Nat) (g : FuncId) (args : List AV) (hp : Heap) (ps : PS) (k : PS -> Heap -> Heap -> Heap -> Prop) : Prop := Stuck 77
def ADef (P : Program) (g : FuncId) (args : List AV) (hs : Heap) (ps ps' : PS) (us nw : Heap) : Prop :=
 ∀ (φ : Phi) (w0 : World) (M : List Nat) (R : RL) (w : World), NewFor (keys nw) args hs -> St w0 M (Yb φ hs ++ R) w ->
  CallsD P g (AV.concL φ args).toArray ps.mode w fun e um w' => um = ps'.mode /\ (∃ v, e = .returned v) /\ ∃ φ', Agree (keys nw) φ φ' /\ St w0 M (Yb φ' (Yh hs us ++ nw) ++ R) w'
theorem Y0f {c : Cx} (hc : HandOkR c) (hm : c.P.follows .mixedOrders = true) {n : Nat} {g : FuncId} {args : List AV} {hp : Heap} {ps : PS} {k : PS -> Heap -> Heap -> Heap -> Prop} (h : defK c n g args hp ps k) :
  ∃ ps' hs us nw, k ps' hs us nw /\ PartOf hs hp /\ (∀ i ∈ keys us, i ∈ keys hs) /\ ADef c.P g args hs ps ps' us nw := h.elim
def Yen (P : Program) (fn : Func) (tmps : Array Value) (R : Ending -> World -> Prop) : List Deferred -> FrameMode -> World -> Prop
  | [], u, w => Leaves P fn tmps R [] u w
  | d :: ds, u, w => u ≠ .run /\
      ((∃ r w', d.target = .collected r /\ (Instr.takeDeferred r).run P w = .ok [] w' /\ Yen P fn tmps R ds u w') \/
       (∃ fv cap f args, d.target = .fn fv cap /\ (invoke d.target d.args).run P w = .ok (.enter f args) w /\ CallsD P f args u w fun
          | .returned _, u', w' => Yen P fn tmps R ds (settle u') w'
          | .panicked chain, u', w' => Yen P fn tmps R ds (raised u' chain) w'
          | .outgrown, _, w' => R .outgrown w'))
theorem Ye9 {P : Program} {fn : Func} {tmps : Array Value} {R : Ending -> World -> Prop} : ∀ (ds : List Deferred) (u : FrameMode) (w : World) (fr : Frame) (cs : List Frame), fr.mode = u -> fr.defers = ds -> fr.tmps = tmps -> P.funcs[fr.fn]? = some fn -> fr.kind = .normal -> Yen P fn tmps R ds u w ->
  ∃ e w' fr', R e w' /\ Comes P (lone fr cs w) (lone fr' cs w') e /\ fr'.fn = fr.fn /\ fr'.leaving P w' e := by
 intro ds
 induction ds with
 | nil =>
  intro u w fr cs hu hd ht hf hk h;exact leaves_steps [] u w fr cs hu hd ht hf hk h
 | cons d ds ih =>
  intro u w fr cs hu hd ht hf hk h;obtain ⟨hrun, h⟩ := h;rcases h with ⟨r, w', htar, htake, hrest⟩ | ⟨fv, cap, f, args, htar, hinv, hcall⟩
  ·have h1 := step_collected (cs := cs) (hu ▸ hrun) hd htar htake;obtain ⟨e', w'', fr', hR', hs', hfn', hl'⟩ := ih u w' { fr with defers := [] ++ ds } cs hu rfl ht hf hk hrest;exact ⟨e', w'', fr', hR', Comes.of_steps (.one h1) hs', hfn', hl'⟩
  ·have h1 := step_defer (cs := cs) (hu ▸ hrun) hd htar hinv;obtain ⟨e, u', w', frX, hR, hsteps, hkX, hgo⟩ := hcall { fr with defers := ds } cs hu;cases e with
   | returned v =>
    have h2 := step_going_returned (c := { { fr with defers := ds } with mode := u' }) (cs := cs) hkX hgo;obtain ⟨e', w'', fr', hR', hs', hfn', hl'⟩ := ih (settle u') w' { { { fr with defers := ds } with mode := u' } with mode := settle u' } cs rfl rfl ht hf hk hR;exact ⟨e', w'', fr', hR', Comes.of_steps (.head h1 (Steps.trans hsteps (.one h2))) hs', hfn', hl'⟩
   | panicked chain =>
    have h2 := step_going_panicked (c := { { fr with defers := ds } with mode := u' }) (cs := cs) hgo;obtain ⟨e', w'', fr', hR', hs', hfn', hl'⟩ := ih (raised u' chain) w' { { { fr with defers := ds } with mode := u' } with mode := raised u' chain } cs rfl rfl ht hf hk hR;exact ⟨e', w'', fr', hR', Comes.of_steps (.head h1 (Steps.trans hsteps (.one h2))) hs', hfn', hl'⟩
   | outgrown => exact ⟨.outgrown, w', fr, hR, Outgrown.of_steps (.one h1) hsteps, rfl, trivial⟩
def Ymw (P : Program) (fn : Func) (R : Ending -> World -> Prop) : Exit -> Act -> World -> Prop
 | .normal, a, w | .ret, a, w => Yen P fn a.tmps R a.defers .returning w
 | .panic chain, a, w => Yen P fn a.tmps R a.defers (.panicking chain) w
 | .outgrown, _, w => R .outgrown w
 | _, _, _ => False
theorem Yey {P : Program} {f : FuncId} {fn : Func} {c : Code} {args : Array Value} {w : World} {R : Ending -> World -> Prop} (hf : P.funcs[f]? = some fn) (hb : fn.body = some c)
  (h : c.wp P (Ymw P fn R) { tmps := args ++ Array.replicate (fn.ntmps - args.size) undef, defers := [] } w) : Calls P f args w R := by
 intro cs
 let b : Frame := { (default : Frame) with fn := f, kind := .normal }
 have henter : Frame.enter P f args .normal = b.at { tmps := args ++ Array.replicate (fn.ntmps - args.size) undef, defers := [] } [.code c] := by
  simp [Frame.enter, Frame.at, hf, hb, b]
 obtain ⟨e, a', w', hq, harr⟩ := h b [] cs;rw [<- henter] at harr;cases e with
 | normal =>
  obtain ⟨e', w'', fr', hR, hs, hfn, hl⟩ := Ye9 a'.defers .returning w' { b.at a' [] with mode := .returning } cs rfl rfl rfl hf rfl hq;exact ⟨e', w'', fr', hR, Comes.of_steps (Steps.trans harr (.one step_end)) hs, hfn, hl⟩
 | ret =>
  obtain ⟨todo, hs₀⟩ := harr;obtain ⟨e', w'', fr', hR, hs, hfn, hl⟩ := Ye9 a'.defers .returning w' { b.at a' todo with mode := .returning } cs rfl rfl rfl hf rfl hq;exact ⟨e', w'', fr', hR, Comes.of_steps hs₀ hs, hfn, hl⟩
 | panic chain =>
  obtain ⟨todo, hs₀⟩ := harr;obtain ⟨e', w'', fr', hR, hs, hfn, hl⟩ := Ye9 a'.defers (.panicking chain) w' { b.at a' todo with mode := .panicking chain } cs rfl rfl rfl hf rfl hq;exact ⟨e', w'', fr', hR, Comes.of_steps hs₀ hs, hfn, hl⟩
 | exit id => exact hq.elim
 | goto l => exact hq.elim
 | outgrown => exact ⟨.outgrown, w', b, hq, harr.resolve_left (by simp [b]), rfl, trivial⟩
def PS.settle : PS -> PS
 | .done _ => .run
 | ps => ps
theorem Yt3 (ps : PS) : Go.settle ps.mode = ps.settle.mode := by cases ps <;> rfl
def Y5o (f : AV) (K : Nat -> Prop) (K' : Prop) : Prop := match f with | .mp i => K i | _ => K'
def dfbK (it : It) (K : Prop) : Prop := match it with | .obj (.dfb true) => K | _ => Stuck 94
theorem Y0e {it : It} {K : Prop} (h : dfbK it K) : it = .obj (.dfb true) /\ K := by
 unfold dfbK at h
 split at h
 ·exact ⟨rfl, h⟩
 ·exact h.elim
def Yiv (c : Cx) (n : Nat) (tm : List AV) : List AV -> PS -> Heap -> (PS -> Heap -> Prop) -> Prop
 | [], ps, hp, K => K ps hp
 | f :: fs, ps, hp, K => Y5o f (fun i => Yv hp i fun it => dfbK it (updK hp i (.obj (.dfb false)) fun hp => Yiv c n tm fs ps hp K)) (funK f fun g a b => Yc (Yfe c.P g) (appK a b fun args => defK c n g args hp ps fun ps' hs us nw =>
   Yc (Ysb nw tm hp) (Yfl hp us fun hp => Yfb hp nw fun hp => Yiv c n tm fs ps'.settle hp K)))
theorem Yed {c : Cx} (hc : HandOkR c) (hm : c.P.follows .mixedOrders = true) {n : Nat} {tm : List AV} : ∀ (fs : List AV) (ps : PS) (hp : Heap) (K : PS -> Heap -> Prop), (∀ f ∈ fs, AV.held f ∈ tm) -> Yiv c n tm fs ps hp K ->
  ∃ ps' hp', K ps' hp' /\ ∀ (φ0 φ : Phi) (w0 : World) (M : List Nat) (R : RL) (a : Act) (w : World), RepS φ0 φ w0 M R tm hp a w -> ∀ (fn : Func) (Rp : Ending -> World -> Prop),
   (∀ φ' w', RepS φ0 φ' w0 M R tm hp' a w' -> Leaves c.P fn a.tmps Rp [] ps'.mode w') -> Yen c.P fn a.tmps Rp (fs.map (Yfc φ)) ps.mode w
 | [], ps, hp, K, _, h => ⟨ps, hp, h, fun φ0 φ w0 M R a w hr fn Rp kk => kk φ w hr⟩
 | f :: fs, ps, hp, K, hmem, h => by
  unfold Yiv Y5o at h
  split at h
  ·rename_i i;obtain ⟨it, k1, k2⟩ := Yf h;obtain ⟨rfl, k3⟩ := Y0e k2;obtain ⟨ps', hp', h7, h8⟩ := Yed hc hm fs _ _ K (fun f hf => hmem f (List.mem_cons_of_mem _ hf)) (Yec.1 k3);refine ⟨ps', hp', h7, fun φ0 φ w0 M R ac w hr fn Rp kk => ?_⟩;have hne : ps.mode ≠ .run := by cases ps <;> simp [PS.mode]
   obtain ⟨hb, hr2⟩ := hr.turn k1 (b := (φ i).b) (o := .deferred (some [])) (o' := .deferred none) (it' := .obj (.dfb false)) rfl rfl;rw [List.map_cons];exact ⟨hne, .inl ⟨(φ i).b, _, rfl, run_takeDeferred hb, h8 φ0 φ w0 M R ac _ hr2 fn Rp kk⟩⟩
  obtain ⟨g, a, b, h1, h2, h3⟩ := Ymj h;obtain ⟨hok, h4⟩ := Ya h1;obtain ⟨ps1, hs, us, nw, h5, hpart, hu, hA⟩ := Y0f hc hm (Ydg.1 h4);obtain ⟨hB, h6⟩ := Ya h5;obtain ⟨ps', hp', h7, h8⟩ := Yed hc hm fs _ _ K (fun f hf => hmem f (List.mem_cons_of_mem _ hf)) (Yc9.1 (Ydy.1 h6));have hB' := Ydu hB;refine ⟨ps', hp', h7, fun φ0 φ w0 M R ac w hr fn Rp kk => ?_⟩;have e1 : Yfc φ f = { target := .fn (.func g) (AV.concL φ b).toArray, args := (AV.concL φ a).toArray } := by unfold Yfc; rw [h2 φ]
  have hne : ps.mode ≠ .run := by cases ps <;> simp [PS.mode]
  have hi : (invoke (.fn (.func g) (AV.concL φ b).toArray) (AV.concL φ a).toArray).run c.P w = .ok (.enter g (AV.concL φ (a ++ b)).toArray) w := by
   rw [Ybz];simp only [invoke, Yfs hok];simp
  rw [List.map_cons, e1];refine ⟨hne, .inr ⟨_, _, _, _, rfl, hi, ?_⟩⟩;have hS : St w0 M (Yb φ hs ++ (Yb φ (Yb5 hs hp) ++ R)) w := by
   have := hr.st.perm ((Yu (hpart.perm hr.nd)).append (List.Perm.refl R));rwa [Yp, List.append_assoc] at this
  have hnew : NewFor (keys nw) (a ++ b) hs := fun i hi => by
   have hh := h3 i (by have := Yig (hB'.1 i hi).1 (hmem f List.mem_cons_self); simpa [AV.has] using this);refine ⟨by rw [Yo, List.any_append, <- Yo, <- Yo, hh.1, hh.2]; rfl, Yf8 fun p hp' => Yw (hB'.1 i hi).2 (Ybc (hpart.all p hp'))⟩
  refine CallsD.mono (hA φ w0 M _ w hnew hS) fun e um w' ⟨hum, ⟨v, hv⟩, φ', hag, hS'⟩ => ?_;subst hv hum;have hr2 := hr.new_heap hpart hu hB' hag hS' none (.v undef);have := h8 φ0 φ' w0 M R ac w' hr2 fn Rp kk;have e2 : fs.map (Yfc φ') = fs.map (Yfc φ) := List.map_congr_left fun f' hf' => by
   unfold Yfc;rw [Yew hag f' fun i hi => by have := Yig (hB'.1 i hi).1 (hmem f' (List.mem_cons_of_mem _ hf')); simpa [AV.has] using this]
  rw [e2] at this
  show Yen c.P fn ac.tmps Rp (fs.map (Yfc φ)) (Go.settle ps1.mode) w'
  rw [Yt3];exact this
end Go.Proofs.Ytfbhampnigdaaaa
namespace Go.Proofs.Ytfbhampnigdaaaa
open Go.RowKit
variable [InW]
attribute [local irreducible] Go.Oper.wp
def Y3g (L : LI) : Bool := match L.st with | .ready => true | _ => false
def Yil (n d i : Nat) (hs : Heap) (j : Option Code) (b : Bool) (st : LoopState) (hp : Heap) (k : KE) : Prop :=
 Yv hp (rIn i) fun it => Ysf it fun L cs => updK hp (rIn i) (.lp { L with st := st, pend := j } cs) fun hp => Ysl n d hs (.v (.bool b)) hp k
def Yyw (c : Cx) (n : Nat) (L : LI) (i : Nat) (args : List AV) (hp : Heap) (d : Nat) (k : KE) : Prop :=
 Yc (Yek args) (Yg0 (fun _ => true) hp n (i :: AV.leadL args []) [] fun hs => Yv hs i fun _ => Yhw rIn args fun tm0 => Yw8 rIn hs fun hp0 =>
  Ydx c n L.assign tm0 hp0 fun x tm hp => match x with
   | .norm => Yv hp (rIn i) fun it => Ysf it fun L1 cs => Yc (Y3g L1) (updK hp (rIn i) (.lp { L1 with st := .busy } cs) fun hp =>
     Ydx c n L.body tm hp fun x tm hp => match x with
      | .norm => Yil n d i hs none true .ready hp k
      | .ret => Yil n d i hs (some .ret) false .done hp k
      | .exit id => Yil n d i hs (some (.exit id)) false .done hp k
      | .pan _ => Stuck 100)
   | _ => Stuck 99)
theorem Yt9 {c : Cx} (hc : HandOkR c) (hm : c.P.follows .mixedOrders = true) {n : Nat} {L : LI} {i : Nat} {args : List AV} {hp : Heap} {d : Nat} {k : KE} (h : Yyw c n L i args hp d k) :
  ∃ val hs us nw, k val hs us nw /\ PartOf hs hp /\ (∀ i ∈ keys us, i ∈ keys hs) /\ i ∈ keys hs /\ Ywj c.P L i args hs val us nw := by
 obtain ⟨hnoh, h⟩ := Ya h;obtain ⟨hs, hpart, _, h1⟩ := Yb6 (PartOf.nil hp) (by simp [keys]) h;obtain ⟨it0, hit0, h1⟩ := Yf h1;have h2 := Yhy.1 ((Ycv _ _ _).1 h1);obtain ⟨x1, tm1, hp1, h3, hA⟩ := Y7 hc hm n L.assign _ _ _ h2;have hx1 : x1 = .norm := by cases x1 <;> first | rfl | exact h3.elim
 subst hx1;dsimp only at h3;obtain ⟨it1, l1, h4⟩ := Yf h3;obtain ⟨L1, cs1, rfl, h5⟩ := Yhf h4;obtain ⟨hrd, h6⟩ := Ya h5;obtain ⟨x2, tm2, hp2, h7, hBd⟩ := Y7 hc hm n L.body _ _ _ (Yec.1 h6);have hready : L1.st = .ready := by
  unfold Y3g at hrd
  split at hrd
  ·assumption
  ·cases hrd
 have fin : ∀ (j : Option Code) (b : Bool) (st : LoopState), b = j.isNone -> st = (if j.isNone then .ready else .done) -> Yil n d i hs j b st hp2 k ->
   (∀ (φ : Phi) (e : Exit) (l : Nat) (a : Act) (w : World) (R : Ending -> World -> Prop), x2.is φ e -> (∃ v w', (Instr.endRound l j).run c.P w = .ok v w' /\ R (.returned v) w') -> roundPost c.P l R e a w) ->
   ∃ val hs us nw, k val hs us nw /\ PartOf hs hp /\ (∀ i ∈ keys us, i ∈ keys hs) /\ i ∈ keys hs /\ Ywj c.P L i args hs val us nw := by
  intro j b st hb hst hend hpost;obtain ⟨it2, l2, e1⟩ := Yf hend;obtain ⟨L2, cs2, rfl, e2⟩ := Yhf e1;obtain ⟨v', us, nw, e3, e4, e5⟩ := Yow hpart.nd (Yec.1 e2);refine ⟨v', hs, us, nw, e3, hpart, e4, Ycj hit0, fun φ w0 M R w hnew hS => ?_⟩;have hr0 := Ysz hnoh hpart.nd 0 φ w0 M R w hS;generalize hφ0 : (fun i => if i % 3 = 1 then φ (i / 3) else (⟨0, false, 0, none, 0, undef, fun _ => False⟩ : Hd)) = φ0 at hr0;simp only [Nat.zero_sub, Array.replicate_zero, Array.append_empty, List.replicate_zero, List.append_nil] at hr0;have hin : ∀ ψ : Phi, (∀ x, ψ (3 * x + 1) = φ x) -> ψ (rIn i) = φ i := fun ψ hψ => hψ i;refine roundIn_of_wpIn (F := Fence.wide) trivial ?_;refine hA φ φ0 w0 M R _ w hr0 _ (fun φ1 e a1 w1 he hr1 hd1 => ?_) (some (φ i).b);cases he;have b1 := hin φ1 hr1.base;obtain ⟨hb1, hr2⟩ := hr1.turn l1 (b := (φ i).b) (o := L1.obj (φ i).fn (AV.concL φ1 cs1)) (o' := ({ L1 with st := .busy } : LI).obj (φ i).fn (AV.concL φ1 cs1)) (it' := .lp { L1 with st := .busy } cs1) (by simp [It.conc, b1]) (by simp [It.conc, b1]);refine ⟨_, run_beginRound hb1 hready, ?_⟩;refine hBd φ φ1 w0 M R a1 _ hr2 _ (fun φ2 e a2 w2 he2 hr3 hd2 => ?_) (some (φ i).b);refine hpost φ2 e _ a2 w2 _ he2 ?_;have b2 := hin φ2 hr3.base;obtain ⟨hb2, hr4⟩ := hr3.turn l2 (b := (φ i).b) (o := L2.obj (φ i).fn (AV.concL φ2 cs2)) (o' := ({ L2 with st := st, pend := j } : LI).obj (φ i).fn (AV.concL φ2 cs2)) (it' := .lp { L2 with st := st, pend := j } cs2) (by simp [It.conc, b2]) (by simp [It.conc, b2]);have hrun := run_endRound (P := c.P) j hb2;rw [<- hst, <- hb] at hrun;refine ⟨_, _, hrun, ?_⟩;obtain ⟨φ3, hag, hv, hS3⟩ := e5 φ φ2 w0 M R _ (fun i hi => (hnew i hi).2) hr4.nd hr4.base hr4.st;exact ⟨φ3, hag, by rw [hv]; rfl, hS3⟩
 cases x2 with
 | norm => exact fin none true .ready rfl rfl h7 fun φ e l a w R he hx => by cases he; exact hx
 | ret => exact fin (some .ret) false .done rfl rfl h7 fun φ e l a w R he hx => by cases he; exact hx
 | exit id => exact fin (some (.exit id)) false .done rfl rfl h7 fun φ e l a w R he hx => by cases he; exact hx
 | pan v => exact h7.elim
end Go.Proofs.Ytfbhampnigdaaaa
namespace Go.Proofs.Ytfbhampnigdaaaa
open Go.RowKit
variable [InW]
attribute [local irreducible] Go.Oper.wp
def revK : List AV -> List AV -> (List AV -> Prop) -> Prop
 | [], acc, K => K acc
 | x :: xs, acc, K => revK xs (x :: acc) K
theorem Yp1 : ∀ {xs acc : List AV} {K : List AV -> Prop}, revK xs acc K ↔ K (xs.reverse ++ acc)
 | [], acc, K => Iff.rfl
 | x :: xs, acc, K => by simp [revK, Yp1 (xs := xs)]
def endK (c : Cx) (n d : Nat) (fn : Func) (hs : Heap) (tm : List AV) (hp : Heap) (ps : PS) (k kp : KE) : Prop :=
 revK (Ybt tm) [] fun fs => Yiv c n tm fs ps hp fun ps hp => match ps with
  | .run => Yhu c.tt tm hp fn.results.toList fun vs => Ysl n d hs (outA vs) hp k
  | .live v => Ysl n d hs (.v v) hp kp
  | .done _ => Stuck 80
def Yx2 (c : Cx) (n : Nat) (g : FuncId) (args : List AV) (hp : Heap) (d : Nat) (k kp : KE) : Prop :=
 match c.P.funcs[g]? with
 | none => Stuck 51
 | some fn => match fn.body with
  | none => Stuck 52
  | some cd => Yc (Yek args) (Yg0 (fun _ => true) hp n (AV.leadL args []) [] fun hs => Yhw rIn args fun args' => Yw8 rIn hs fun hp0 => padK args' fn.ntmps fun tm0 =>
   Yfh { c with fn := g } n cd tm0 hp0 fun x tm hpF => match x with
    | .norm => endK c n d fn hs tm hpF .run k kp
    | .ret => endK c n d fn hs tm hpF .run k kp
    | .pan (.v v) => endK c n d fn hs tm hpF (.live v) k kp
    | _ => Stuck 53)
def Yu9 (c : Cx) (g : FuncId) (args : List AV) (hp : Heap) (k kp : KE) : Prop :=
 (∃ val hs us nw, k val hs us nw /\ PartOf hs hp /\ (∀ i ∈ keys us, i ∈ keys hs) /\ ACall c.P g args hs false val us nw) \/
 (∃ val hs us nw, kp val hs us nw /\ PartOf hs hp /\ (∀ i ∈ keys us, i ∈ keys hs) /\ ACall c.P g args hs true val us nw)
theorem HandOkL.at {c : Cx} (hc : HandOkL c) (g : FuncId) : HandOkL { c with fn := g } := ⟨⟨⟨hc.tab, hc.call, hc.sym⟩, hc.round⟩, hc.loops⟩
theorem Ypb {c : Cx} (hcL : HandOkL c) (hm : c.P.follows .mixedOrders = true) {n : Nat} {g : FuncId} {args : List AV} {hp : Heap} {d : Nat} {k kp : KE} (h : Yx2 c n g args hp d k kp) : Yu9 c g args hp k kp := by
 have hc := hcL.toHandOkR;unfold Yx2 at h
 split at h
 ·exact h.elim
 ·rename_i fn hf
  split at h
  ·exact h.elim
  ·rename_i cd hb;obtain ⟨hnoh, h⟩ := Ya h;obtain ⟨hs, hpart, _, h1⟩ := Yb6 (PartOf.nil hp) (by simp [keys]) h;have h2 := Ylx (Yhy.1 ((Ycv _ _ _).1 h1));obtain ⟨x, tm', hpF, h3, h4⟩ := Yg6 (hcL.at g) hm n (root := cd) (by show (c.P.funcs[g]?).bind (·.body) = some cd; rw [hf]; exact hb) cd .refl _ _ _ h2;have fin : ∀ (ps : PS), (∀ (φ : Phi) (e : Exit), x.is φ e -> ∀ (P : Program) (R : Ending -> World -> Prop) (a : Act) (w : World), Yen P fn a.tmps R a.defers ps.mode w -> Ymw P fn R e a w) ->
     endK c n d fn hs tm' hpF ps k kp -> Yu9 c g args hp k kp := by
    intro ps hexit hend;have hrev := Yp1.1 hend;rw [List.append_nil] at hrev;obtain ⟨ps', hp', h5, h6⟩ := Yed hc hm _ _ _ _ (fun f hf' => Yet (by simpa using hf')) hrev;have go : ∀ (v : AV) (kx : KE) (pan : Bool), Ysl n d hs v hp' kx ->
      (∀ (φ0 φ : Phi) (w0 : World) (M : List Nat) (R : RL) (a : Act) (w : World) (Rp : Ending -> World -> Prop), RepS φ0 φ w0 M R tm' hp' a w -> Rp (Ytf pan (v.conc φ)) w -> Leaves c.P fn a.tmps Rp [] ps'.mode w) ->
      ∃ val us nw, kx val hs us nw /\ (∀ i ∈ keys us, i ∈ keys hs) /\ ACall c.P g args hs pan val us nw := by
     intro v kx pan hlv hpost;obtain ⟨v', us, nw, h7, h8, h9⟩ := Yow hpart.nd hlv;refine ⟨v', us, nw, h7, h8, fun φ w0 M R w hnew hS => ?_⟩;refine Yey hf hb ?_;refine h4 φ _ w0 M R _ w (Ysz hnoh hpart.nd fn.ntmps φ w0 M R w hS) _ fun φ' e a' w' hx hr => ?_;refine hexit φ' e hx c.P _ a' w' ?_;rw [hr.tmps.df, <- List.map_reverse];refine h6 φ φ' w0 M R a' w' hr fn _ fun φ1 w1 hr1 => ?_;refine hpost φ φ1 w0 M R a' w1 _ hr1 ?_;obtain ⟨φ2, hag, hv, hS2⟩ := h9 φ φ1 w0 M R w1 (fun i hi => (hnew i hi).2) hr1.nd hr1.base hr1.st;exact ⟨φ2, hag, by rw [hv], hS2⟩
    cases ps' with
    | run =>
     obtain ⟨vs, h7, h8, h9⟩ := Yef hc.tab h5;obtain ⟨val, us, nw, a1, a2, a3⟩ := go (outA vs) k false h7 fun φ0 φ w0 M R a w Rp hr hR => ⟨_, Ylq h8 (h9 φ0 φ w0 M R a w hr), hR⟩;exact .inl ⟨val, hs, us, nw, a1, hpart, a2, a3⟩
    | live v =>
     obtain ⟨val, us, nw, a1, a2, a3⟩ := go (.v v) kp true h5 fun φ0 φ w0 M R a w Rp hr hR => hR;exact .inr ⟨val, hs, us, nw, a1, hpart, a2, a3⟩
    | done v => exact h5.elim
   cases x with
   | norm => exact fin .run (fun φ e he P R a w hl => by cases he; exact hl) h3
   | ret => exact fin .run (fun φ e he P R a w hl => by cases he; exact hl) h3
   | pan v =>
    cases v <;> first | exact h3.elim | skip
    rename_i v;exact fin (.live v) (fun φ e he P R a w hl => by cases he; exact hl) h3
   | exit i => exact h3.elim
end Go.Proofs.Ytfbhampnigdaaaa
