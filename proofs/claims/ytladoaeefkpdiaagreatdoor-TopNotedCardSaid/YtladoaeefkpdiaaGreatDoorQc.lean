/-
  A machine over abstract states, proved sound: the help of the proof of a law.
-/
import Derived.Test.YtladoaeefkpdiaaGreatDoorQb
import Derived.Lib.Builder
import Derived.Laws.Externs
import Derived.Lib.AppendStr
import Derived.Lib.UnsafeStr
import Derived.RangeFuncRecord
import Derived.OrdersIn
import Derived.LoopNIn
set_option linter.unusedVariables false
set_option linter.unusedSectionVars false
set_option linter.unusedSimpArgs false
namespace Go.Proofs.YtladoaeefkpdiaaGreatDoor
open Go.RowKit
variable [InW]
attribute [local irreducible] Go.Oper.wp
def nstB (hp : Heap) (id : Nat) : Bool := match look hp id with | some (.nst _ _ _) => true | _ => false
def froB (hp : Heap) (id : Nat) : Bool := match look hp id with | some (.fro _ _) => true | _ => false
def isN (x : AV) (hp : Heap) : Bool :=
 match x with
 | .rw id => nstB hp id
 | .ep id _ _ _ => nstB hp id
 | .rwp id _ _ _ => nstB hp id
 | .opq id => froB hp id
 | .fp id _ _ _ => froB hp id
 | _ => false
def Yvf (c : Cx) (T : TypeId) (s j : AV) (hp : Heap) (k : KE) : Prop :=
 intK j (fun kd i => tiK c.tt T fun ti => match ti.slice with
  | some (e, sz, by_, zs) => (match s with
   | .rw id => Yu hp id fun it => (match it with
    | .nst T' ts xs => Yc (Nat.beq sz ts.length) (Need (decide (0 <= i) && decide (i < (xs.length : Int))) (k (.ep id ts.length i.toNat 0) [(id, .nst T' ts xs)] [] []))
    | _ => Stuck 501)
   | .rwp id sz' l n => Yu hp id fun it => (match it with
    | .nst T' ts xs => Yc (Nat.beq sz ts.length && Nat.beq sz' ts.length) (Need (decide (0 <= i) && decide (i < (n : Int)) && decide (l + n <= xs.length)) (k (.ep id ts.length (l + i.toNat) 0) [(id, .nst T' ts xs)] [] []))
    | _ => Stuck 502)
   | .opq id => Yu hp id fun it => (match it with
    | .fro ts xs => Yc (Nat.beq sz ts.length) (Need (decide (0 <= i) && decide (i < (xs.length : Int))) (k (.fp id ts.length i.toNat 0) [(id, .fro ts xs)] [] []))
    | _ => Stuck 503)
   | _ => Stuck 504)
  | none => Stuck 505) (Stuck 506)
def rowAt (s j : AV) (hp : Heap) : Bool := match s, j with | .sl id _ _ _, .si _ _ => (match look hp id with | some (.row _ _ _ _) => true | _ => false) | _, _ => false
def Yve (c : Cx) (T : TypeId) (s j : AV) (hp : Heap) (k : KE) : Prop :=
 match s, j with
 | .sl id off lo n, .si kd i => tiK c.tt T fun ti => (match ti.slice with
  | some (e, sz, by_, zs) => Yu hp id fun it => Yc (Ykf it) (Need (decide (0 <= i) && decide (i < (n : Int))) (Ysw i sz n 0 off fun a => k (.ptr id a) [(id, it)] [] []))
  | none => Stuck 541)
 | _, _ => Stuck 542
noncomputable def Ylp (c : Cx) (T d : Nat) (ts : List Ty) (xs : Dt) (i j : Nat) (K : AV -> Heap -> Prop) : Prop :=
 Yc (Nat.blt d 1024) (tiK c.tt T fun ti => match ti.agg with
  | some false => Yc (Nat.blt j ts.length) (Need (decide (i < xs.length)) (K (Yy3 d ts xs i j) (Yga d ts xs i j 1)))
  | some true => (match ti.size with | some n => Yc (Nat.ble (j + n) ts.length) (Need (decide (i < xs.length)) (K (.agg (Yk3 d ts xs i j n)) (Yga d ts xs i j n))) | none => Stuck 507)
  | none => Stuck 508)
noncomputable def Yqz (c : Cx) (T d : Nat) (p : AV) (hp : Heap) (k : KE) : Prop :=
 match p with
 | .ep id sz i j => Yu hp id fun it => (match it with
  | .nst T' ts xs => Yc (Nat.beq sz ts.length) (Ylp c T d ts xs i j fun v nw => k v [(id, .nst T' ts xs)] [] nw)
  | _ => Stuck 509)
 | .fp id sz i j => Yu hp id fun it => (match it with
  | .fro ts xs => Yc (Nat.beq sz ts.length) (Ylp c T d ts xs i j fun v nw => k v [(id, .fro ts xs)] [] nw)
  | _ => Stuck 510)
 | _ => Stuck 511
def Yvc (c : Cx) (tys : List TypeId) (v : AV) (hp : Heap) (k : KE) : Prop :=
 match tys with
 | [T] => tiK c.tt T fun ti => (match ti.slice with
  | some _ => (match v with
   | .rw id => Yu hp id fun it => (match it with | .nst T' ts xs => k (.si .i64 (xs.length : Int)) [(id, .nst T' ts xs)] [] [] | _ => Stuck 512)
   | .opq id => Yu hp id fun it => (match it with | .fro ts xs => k (.si .i64 (xs.length : Int)) [(id, .fro ts xs)] [] [] | _ => Stuck 513)
   | .rwp id sz' l n => k (.si .i64 (n : Int)) [] [] []
   | _ => Stuck 514)
  | none => Stuck 515)
 | _ => Stuck 516
def Ymh (c : Cx) (T : TypeId) (i : Nat) (p : AV) (k : KE) : Prop :=
 match p with
 | .fp id sz j o => tiK c.tt T fun ti => getK ti.fields i fun f => (match f with | some (off, n + 1) => fN false (o + off) fun o => k (.fp id sz j o) [] [] [] | _ => Stuck 517)
 | .ep id sz j o => tiK c.tt T fun ti => getK ti.fields i fun f => (match f with | some (off, n + 1) => fN false (o + off) fun o => k (.ep id sz j o) [] [] [] | _ => Stuck 518)
 | _ => Stuck 519
def Ymb (c : Cx) (T d : Nat) (tm : List AV) (s : AV) (lo hi mx : Option Operand) (hp : Heap) (k : KE) : Prop :=
 match mx with
 | some _ => Stuck 520
 | none => tiK c.tt T fun ti => (match ti.slice with
  | some (e, sz, by_, zs) => (match s with
   | .rw id => Yu hp id fun it => (match it with
    | .nst T' ts xs => Yc (Nat.beq sz ts.length) (Ydw tm lo 0 fun l => Ydw tm hi xs.length fun h => Need (decide (l <= h) && decide (h <= xs.length)) (k (.rwp id ts.length l (h - l)) [(id, .nst T' ts xs)] [] []))
    | _ => Stuck 521)
   | .opq id => Yu hp id fun it => (match it with
    | .fro ts xs => Yc (Nat.beq sz ts.length) (Ydw tm lo 0 fun l => Ydw tm hi xs.length fun h => Need (decide (l <= h) && decide (h <= xs.length)) (k (.opq (3 * d)) [(id, .fro ts xs)] [] [(3 * d, .fro ts ((xs.take h).drop l))]))
    | _ => Stuck 522)
   | _ => Stuck 523)
  | none => Stuck 524)
def Yl8 (c : Cx) (T : TypeId) (p v : AV) (hp : Heap) (k : KE) : Prop :=
 match p with
 | .ep id sz i j => Yu hp id fun it => (match it with
  | .nst T' ts xs => Yc (Nat.beq sz ts.length) (tiK c.tt T fun ti => match ti.size with
   | some n => Yjv v fun vs => Yc (lenB vs n && Yfb vs && Nat.ble 1 n && Nat.ble (j + n) ts.length) (Ykq ts j fun t1 => Yiu t1 n fun t2 => clsK t2 vs fun cs =>
     Need (decide (i < xs.length)) (k (.v undef) [(id, .nst T' ts xs)] [(id, .nst T' ts (xs.set i (Yc0 (xs.getD i []) j cs)))] []))
   | none => Stuck 525)
  | _ => Stuck 526)
 | _ => Stuck 527
def Yl9 (ts : List Ty) (x : AV) (hp : Heap) (K : Heap -> Heap -> Dt -> Prop) : Prop :=
 match isN x hp, x with
 | true, .rw id => Yu hp id fun it => (match it with | .nst T' ts' xs => Yc (Yb1 9 (.sl ts') (.sl ts)) (K [(id, .nst T' ts' xs)] [] xs) | _ => Stuck 528)
 | true, .rwp id sz' l n => Yu hp id fun it => (match it with | .nst T' ts' xs => Yc (Yb1 9 (.sl ts') (.sl ts) && Nat.beq sz' ts.length) (Need (decide (l + n <= xs.length)) (K [(id, .nst T' ts' xs)] [] ((xs.drop l).take n))) | _ => Stuck 529)
 | _, x => Yuj 4 (.sl ts) x hp [] fun hs c => K hs (Yeh hs) c.lst
def Yw2 (x : AV) (hp : Heap) (K : List Ty -> Prop) : Prop :=
 match x with
 | .rs ts _ => K ts
 | .rw id => Yu hp id fun it => (match it with | .nst _ ts _ => K ts | _ => Stuck 530)
 | .rwp id _ _ _ => Yu hp id fun it => (match it with | .nst _ ts _ => K ts | _ => Stuck 531)
 | .opq id => Yu hp id fun it => (match it with | .fro ts _ => K ts | _ => Stuck 532)
 | _ => Stuck 533
def appN (s x : AV) (hp : Heap) : Bool :=
 match isN s hp with
 | true => true
 | false => (match isN x hp with
  | true => true
  | false => (match x with | .rs ts _ => Y6r ts | _ => false))
def Yo4 (c : Cx) (T : TypeId) (id' : Nat) (s x : AV) (hp : Heap) (k : KE) : Prop :=
 tiK c.tt T fun ti => match ti.slice with
  | none => Stuck 534
  | some (e, sz, by_, zs) => Yc (lenB zs sz && Nat.ble 1 sz && Nat.ble 1 by_) (match s with
   | .v (.slice none 0 0) => Yw2 x hp fun ts => Yc (Nat.beq ts.length sz) (Yl9 ts x hp fun hs us ys => Need (decide (ys.length * by_ <= 140737488355328)) (k (.rw id') hs us [(id', .nst e ts ys)]))
   | .rw id => Yu hp id fun it => (match it with
    | .nst T' ts xs => Yc (Nat.beq T' e && Nat.beq ts.length sz) (Yl9 ts x hp fun hs us ys => Yc (Yco.disjB hs [(id, .nst T' ts xs)]) (Need (decide ((xs.length + ys.length) * by_ <= 140737488355328)) (k (.rw id') ((id, .nst T' ts xs) :: hs) ((id, .dead) :: us) [(id', .nst e ts (xs ++ ys))])))
    | _ => Stuck 535)
   | .sl id off lo n => Yu hp id fun it => (match it with
    | .row T' sz' n' cs => Yc (Nat.beq T' e && Nat.beq sz' sz && Nat.beq n' 0 && Nat.beq n 0 && Nat.beq off 0 && Nat.beq lo 0) (match cs with
     | [] => Yw2 x hp fun ts => Yc (Nat.beq ts.length sz) (Yl9 ts x hp fun hs us ys => Yc (Yco.disjB hs [(id, .row T' sz' n' [])]) (Need (decide (ys.length * by_ <= 140737488355328)) (k (.rw id') ((id, .row T' sz' n' []) :: hs) ((id, .dead) :: us) [(id', .nst e ts ys)])))
     | _ => Stuck 536)
    | _ => Stuck 537)
   | _ => Stuck 538)
noncomputable def Yo0 (c : Cx) (o : Oper) (tm : List AV) (hp : Heap) (k kp : KE) : Prop :=
 match o.op with
 | .indexAddr T x ix => evK tm x fun s => (match isN s hp with
  | true => evK tm ix fun j => Yvf c T s j hp k
  | false => evK tm ix fun j => (match rowAt s j hp with | true => Yve c T s j hp k | false => Yet c o tm hp k kp))
 | .load T x => evK tm x fun p => (match isN p hp with | true => Yqz c T (o.dst.getD 0) p hp k | false => Yet c o tm hp k kp)
 | .store T x y => evK tm x fun p => (match isN p hp with | true => evK tm y fun v => Yl8 c T p v hp k | false => Yet c o tm hp k kp)
 | .fieldAddr T x i => evK tm x fun p => (match isN p hp with | true => Ymh c T i p k | false => Yet c o tm hp k kp)
 | .slice T x lo hi mx => evK tm x fun s => (match isN s hp with | true => Ymb c T (o.dst.getD 0) tm s lo hi mx hp k | false => Yet c o tm hp k kp)
 | .nilCheck x => evK tm x fun p => (match p with | .fp id sz i j => k (.fp id sz i j) [] [] [] | _ => Yet c o tm hp k kp)
 | .call cl => (match cl.callee with
  | .builtin b => (match b, cl.args.toList with
   | .len, [x] => evK tm x fun v => (match isN v hp with | true => Yvc c cl.argTypes.toList v hp k | false => Yet c o tm hp k kp)
   | .append, [s, x] => evK tm s fun s => evK tm x fun x => (match appN s x hp with
    | true => (match cl.argTypes.toList with | [T, T'] => Yc (Nat.beq T T') (Yo4 c T (3 * o.dst.getD 0) s x hp k) | _ => Stuck 539)
    | false => Yet c o tm hp k kp)
   | _, _ => Yet c o tm hp k kp)
  | _ => Yet c o tm hp k kp)
 | _ => Yet c o tm hp k kp
section
variable {P : Program} {tm : List AV} {dst : Option Tmp} {type : TypeId} {pos : String} {after : Array Edge} {guard : Option (Nat × Bool)}
theorem Yls {T e sz by_ n : Nat} {zs : List AV} {x ix : Operand} {hs : Heap} {xv iv val : AV} {kd : IntKind} {i : Int} (ht : (mkTI P T).slice = some (e, sz, by_, zs)) (hx : At tm x xv) (hxj : xv.rd = true) (hi : At tm ix iv) (hij : iv.rd = true) (hiv : ∀ φ, iv.conc φ = .int kd i) (h0 : 0 <= i) (h1 : i < (n : Int))
  (hv : ∀ (φ : Phi) (w0 : World) (M : List Nat) (R : RL) (w : World), St w0 M (Yb φ hs ++ R) w -> ∃ b off c, xv.conc φ = .slice (some ⟨b, off, none⟩) n c /\ val.conc φ = .pointer (some ⟨b, off + i.toNat * sz, none⟩)) :
  Does P { dst, op := .indexAddr T x ix, type, pos, after, guard } tm hs val [] [] :=
 fun φ w0 M R a w K Q ho _ hS kk => by
  obtain ⟨b, off, c, h2, h3⟩ := hv φ w0 M R w hS;have e1 := ho.ev (x := x) (by simp [Op.operands]) hx hxj;have e2 := ho.ev (x := ix) (by simp [Op.operands]) hi hij;rw [h2] at e1;rw [hiv φ] at e2;refine Ym5 (Yi ht φ).1 e1 e2 h0 h1 rfl ?_;have := kk φ w (Agree.refl _ _) (by simpa [Yh] using hS);rwa [h3] at this
theorem Yno {w0 w : World} {M : List Nat} {R : RL} {φ : Phi} {id : Nat} {ts : List Ty} {xs : Dt} (hS : St w0 M (Yb φ [(id, It.fro ts xs)] ++ R) w) : ∃ A c, (φ id).v = .slice A xs.length c /\ xs.length <= c := by
 have h := Yxq (hS.has _ List.mem_cons_self);unfold froP at h
 change @RdV (atF w (φ id).F) (.sl ts) (φ id).v (.l xs) at h
 obtain ⟨v', hv'⟩ : ∃ v', v' = (φ id).v := ⟨_, rfl⟩;rw [<- hv'] at h ⊢;cases h with
 | sl _ A c _ u hc hm ha hr => exact ⟨A, c, rfl, hc⟩
theorem Ysr {c : Cx} (ht : TabOk c.P c.tt) {T : TypeId} {s j : AV} {x ix : Operand} {hp : Heap} {k : KE} (hx : At tm x s) (hi : At tm ix j) (h : Yvf c T s j hp k) : Res1 c.P { dst, op := .indexAddr T x ix, type, pos, after, guard } tm hp k := by
 unfold Yvf at h;rcases Yb5 h with ⟨kd, i, h0, hc, hr⟩ | h0
 ·have h1 := Yj ht h0
  split at h1
  ·rename_i e sz by_ zs hs
   split at h1
   ·rename_i id;obtain ⟨it, hl, h2⟩ := Yf h1
    split at h2
    ·rename_i T' ts xs;obtain ⟨h3, h4⟩ := Ya h2;obtain rfl := Ye.1 h3;obtain ⟨h5, h6⟩ := h4;simp only [Bool.and_eq_true, decide_eq_true_eq] at h5;refine ⟨_, _, _, _, h6, .one hl, Ys, Yls hs hx rfl hi hr hc h5.1 h5.2 fun φ w0 M R w hS => ?_⟩;have hS' : St w0 M ((It.nst T' ts xs).conc φ id :: R) w := hS;refine ⟨(φ id).b, 0, (φ id).c, ?_, by simp [AV.conc]⟩;simp only [AV.conc, Yd8 (show 0 < xs.length by omega) hS', (Ydz hS').1, Bool.false_eq_true, if_false]
    ·exact h2.elim
   ·rename_i id sz' l n;obtain ⟨it, hl, h2⟩ := Yf h1
    split at h2
    ·rename_i T' ts xs;obtain ⟨h3, h4⟩ := Ya h2;simp only [Bool.and_eq_true, Ye] at h3;obtain ⟨rfl, rfl⟩ := h3;obtain ⟨h5, h6⟩ := h4;simp only [Bool.and_eq_true, decide_eq_true_eq] at h5;refine ⟨_, _, _, _, h6, .one hl, Ys, Yls hs hx rfl hi hr hc h5.1.1 h5.1.2 fun φ w0 M R w hS => ?_⟩;have hS' : St w0 M ((It.nst T' ts xs).conc φ id :: R) w := hS;exact ⟨(φ id).b, l * ts.length, _, Ym7 hS' h5.2 (by omega), by simp [AV.conc, Nat.add_mul]⟩
    ·exact h2.elim
   ·rename_i id;obtain ⟨it, hl, h2⟩ := Yf h1
    split at h2
    ·rename_i ts xs;obtain ⟨h3, h4⟩ := Ya h2;obtain rfl := Ye.1 h3;obtain ⟨h5, h6⟩ := h4;simp only [Bool.and_eq_true, decide_eq_true_eq] at h5;refine ⟨_, _, _, _, h6, .one hl, Ys, Yls hs hx rfl hi hr hc h5.1 h5.2 fun φ w0 M R w hS => ?_⟩;obtain ⟨b, off, c', hv, _⟩ := Yt7 hS (show i.toNat < xs.length by omega);exact ⟨b, off, c', by simp only [AV.conc, hv], by simp only [AV.conc, hv, Ycy, Nat.add_zero]⟩
    ·exact h2.elim
   ·exact h1.elim
  ·exact h1.elim
 ·exact h0.elim
theorem Ysq {c : Cx} (ht : TabOk c.P c.tt) {T : TypeId} {s j : AV} {x ix : Operand} {hp : Heap} {k : KE} (hx : At tm x s) (hi : At tm ix j) (h : Yve c T s j hp k) : Res1 c.P { dst, op := .indexAddr T x ix, type, pos, after, guard } tm hp k := by
 unfold Yve at h
 split at h
 ·rename_i id off lo n kd i;have h1 := Yj ht h
  split at h1
  ·rename_i e sz by_ zs hs;obtain ⟨it, hl, h2⟩ := Yf h1;obtain ⟨h3, h4⟩ := Ya h2;obtain ⟨h5, h6⟩ := h4;simp only [Bool.and_eq_true, decide_eq_true_eq] at h5;have h7 := Yh8 h6 (by omega) (by omega);refine ⟨_, _, _, _, h7, .one hl, Ys, Yls hs hx rfl hi rfl (fun φ => rfl) h5.1 h5.2 fun φ w0 M R w hS => ?_⟩;have hn := Ybj h3 φ id w0 M R w (by simpa [Yb] using hS);refine ⟨(φ id).b, off, (φ id).c - lo, by simp only [AV.conc, hn, Bool.false_eq_true, if_false], ?_⟩;simp only [AV.conc, Int.natCast_zero, Int.sub_zero]
  ·exact h1.elim
 ·exact h.elim
theorem Yjg {c : Cx} (ht : TabOk c.P c.tt) {T d : Nat} {x : Operand} {pv : AV} {hs : Heap} {ts : List Ty} {xs : Dt} {i j : Nat} {K : AV -> Heap -> Prop} (hx : At tm x pv) (hxj : pv.rd = true) (h : Ylp c T d ts xs i j K)
  (hat : i < xs.length -> ∀ (φ : Phi) (w0 : World) (M : List Nat) (R : RL) (w : World), St w0 M (Yb φ hs ++ R) w -> ∃ b off, pv.conc φ = .pointer (some ⟨b, off + j, none⟩) /\ Yoe φ hs w ts xs i b off) :
  ∃ v nw, K v nw /\ Does c.P { dst, op := .load T x, type, pos, after, guard } tm hs v [] nw := by
 unfold Ylp at h;obtain ⟨hd, h⟩ := Ya h;rw [Nat.blt_eq] at hd;have h1 := Yj ht h
 split at h1
 ·rename_i ha;obtain ⟨h2, h3⟩ := Ya h1;obtain ⟨h4, h5⟩ := h3;exact ⟨_, _, h5, Ywo hd (Ycr ha) hx hxj (by rwa [Nat.blt_eq] at h2) (hat (of_decide_eq_true h4))⟩
 ·rename_i ha
  split at h1
  ·rename_i n hn;obtain ⟨h2, h3⟩ := Ya h1;obtain ⟨h4, h5⟩ := h3;exact ⟨_, _, h5, Ywn hd (Ycr ha) (Ycq hn) hx hxj (by rwa [Nat.ble_eq] at h2) (hat (of_decide_eq_true h4))⟩
  ·exact h1.elim
 ·exact h1.elim
theorem Yqy {c : Cx} (ht : TabOk c.P c.tt) {T d : Nat} {p : AV} {x : Operand} {hp : Heap} {k : KE} (hx : At tm x p) (h : Yqz c T d p hp k) : Res1 c.P { dst, op := .load T x, type, pos, after, guard } tm hp k := by
 unfold Yqz at h
 split at h
 ·rename_i id sz i j;obtain ⟨it, hl, h2⟩ := Yf h
  split at h2
  ·rename_i T' ts xs;obtain ⟨h3, h4⟩ := Ya h2;obtain rfl := Ye.1 h3;obtain ⟨v, nw, h5, h6⟩ := Yjg ht hx rfl h4 (hs := [(id, .nst T' ts xs)]) fun hi φ w0 M R w hS => ⟨_, _, rfl, Y06 hS hi⟩;exact ⟨_, _, _, _, h5, .one hl, Ys, h6⟩
  ·exact h2.elim
 ·rename_i id sz i j;obtain ⟨it, hl, h2⟩ := Yf h
  split at h2
  ·rename_i ts xs;obtain ⟨h3, h4⟩ := Ya h2;obtain rfl := Ye.1 h3;obtain ⟨v, nw, h5, h6⟩ := Yjg ht hx rfl h4 (hs := [(id, .fro ts xs)]) fun hi φ w0 M R w hS => by
    obtain ⟨b, off, c', hv, hc⟩ := Yt7 hS hi;exact ⟨b, off + i * ts.length, by simp only [AV.conc, hv, Ycy, Nat.add_assoc], hc⟩
   exact ⟨_, _, _, _, h5, .one hl, Ys, h6⟩
  ·exact h2.elim
 ·exact h.elim
theorem Ysp {c : Cx} (ht : TabOk c.P c.tt) {tys : Array TypeId} {v : AV} {x : Operand} {hp : Heap} {k : KE} (hx : At tm x v) (hj : v.rd = true) (h : Yvc c tys.toList v hp k) :
  Res1 c.P { dst, op := .call { callee := .builtin .len, args := #[x], argTypes := tys }, type, pos, after, guard } tm hp k := by
 obtain ⟨tys⟩ := tys;unfold Yvc at h
 split at h
 ·rename_i T hT;have hT : tys = [T] := hT;subst hT;have h1 := Yj ht h
  split at h1
  ·rename_i q hq;obtain ⟨e, sz, by_, zs⟩ := q
   split at h1
   ·rename_i id;obtain ⟨it, hl, h2⟩ := Yf h1
    split at h2
    ·rename_i T' ts xs;refine ⟨_, _, _, _, h2, .one hl, Ys, Yhd hq hx hj fun φ w0 M R w hS => ?_⟩;have hS' : St w0 M ((It.nst T' ts xs).conc φ id :: R) w := hS;exact ⟨_, _, by simp only [AV.conc, (Ydz hS').1]; rfl⟩
    ·exact h2.elim
   ·rename_i id;obtain ⟨it, hl, h2⟩ := Yf h1
    split at h2
    ·refine ⟨_, _, _, _, h2, .one hl, Ys, Yhd hq hx hj fun φ w0 M R w hS => ?_⟩;obtain ⟨A, c, hv, _⟩ := Yno hS;exact ⟨A, c, hv⟩
    ·exact h2.elim
   ·exact ⟨_, _, _, _, h1, .nil _, Ys, Yhd hq hx hj fun φ w0 M R w hS => ⟨_, _, rfl⟩⟩
   ·exact h1.elim
  ·exact h1.elim
 ·exact h.elim
theorem Y2n {T : TypeId} {x : Operand} {j off id sz i k : Nat} (hf : Yha P T j off) (hx : At tm x (.fp id sz i k)) : Does P { dst, op := .fieldAddr T x j, type, pos, after, guard } tm [] (.fp id sz i (k + off)) [] [] :=
 fun φ w0 M R a w K Q ho _ hS kk => by
  have e1 := ho.ev (x := x) (by simp [Op.operands]) hx (by simp);simp only [AV.conc] at e1;rw [Yiq] at e1;refine Yre hf e1 rfl ?_;have := kk φ w (Agree.refl _ _) hS;simp only [AV.conc] at this;rw [<- Nat.add_assoc, Yhw] at this;exact this
theorem Yop {c : Cx} (ht : TabOk c.P c.tt) {T : TypeId} {i : Nat} {p : AV} {x : Operand} {hp : Heap} {k : KE} (hx : At tm x p) (h : Ymh c T i p k) : Res1 c.P { dst, op := .fieldAddr T x i, type, pos, after, guard } tm hp k := by
 unfold Ymh at h
 split at h
 ·have h1 := Yj ht h;obtain ⟨f, h2, h3⟩ := Ybh h1
  split at h3
  ·exact ⟨_, _, _, _, Yhb.1 h3, .nil _, Ys, Y2n (Yfe h2) hx⟩
  ·exact h3.elim
 ·have h1 := Yj ht h;obtain ⟨f, h2, h3⟩ := Ybh h1
  split at h3
  ·exact ⟨_, _, _, _, Yhb.1 h3, .nil _, Ys, Yuo (Yfe h2) hx⟩
  ·exact h3.elim
 ·exact h.elim
theorem Yzi {T e sz by_ l h T' : Nat} {zs : List AV} {x : Operand} {hi lop : Option Operand} {ts : List Ty} {xs : Dt} {id : Nat} (ht : (mkTI P T).slice = some (e, sz, by_, zs)) (hsz : sz = ts.length) (hx : At tm x (.rw id)) (hl : BoundS tm lop 0 l) (hh : BoundS tm hi xs.length h) (h1 : l <= h) (h2 : h <= xs.length) :
  Does P { dst, op := .slice T x lop hi none, type, pos, after, guard } tm [(id, .nst T' ts xs)] (.rwp id ts.length l (h - l)) [] [] :=
 fun φ w0 M R a w K Q ho _ hS kk => by
  subst hsz;have hS' : St w0 M ((It.nst T' ts xs).conc φ id :: R) w := hS;have hc := (Yrh hS').1;have hf := (Ydz hS').1;have e1 := ho x (by simp [Op.operands]) _ hx (by simp);simp only [AV.conc, hf] at e1;have hr := Yce (w := w) (Yi ht φ).1 (if (φ id).nil then none else some ⟨(φ id).b, 0, none⟩) (n := xs.length) (c := (φ id).c) (l := l) (h := h) (hl.is (φ := φ) (a := a) fun y hy => ho y (by simp [Op.operands, hy])) (hh.is (φ := φ) (a := a) fun y hy => ho y (by simp [Op.operands, hy])) h1 (by omega);rw [<- e1] at hr;unfold Oper.wp;rw [Yby hr];exact kk φ w (Agree.refl _ _) hS
theorem Yzj {T e sz by_ l h id' : Nat} {zs : List AV} {x : Operand} {hi lop : Option Operand} {ts : List Ty} {xs : Dt} {id : Nat} (ht : (mkTI P T).slice = some (e, sz, by_, zs)) (hsz : sz = ts.length) (hx : At tm x (.opq id)) (hl : BoundS tm lop 0 l) (hh : BoundS tm hi xs.length h) (h1 : l <= h) (h2 : h <= xs.length) :
  Does P { dst, op := .slice T x lop hi none, type, pos, after, guard } tm [(id, .fro ts xs)] (.opq id') [] [(id', .fro ts ((xs.take h).drop l))] :=
 fun φ w0 M R a w K Q ho hn hS kk => by
  subst hsz;have hf0 := Yxq (hS.has _ List.mem_cons_self);unfold froP at hf0
  change @RdV (atF w (φ id).F) (.sl ts) (φ id).v (.l xs) at hf0
  obtain ⟨A, c, hv, hc⟩ := Yno hS;have e1 := ho x (by simp [Op.operands]) _ hx (by simp);simp only [AV.conc, hv] at e1;have hr := Yce (w := w) (Yi ht φ).1 A (n := xs.length) (c := c) (l := l) (h := h) (hl.is (φ := φ) (a := a) fun y hy => ho y (by simp [Op.operands, hy])) (hh.is (φ := φ) (a := a) fun y hy => ho y (by simp [Op.operands, hy])) h1 (by omega);rw [<- e1] at hr;unfold Oper.wp;rw [Yby hr]
  let r : @Ro (atF w (φ id).F) ts := ⟨((φ id).v, xs), hf0⟩
  have hcut := @Ro.cut_ok (atF w (φ id).F) ts r l h h1 h2;have hrv : @Ro.v (atF w (φ id).F) ts r = .slice A xs.length c := hv;have hrx : @Ro.xs (atF w (φ id).F) ts r = xs := rfl;rw [hrv, hrx] at hcut;have hag := Ym φ id' ⟨0, false, 0, none, 0, Ro.cutV (.slice A xs.length c) ts.length l h, (φ id).F⟩;have hnx := (hn id' (by simp [keys])).2;have eh : Yb (fun i => if i = id' then (⟨0, false, 0, none, 0, Ro.cutV (.slice A xs.length c) ts.length l h, (φ id).F⟩ : Hd) else φ i) [(id, It.fro ts xs)] = Yb φ [(id, It.fro ts xs)] := Ybm hag fun i hi => by rw [List.mem_singleton.1 hi]; exact hnx
  have h5 := hS.dups (D := [Res.fro (Ro.cutV (.slice A xs.length c) ts.length l h) ts ((xs.take h).drop l) (φ id).F]) fun q hq => by
   rw [List.mem_singleton] at hq;subst hq;exact ⟨rfl, Yjm (fun b hb => Res.lt2 (hS.has _ List.mem_cons_self) b (.inr hb)) hcut, fun b hb => .inr ⟨_, List.mem_cons_self, hb⟩⟩
  have h3 := kk _ w hag (by
   rw [Yn];simp only [Yh];rw [eh];have e3 : Yb (fun i => if i = id' then (⟨0, false, 0, none, 0, Ro.cutV (.slice A xs.length c) ts.length l h, (φ id).F⟩ : Hd) else φ i) [(id', It.fro ts ((xs.take h).drop l))] = [Res.fro (Ro.cutV (.slice A xs.length c) ts.length l h) ts ((xs.take h).drop l) (φ id).F] := by simp [Yb, It.conc]
   rw [e3];exact h5.perm (by rw [<- List.append_assoc]; exact List.perm_append_comm.append_right R))
  simp [AV.conc, Ro.cutV] at h3;exact h3
theorem Yok {c : Cx} (ht : TabOk c.P c.tt) {T d : Nat} {s : AV} {x : Operand} {lo hi mx : Option Operand} {hp : Heap} {k : KE} (hx : At tm x s) (h : Ymb c T d tm s lo hi mx hp k) : Res1 c.P { dst, op := .slice T x lo hi mx, type, pos, after, guard } tm hp k := by
 unfold Ymb at h
 split at h
 ·exact h.elim
 ·have h1 := Yj ht h
  split at h1
  ·rename_i e sz by_ zs hs
   split at h1
   ·obtain ⟨it, hl, h2⟩ := Yf h1
    split at h2
    ·obtain ⟨h3, h4⟩ := Ya h2;obtain ⟨l, h5, hlo⟩ := Y6 h4;obtain ⟨hh, h6, hhi⟩ := Y6 h5;obtain ⟨h7, h8⟩ := h6;simp only [Bool.and_eq_true, decide_eq_true_eq] at h7;exact ⟨_, _, _, _, h8, .one hl, Ys, Yzi hs (Ye.1 h3) hx hlo hhi h7.1 h7.2⟩
    ·exact h2.elim
   ·obtain ⟨it, hl, h2⟩ := Yf h1
    split at h2
    ·obtain ⟨h3, h4⟩ := Ya h2;obtain ⟨l, h5, hlo⟩ := Y6 h4;obtain ⟨hh, h6, hhi⟩ := Y6 h5;obtain ⟨h7, h8⟩ := h6;simp only [Bool.and_eq_true, decide_eq_true_eq] at h7;exact ⟨_, _, _, _, h8, .one hl, Ys, Yzj hs (Ye.1 h3) hx hlo hhi h7.1 h7.2⟩
    ·exact h2.elim
   ·exact h1.elim
  ·exact h1.elim
theorem Yh9 (cs : List Cl) : ∀ (l : List Cl) (j k : Nat), (Yc0 l j cs).getD k .z = if j <= k /\ k < j + cs.length then cs.getD (k - j) .z else l.getD k .z
 | l, 0, k => by
  simp only [Yc0, Nat.zero_le, true_and, Nat.zero_add, Nat.sub_zero, List.getD_eq_getElem?_getD]
  split
  ·rename_i h; rw [List.getElem?_append_left h]
  ·rename_i h;rw [List.getElem?_append_right (by omega), List.getElem?_drop, show cs.length + (k - cs.length) = k by omega]
 | l, j + 1, 0 => by cases l <;> simp [Yc0]
 | l, j + 1, k + 1 => by
  have := Yh9 cs l.tail j k;simp only [Yc0, List.getD_cons_succ, this, Nat.add_le_add_iff_right, show k + 1 < j + 1 + cs.length ↔ k < j + cs.length by omega, show k + 1 - (j + 1) = k - j by omega]
  split
  ·rfl
  ·cases l <;> simp
theorem Yzf {T T' : TypeId} {x y : Operand} {id i j n : Nat} {ts : List Ty} {xs : Dt} {vs : List AV} {v : AV} {cs : List Cl} (hs : Ycd P T n) (hx : At tm x (.ep id ts.length i j)) (hy : At tm y v) (hj : v.rd = true) (hc : ∀ φ, (v.conc φ).cells = (AV.concL φ vs).toArray) (hn : vs.length = n) (h0 : 0 < n) (h1 : Yfb vs = true)
  (hi : i < xs.length) (hk : j + n <= ts.length) (hcs : cs.length = n) (hv : ∀ φ, AV.concL φ vs = Yz ((ts.drop j).take n) cs) (hsc : ∀ k, k < n -> ∀ ts', tyAt ts (j + k) ≠ .sl ts') :
  Does P { dst, op := .store T x y, type, pos, after, guard } tm [(id, .nst T' ts xs)] (.v undef) [(id, .nst T' ts (xs.set i (Yc0 (xs.getD i []) j cs)))] [] :=
 fun φ w0 M R a w K Q ho _ hS kk => by
  have hS' : St w0 M ((It.nst T' ts xs).conc φ id :: R) w := hS;have h2 := Yr (ho.ev (x := x) (by simp [Op.operands]) hx (by simp));have h3 := Yr (ho.ev (x := y) (by simp [Op.operands]) hy hj);obtain ⟨e, us, hrow, hr⟩ := Ydz hS';have hul : us.length = xs.length * ts.length := by rw [<- e]; exact hrow.1
  have hl : (AV.concL φ vs).length = n := by rw [Yg, hn]
  have hlen : i * ts.length + j + n <= us.length := by
   rw [hul];have : (i + 1) * ts.length <= xs.length * ts.length := Nat.mul_le_mul_right _ hi;rw [Nat.succ_mul] at this; omega
  have hnil := Yd8 (by omega) hS';have hnew : RowsRd w (φ id).F ts (us.take (i * ts.length + j) ++ AV.concL φ vs ++ us.drop (i * ts.length + j + n)) (xs.set i (Yc0 (xs.getD i []) j cs)) := fun i' k t hi' ht => by
   rw [List.length_set] at hi';have hk' : k < ts.length := by
    rcases Nat.lt_or_ge k ts.length with a | a
    ·exact a
    ·rw [List.getElem?_eq_none a] at ht; cases ht
   obtain ⟨u, g1, g2⟩ := hr i' k t hi' ht;have hL : (us.take (i * ts.length + j) ++ AV.concL φ vs).length = i * ts.length + j + n := by rw [List.length_append, List.length_take, hl]; omega
   by_cases hin : i' = i /\ j <= k /\ k < j + n
   ·obtain ⟨rfl, hk1, hk2⟩ := hin;have ec : cel (xs.set i' (Yc0 (xs.getD i' []) j cs)) i' k = cs.getD (k - j) .z := by
     unfold cel;rw [List.getD_eq_getElem?_getD (l := xs.set _ _), List.getElem?_set_self hi, Option.getD_some, Yh9, if_pos ⟨hk1, by omega⟩]
    have et : tyAt ts k = t := by rw [Yeb, List.getD_eq_getElem?_getD, ht]; rfl
    have hns := hsc (k - j) (by omega);rw [show j + (k - j) = k by omega, et] at hns;refine ⟨t.val (cs.getD (k - j) .z), ?_, ?_⟩
    ·rw [List.append_assoc, List.getElem?_append_right (by rw [List.length_take]; omega), List.length_take, List.getElem?_append_left (by rw [hl]; omega), hv φ, Yj0, List.getElem?_take, if_pos (by omega), List.getElem?_drop];rw [show i' * ts.length + k - min (i' * ts.length + j) us.length = k - j by omega, show j + (k - j) = k by omega, ht];rfl
    ·rw [ec];cases t with
     | int kd => exact @RdV.int (atF w (φ id).F) kd _
     | bool => exact @RdV.bool (atF w (φ id).F) _
     | str => exact @RdV.str (atF w (φ id).F) _
     | sl ts' => exact absurd rfl (hns ts')
   ·have ec : cel (xs.set i (Yc0 (xs.getD i []) j cs)) i' k = cel xs i' k := by
     unfold cel
     by_cases ei : i' = i
     ·subst ei;rw [List.getD_eq_getElem?_getD (l := xs.set _ _), List.getElem?_set_self hi, Option.getD_some, Yh9, if_neg (by rw [hcs]; exact fun h => hin ⟨rfl, h⟩)]
     ·rw [List.getD_eq_getElem?_getD (l := xs.set _ _), List.getElem?_set_ne (Ne.symm ei), <- List.getD_eq_getElem?_getD]
    refine ⟨u, ?_, by rw [ec]; exact g2⟩;have hcase : i' * ts.length + k < i * ts.length + j \/ i * ts.length + j + n <= i' * ts.length + k := by
     rcases Nat.lt_trichotomy i' i with h | h | h
     ·have := Nat.mul_le_mul_right ts.length (show i' + 1 <= i by omega);rw [Nat.add_mul] at this; omega
     ·subst h; omega
     ·have := Nat.mul_le_mul_right ts.length (show i + 1 <= i' by omega);rw [Nat.add_mul] at this; omega
    rcases hcase with h | h
    ·rw [List.getElem?_append_left (by omega), List.getElem?_append_left (by rw [List.length_take]; omega), List.getElem?_take, if_pos h, g1]
    ·rw [List.getElem?_append_right (by omega), hL, List.getElem?_drop, <- g1]; congr 1; omega
  have hX := hS.give (X := [.row (.slice (if (φ id).nil then none else some ⟨(φ id).b, 0, none⟩) (φ id).fn (φ id).c) T' ts.length (φ id).fn us, Res.rdl (φ id).F ts (us.take (i * ts.length + j) ++ AV.concL φ vs ++ us.drop (i * ts.length + j + n)) (xs.set i (Yc0 (xs.getD i []) j cs))]) (us := [(id, .dead)]) (A := []) (by simp [keys]) (by simp) ?_ ?_ ?_ ?_
  ·have hX' := hX;simp only [List.cons_append, List.nil_append] at hX';refine Yj5 (v := v.conc φ) hX' hs h2 h3 (by rw [hc φ]; simp [Yg, hn]) h0 (fun u hu => Yb6 h1 φ u (by rw [hc φ] at hu; simpa using hu)) hlen fun w' hS2 => ?_;rw [hc φ, show ((AV.concL φ vs).toArray.toList) = AV.concL φ vs from rfl] at hS2;have hJ := hS2.joinN (by rw [List.length_set, e]);refine kk φ w' (Agree.refl _ _) ?_;have e4 : Yh [(id, It.nst T' ts xs)] [(id, .dead)] = [(id, .dead)] := by simp [Yh, upd, Nat.beq_refl]
   rw [e4] at hJ;have e5 : Yh [(id, It.nst T' ts xs)] [(id, It.nst T' ts (xs.set i (Yc0 (xs.getD i []) j cs)))] = [(id, It.nst T' ts (xs.set i (Yc0 (xs.getD i []) j cs)))] := by simp [Yh, upd, Nat.beq_refl]
   rw [e5];have hJ2 : St w0 M ((It.nst T' ts (xs.set i (Yc0 (xs.getD i []) j cs))).conc φ id :: It.dead.conc φ id :: R) w' := hJ;have hJ3 := (hJ2.perm (List.Perm.swap _ _ _)).drop;simpa [Yb] using hJ3
  ·intro r hr2;simp only [List.mem_cons, List.not_mem_nil, or_false] at hr2;rcases hr2 with rfl | rfl
   ·exact hrow
   ·exact Ys8 (fun b hb => Res.lt2 (hS'.has _ List.mem_cons_self) b (.inr hb)) hnew
  ·refine List.Pairwise.cons (fun r hr2 => ?_) (by simp);rw [List.mem_singleton] at hr2;subst hr2;refine ⟨fun b hb hb' => ?_, fun b hb => by simp [Res.rdl, Res.foot] at hb⟩;rcases hb' with hb' | hb'
   ·simp [Res.rdl, Res.foot] at hb'
   ·exact Y1w (hS'.has _ List.mem_cons_self) hb hb'
  ·intro r hr2 b hb;simp only [List.mem_cons, List.not_mem_nil, or_false] at hr2;rcases hr2 with rfl | rfl
   ·exact ⟨_, List.mem_cons_self, by simp [keys], hb⟩
   ·simp [Res.rdl, Res.foot] at hb
  ·intro r hr2 b hb;simp only [List.mem_cons, List.not_mem_nil, or_false] at hr2;rcases hr2 with rfl | rfl
   ·exact False.elim hb
   ·exact .inr ⟨_, List.mem_cons_self, .inl hb⟩
theorem Y2y : ∀ {ts : List Ty} {xs : List AV} {K : List Cl -> Prop}, clsK ts xs K -> ∀ (k : Nat) (ts' : List Ty), k < ts.length -> tyAt ts k ≠ .sl ts'
 | [], _, _, _, k, ts', hk => by simp at hk
 | t :: ts, [], _, h, _, _, _ => h.elim
 | t :: ts, x :: xs, K, h, 0, ts', _ => fun e => by
  have e : t = .sl ts' := e;subst e;exact h.elim
 | t :: ts, x :: xs, K, h, k + 1, ts', hk => by
  obtain ⟨c, h1, _, _⟩ := Yju h;exact Y2y h1 k ts' (by simpa using hk)
theorem Yoi {c : Cx} (ht : TabOk c.P c.tt) {T : TypeId} {p v : AV} {x y : Operand} {hp : Heap} {k : KE} (hx : At tm x p) (hy : At tm y v) (hj : v.rd = true) (h : Yl8 c T p v hp k) : Res1 c.P { dst, op := .store T x y, type, pos, after, guard } tm hp k := by
 unfold Yl8 at h
 split at h
 ·rename_i id sz i j;obtain ⟨it, hl, h0⟩ := Yf h
  split at h0
  ·rename_i T' ts xs;obtain ⟨hz, h00⟩ := Ya h0;obtain rfl := Ye.1 hz;have h1 := Yj ht h00
   split at h1
   ·rename_i n hn;obtain ⟨vs, h2, hc, _⟩ := Ydk h1;obtain ⟨h3, h4⟩ := Ya h2;simp only [Bool.and_eq_true, Nat.ble_eq] at h3;obtain ⟨⟨⟨h31, h32⟩, h33⟩, h34⟩ := h3;obtain ⟨_, h5⟩ := Yb8 h4;obtain ⟨_, h6⟩ := Ybw h5;have hsc := fun k ts' hk => Y2y h6 k ts' hk;obtain ⟨cs, h7, h8, h9, _, _⟩ := Yhf h6;obtain ⟨h10, h11⟩ := h7;have hlt : ((ts.drop j).take n).length = n := by rw [List.length_take, List.length_drop]; omega
    refine ⟨_, _, _, _, h11, .one hl, fun i hi => by simpa [keys] using hi, Yzf (Ycq hn) hx hy hj hc (Y2 h31) (by omega) h32 (of_decide_eq_true h10) h34 (by omega) h8 fun k hk ts' e => hsc k ts' (by omega) ?_⟩;rw [Yeb] at e ⊢;rw [List.getD_eq_getElem?_getD] at e ⊢;rw [List.getElem?_take, if_pos hk, List.getElem?_drop];exact e
   ·exact h1.elim
  ·exact h0.elim
 ·exact h.elim
theorem Ygf {ts : List Ty} (hts : 0 < ts.length) {x : AV} {hp : Heap} {K : Heap -> Heap -> Dt -> Prop} (h : Yl9 ts x hp K) : ∃ hs us ys, K hs us ys /\ PartOf hs hp /\ SrcN x hs us ts ys /\ (∀ p ∈ us, p.2 = .dead) /\ ∀ i ∈ keys us, i ∈ keys hs := by
 unfold Yl9 at h
 split at h
 ·rename_i id _;obtain ⟨it, hl, h0⟩ := Yf h
  split at h0
  ·rename_i T' ts' xs;obtain ⟨h1, h2⟩ := Ya h0;have e := Y8 _ _ _ h1;simp only [Ty.sl.injEq] at e;subst e;exact ⟨_, _, _, h2, .one hl, Y3j hts, by simp, by simp [keys]⟩
  ·exact h0.elim
 ·rename_i id sz' l n _;obtain ⟨it, hl, h0⟩ := Yf h
  split at h0
  ·rename_i T' ts' xs;obtain ⟨h1, h2⟩ := Ya h0;simp only [Bool.and_eq_true, Ye] at h1;obtain ⟨h11, rfl⟩ := h1;have e := Y8 _ _ _ h11;simp only [Ty.sl.injEq] at e;subst e;obtain ⟨h3, h4⟩ := h2;exact ⟨_, _, _, h4, .one hl, Yz8 hts (of_decide_eq_true h3), by simp, by simp [keys]⟩
  ·exact h0.elim
 ·obtain ⟨hs, c, h1, h2, _, hcan, h3⟩ := Yd9 4 _ _ _ _ _ h (.nil _);obtain ⟨ys, rfl⟩ := hcan;refine ⟨_, _, _, h1, h2, Y50 hts h3, fun p hp => (Ydi p hp).1, fun i hi => ?_⟩;obtain ⟨p, hp, rfl⟩ := List.mem_map.1 hi;exact (Ydi p hp).2
theorem Ymn {x : AV} {hp : Heap} {K : List Ty -> Prop} (h : Yw2 x hp K) : ∃ ts, K ts := by
 unfold Yw2 at h
 split at h
 ·exact ⟨_, h⟩
 ·obtain ⟨it, _, h0⟩ := Yf h
  split at h0
  ·exact ⟨_, h0⟩
  ·exact h0.elim
 ·obtain ⟨it, _, h0⟩ := Yf h
  split at h0
  ·exact ⟨_, h0⟩
  ·exact h0.elim
 ·obtain ⟨it, _, h0⟩ := Yf h
  split at h0
  ·exact ⟨_, h0⟩
  ·exact h0.elim
 ·exact h.elim
theorem Y1r {ds us hs : Heap} (h : ∀ i ∈ keys us, i ∈ keys hs) : ∀ i ∈ keys (Yel ds ++ us), i ∈ keys (ds ++ hs) := fun i hi => by
 rw [Ybo, Yp2] at hi;rw [Ybo];exact (List.mem_append.1 hi).elim (fun h => List.mem_append_left _ h) fun h2 => List.mem_append_right _ (h i h2)
theorem Ymk {c : Cx} (ht : TabOk c.P c.tt) {T : TypeId} {sv xv : AV} {s x : Operand} {hp : Heap} {k : KE} {id' : Nat} (hsv : At tm s sv) (hsj : sv.rd = true) (hx : At tm x xv) (hxj : xv.rd = true) (h : Yo4 c T id' sv xv hp k) :
  Res1 c.P { dst, op := .call { callee := .builtin .append, args := #[s, x], argTypes := #[T, T] }, type, pos, after, guard } tm hp k := by
 have h1 := Yj ht h
 split at h1
 ·exact h1.elim
 ·rename_i e sz by_ zs hs;obtain ⟨h2, h3⟩ := Ya h1;simp only [Bool.and_eq_true, Nat.ble_eq] at h2;obtain ⟨⟨h21, h22⟩, h23⟩ := h2;have hz := Y2 h21
  split at h3
  ·obtain ⟨ts, h4⟩ := Ymn h3;obtain ⟨h5, h6⟩ := Ya h4;obtain rfl := Ye.1 h5;obtain ⟨hs', us, ys, h7, h8, h9, h10, h11⟩ := Ygf (by omega) h6;obtain ⟨h12, h13⟩ := h7;have hb := of_decide_eq_true h12;have := Yhe (dst := dst) (type := type) (pos := pos) (after := after) (guard := guard) (id' := id') hs hz (by omega) hsv hsj hx hxj (Y4n (e := e)) h9 (by simpa [keys] using h8.nd) h10 h11 (by simpa using Yef hb h23) (by simpa using hb);exact ⟨_, _, _, _, h13, h8, h11, by simpa [Yel] using this⟩
  ·rename_i id;obtain ⟨it, hl, h4⟩ := Yf h3
   split at h4
   ·rename_i T' ts xs;obtain ⟨h5, h6⟩ := Ya h4;simp only [Bool.and_eq_true, Ye] at h5;obtain ⟨rfl, rfl⟩ := h5;obtain ⟨hs', us, ys, h7, h8, h9, h10, h11⟩ := Ygf (by omega) h6;obtain ⟨h12, h13⟩ := Ya h7;obtain ⟨h14, h15⟩ := h13;have hb := of_decide_eq_true h14;have hpart := h8.cons hl (Ycl h12);have := Yhe (dst := dst) (type := type) (pos := pos) (after := after) (guard := guard) (id' := id') hs hz (by omega) hsv hsj hx hxj (Y4m (id := id) (ts := ts) (xs := xs)) h9 hpart.nd h10 h11 (Yef hb h23) hb;exact ⟨_, _, _, _, h15, hpart, Y1r (ds := [(id, It.nst T' ts xs)]) h11, this⟩
   ·exact h4.elim
  ·rename_i id off lo n;obtain ⟨it, hl, h4⟩ := Yf h3
   split at h4
   ·rename_i T' sz' n' cs;obtain ⟨h5, h6⟩ := Ya h4;simp only [Bool.and_eq_true, Ye] at h5;obtain ⟨⟨⟨⟨⟨rfl, rfl⟩, rfl⟩, rfl⟩, rfl⟩, rfl⟩ := h5
    split at h6
    ·obtain ⟨ts, h60⟩ := Ymn h6;obtain ⟨h61, h62⟩ := Ya h60;obtain rfl := Ye.1 h61;obtain ⟨hs', us, ys, h7, h8, h9, h10, h11⟩ := Ygf (by omega) h62;obtain ⟨h12, h13⟩ := Ya h7;obtain ⟨h14, h15⟩ := h13;have hb := of_decide_eq_true h14;have hpart := h8.cons hl (Ycl h12);have := Yhe (dst := dst) (type := type) (pos := pos) (after := after) (guard := guard) (id' := id') hs hz (by omega) hsv hsj hx hxj (Y4l (id := id) (ts := ts)) h9 hpart.nd h10 h11 (by simpa using Yef hb h23) (by simpa using hb);exact ⟨_, _, _, _, h15, hpart, Y1r (ds := [(id, It.row T' ts.length 0 [])]) h11, by simpa [Yel] using this⟩
    ·exact h6.elim
   ·exact h4.elim
  ·exact h3.elim
end
theorem Ysg {c : Cx} {o : Oper} {tm : List AV} {hp : Heap} {k kp : KE} (hc : HandOk c) (h : Yo0 c o tm hp k kp) : OpRes c o tm hp k kp := by
 have old : Yet c o tm hp k kp -> OpRes c o tm hp k kp := fun h => Ysh hc h;obtain ⟨dst, op, type, pos, after, guard⟩ := o;unfold Yo0 at h
 split at h
 ·rename_i hop;dsimp only at hop; subst hop;obtain ⟨a, ja, hx, h1⟩ := Yd h
  split at h1
  ·obtain ⟨b, jb, hy, h2⟩ := Yd h1;exact (Ysr hc.tab hx hy h2).op
  ·obtain ⟨b, jb, hy, h2⟩ := Yd h1
   split at h2
   ·exact (Ysq hc.tab hx hy h2).op
   ·exact old h2
 ·rename_i hop;dsimp only at hop; subst hop;obtain ⟨a, ja, hx, h1⟩ := Yd h
  split at h1
  ·exact (Yqy hc.tab hx h1).op
  ·exact old h1
 ·rename_i hop;dsimp only at hop; subst hop;obtain ⟨a, ja, hx, h1⟩ := Yd h
  split at h1
  ·obtain ⟨b, jb, hy, h2⟩ := Yd h1;exact (Yoi hc.tab hx hy jb h2).op
  ·exact old h1
 ·rename_i hop;dsimp only at hop; subst hop;obtain ⟨a, ja, hx, h1⟩ := Yd h
  split at h1
  ·exact (Yop hc.tab hx h1).op
  ·exact old h1
 ·rename_i hop;dsimp only at hop; subst hop;obtain ⟨a, ja, hx, h1⟩ := Yd h
  split at h1
  ·exact (Yok hc.tab hx h1).op
  ·exact old h1
 ·rename_i hop;dsimp only at hop; subst hop;obtain ⟨a, ja, hx, h1⟩ := Yd h
  split at h1
  ·refine Res1.op ⟨_, _, _, _, h1, .nil _, Ys, Does.pure fun φ a ho w => ?_⟩;have e := ho _ (by simp [Op.operands]) _ hx ja;simp only [AV.conc] at e;simp [execOp, e, AV.conc]
  ·exact old h1
 ·rename_i cl hop;dsimp only at hop; subst hop;obtain ⟨callee, ⟨args⟩, tys⟩ := cl;dsimp only at h
  split at h
  ·split at h
   ·rename_i x;obtain ⟨v, jv, hx, h1⟩ := Yd h
    split at h1
    ·exact (Ysp hc.tab hx jv h1).op
    ·exact old h1
   ·rename_i s x;obtain ⟨a, ja, hx, h1⟩ := Yd h;obtain ⟨b, jb, hy, h2⟩ := Yd h1
    split at h2
    ·obtain ⟨tys⟩ := tys;dsimp only at h2
     split at h2
     ·obtain ⟨h3, h4⟩ := Ya h2;obtain rfl := Ye.1 h3;exact (Ymk hc.tab hx ja hy jb h4).op
     ·exact h2.elim
    ·exact old h2
   ·exact old h
  ·exact old h
 ·exact old h
end Go.Proofs.YtladoaeefkpdiaaGreatDoor
namespace Go.Proofs.YtladoaeefkpdiaaGreatDoor
open Go.RowKit
set_option maxRecDepth 100000
set_option maxHeartbeats 1600000
variable [InW]
section
variable {P : Program} {tm : List AV} {dst : Option Tmp} {type : TypeId} {pos : String} {after : Array Edge} {guard : Option (Nat × Bool)}
theorem Yfi (ts : List Ty) (xs : Dt) (n : Nat) (h : n <= xs.length) : Yl ts (xs.take n) = (Yl ts xs).take (n * ts.length) := by
 have e : Yl ts xs = Yl ts (xs.take n) ++ Yl ts (xs.drop n) := by rw [<- Ybb, List.take_append_drop]
 have hl : (Yl ts (xs.take n)).length = n * ts.length := by rw [Yq, List.length_take, Nat.min_eq_left h]
 rw [e, <- hl, List.take_left]
theorem Yko (ts : List Ty) (xs : Dt) (n : Nat) (h : n <= xs.length) : Yl ts (xs.drop n) = (Yl ts xs).drop (n * ts.length) := by
 have e : Yl ts xs = Yl ts (xs.take n) ++ Yl ts (xs.drop n) := by rw [<- Ybb, List.take_append_drop]
 have hl : (Yl ts (xs.take n)).length = n * ts.length := by rw [Yq, List.length_take, Nat.min_eq_left h]
 rw [e, <- hl, List.drop_left]
theorem Ym0 {w0 w : World} {M : List Nat} {R : RL} {g k n c sz : Nat} {T : TypeId} {xs : List Value} (h : St w0 M (.row (.slice (some ⟨g, 0, none⟩) n c) T sz n xs :: R) w) (vs : List Value) (hk : k + vs.length <= xs.length) (h1 : ∀ u ∈ vs, u.oneCell' = true) :
  ∃ w', (storeCells ⟨g, k, none⟩ vs).run P w = .ok () w' /\ St w0 M (.row (.slice (some ⟨g, 0, none⟩) n c) T sz n (xs.take k ++ vs ++ xs.drop (k + vs.length)) :: R) w' := by
 have hrow := h.row .head;rcases hrow.2 with ⟨h0, _⟩ | ⟨g', cap, cur, hv, hb, hg, hnc, hcm, hcs, ht⟩
 ·cases h0
 cases hv;have hlen : n * sz <= cur.size := by rw [hcs]; exact Nat.mul_le_mul_right _ hnc
 have hxl := hrow.1;obtain ⟨w', hr, hb', hsz, hm, hkk⟩ := Ybx (P := P) vs 0 k cur w hg (by omega) h1;simp only [Nat.add_zero] at hb';refine ⟨w', hr, ?_⟩;rw [<- Yvn _ _ _ hk];have hrow' : w'.ownsRow 0 T sz (.slice (some ⟨g, 0, none⟩) n c) n (setL xs k vs) := by
  refine ⟨by rw [Yne, hxl], .inr ⟨g, c, _, rfl, Nat.zero_le _, hb', hnc, hcm, by rw [Ygi, hcs], ?_⟩⟩;rw [Ykz _ _ _ _ (by omega), ht]
 exact h.upd .head ⟨hm.1, hm.2.1, hm.2.2, by omega, fun k hk' hk2 => hkk k (by simpa [Res.foot, Value.ownBlock] using hk2)⟩ hrow' (fun b' hb' => .inl hb')
def cpD (xs ys : Dt) : Dt := ys.take (min ys.length xs.length) ++ xs.drop (min ys.length xs.length)
theorem Yp0 (xs ys : Dt) : (cpD xs ys).length = xs.length := by unfold cpD; simp; omega
theorem Y0e {w0 w : World} {M : List Nat} {R : RL} {K : Act -> World -> Prop} {Q : Exit -> Act -> World -> Prop} {a : Act} {T T' e e' : TypeId} {by_ c n : Nat} {zs : Array Value} {s x : Operand} {v : Value} {A : Option Addr} {ts : List Ty} {xs ys : Dt} (h : St w0 M (.row v e' ts.length n (Yl ts xs) :: R) w) (ht : SliceOf P T e ts.length by_ zs)
  (hs : a.eval s = v) (hx : a.eval x = .slice A ys.length c) (hn : n = xs.length) (hsrc : ys.length = 0 \/ ∃ b off, A = some ⟨b, off, none⟩ /\ ∀ j u, (Yl ts ys)[j]? = some u -> w.cell? ⟨b, off + j, none⟩ = some u)
  (kk : ∀ w', St w0 M (.row v e' ts.length n (Yl ts (cpD xs ys)) :: R) w' -> K (a.put dst (.int .i64 (min ys.length xs.length : Nat))) w') :
  Oper.wp P { dst, op := .call { callee := .builtin .copy, args := #[s, x], argTypes := #[T, T'] }, type, pos, after, guard } a w K Q := by
 obtain ⟨i, z, hi, hz1, hz2, his, hib⟩ := ht.parts;have hu := ht.1;obtain ⟨m, hm⟩ : ∃ m, m = min ys.length xs.length := ⟨_, rfl⟩;have hm1 : m <= ys.length := by omega
 have hm2 : m <= xs.length := by omega
 have hfl : (Yl ts (ys.take m)).length = m * i.size := by rw [Yq, List.length_take, Nat.min_eq_left hm1, his]
 have hcells : (Builtin.firstCells i.size m (.slice A ys.length c)).run P w = .ok (Yl ts (ys.take m)).toArray w := by
  rcases hsrc with h0 | ⟨b, off, rfl, hc⟩
  ·have h2 : m = 0 := by omega
   subst h2;have h3 : ys = [] := List.length_eq_zero_iff.1 h0;subst h3;have := run_loadCells_list (P := P) w (A.getD ⟨0, 0, none⟩) [] (by simp);cases A with
   | none => rfl
   | some A => simpa [Builtin.firstCells, Yl] using this
  ·have := run_loadCells_list (P := P) w ⟨b, off, none⟩ (Yl ts (ys.take m)) (fun j u hj => by
    rw [Yp];refine hc j u ?_;rw [Yfi ts ys m hm1, List.getElem?_take] at hj
    split at hj
    ·exact hj
    ·simp at hj)
   rw [hfl] at this;exact this
 have hmn : ys.length.min n = m := by rw [hm, hn]
 have hlast : Yl ts (cpD xs ys) = (Yl ts xs).take 0 ++ Yl ts (ys.take m) ++ (Yl ts xs).drop (0 + (Yl ts (ys.take m)).length) := by
  unfold cpD;rw [<- hm, Ybb, hfl, his, Yko ts xs m hm2, List.take_zero, List.nil_append, Nat.zero_add]
 have hrow := h.row .head;rw [hlast, <- hm] at kk;rcases hrow.2 with ⟨h0, h1⟩ | ⟨g, cap, cur, hv, _⟩
 ·have h2 : m = 0 := by omega
  subst h2;have h4 := kk w (by simpa [Yl] using h);subst h0;have hrun : (Builtin.copy_ #[T, T'] type #[.slice none n 0, .slice A ys.length c]).run P w = .ok (.int .i64 ((0 : Nat) : Int)) w := by
   simp [Builtin.copy_, run_underlying hu, Builtin.lenOf, sizeOf, typeInfo, hi, hmn, hcells];rfl
  unfold Oper.wp execOp;simp only [resolve, invoke, builtin, Sem.run_bind, Sem.run_pure, Result.andThen_ok, List.map_toArray, List.map_cons, List.map_nil, hs, hx];rw [h1] at hrun;rw [hrun];exact h4
 ·subst hv;obtain ⟨w', hr, hS⟩ := Ym0 (P := P) (k := 0) h (Yl ts (ys.take m)) (by rw [hfl, Yq, his]; have := Nat.mul_le_mul_right ts.length hm2; omega) (Yhs ts _);have h4 := kk w' hS;have hrun : (Builtin.copy_ #[T, T'] type #[.slice (some ⟨g, 0, none⟩) n cap, .slice A ys.length c]).run P w = .ok (.int .i64 (m : Int)) w' := by
   simp [Builtin.copy_, run_underlying hu, Builtin.lenOf, sizeOf, typeInfo, hi, hmn, hcells, hr, goInt]
  unfold Oper.wp execOp;simp only [resolve, invoke, builtin, Sem.run_bind, Sem.run_pure, Result.andThen_ok, List.map_toArray, List.map_cons, List.map_nil, hs, hx, hrun];exact h4
theorem Y8a {T T' e T0 by_ id : Nat} {zs : List AV} {s x : Operand} {xv : AV} {hs : Heap} {ts : List Ty} {xs ys : Dt} (ht : (mkTI P T).slice = some (e, ts.length, by_, zs)) (hsz : 0 < ts.length) (hsv : At tm s (.rw id)) (hx : At tm x xv) (hxj : xv.rd = true) (hsrc : Yjy xv hs ts ys) (hne : id ∉ keys hs) :
  Does P { dst, op := .call { callee := .builtin .copy, args := #[s, x], argTypes := #[T, T'] }, type, pos, after, guard } tm ((id, .arr T0 ts xs) :: hs) (.si .i64 ((min ys.length xs.length : Nat) : Int)) [(id, .arr T0 ts (cpD xs ys))] [] :=
 fun φ w0 M R a w K Q ho hn hS kk => by
  have e1 := ho s (by simp [Op.operands, Call.operands]) _ hsv (by simp);have e2 := ho x (by simp [Op.operands, Call.operands]) _ hx hxj;have hS0 : St w0 M (Yb φ hs ++ ((It.arr T0 ts xs).conc φ id :: R)) w := hS.perm (by simp only [Yb, List.map_cons, List.cons_append]; exact List.perm_middle.symm);obtain ⟨A, c, h1, h2⟩ := hsrc φ w0 M _ w hS0;rw [h1] at e2;have hS2 : St w0 M (.row (.slice (if (φ id).nil then none else some ⟨(φ id).b, 0, none⟩) (φ id).fn (φ id).c) T0 ts.length (φ id).fn (Yl ts xs) :: (Yb φ hs ++ R)) w := by simpa [Yb, It.conc] using hS
  have hfn : (φ id).fn = xs.length := by
   have := (hS2.row .head).1;rw [Yq] at this;exact (Nat.eq_of_mul_eq_mul_right hsz this).symm
  refine Y0e hS2 (Yi ht φ).1 e1 e2 hfn h2 fun w' hS' => ?_;refine kk φ w' (Agree.refl _ _) ?_;have e4 : Yh ((id, It.arr T0 ts xs) :: hs) [(id, .arr T0 ts (cpD xs ys))] = (id, .arr T0 ts (cpD xs ys)) :: hs := by simp [Yh, upd, Nat.beq_refl]
  rw [e4, List.append_nil];simpa [Yb, It.conc] using hS'
def Yvg (c : Cx) (T : TypeId) (s x : AV) (hp : Heap) (k : KE) : Prop :=
 match s with
 | .rw id => tiK c.tt T fun ti => (match ti.slice with
  | none => Stuck 611
  | some (e, sz, by_, zs) => Yu hp id fun it => (match it with
   | .arr T' ts xs => Yc (Nat.beq ts.length sz && Nat.ble 1 sz) (Ycc ts x hp fun hs ys => Yc (Yco.disjB hs [(id, .arr T' ts xs)]) (k (.si .i64 ((min ys.length xs.length : Nat) : Int)) ((id, .arr T' ts xs) :: hs) [(id, .arr T' ts (cpD xs ys))] []))
   | _ => Stuck 612))
 | _ => Stuck 613
theorem Yss {c : Cx} (ht : TabOk c.P c.tt) {T T' : TypeId} {sv xv : AV} {s x : Operand} {hp : Heap} {k : KE} (hsv : At tm s sv) (hx : At tm x xv) (hxj : xv.rd = true) (h : Yvg c T sv xv hp k) :
  Res1 c.P { dst, op := .call { callee := .builtin .copy, args := #[s, x], argTypes := #[T, T'] }, type, pos, after, guard } tm hp k := by
 unfold Yvg at h
 split at h
 ·rename_i id;have h1 := Yj ht h
  split at h1
  ·exact h1.elim
  ·rename_i e sz by_ zs hs;obtain ⟨it, hl, h4⟩ := Yf h1
   split at h4
   ·rename_i T0 ts xs;obtain ⟨h5, h6⟩ := Ya h4;simp only [Bool.and_eq_true, Ye, Nat.ble_eq] at h5;obtain ⟨rfl, h52⟩ := h5;obtain ⟨hs', ys, h7, h8, h9⟩ := Ycu h52 h6;obtain ⟨h10, h11⟩ := Ya h7;have hne := Ycl h10;exact ⟨_, _, _, _, h11, h8.cons hl hne, fun i hi => by simp [keys] at hi ⊢; exact .inl hi, Y8a hs h52 hsv hx hxj h9 hne⟩
   ·exact h4.elim
 ·exact h.elim
end
noncomputable def Ygc (c : Cx) (o : Oper) (tm : List AV) (hp : Heap) (k kp : KE) : Prop :=
 match o.op with
 | .call cl => (match cl.callee with
  | .builtin b => (match b, cl.args.toList with
   | .copy, [s, x] => evK tm s fun s => evK tm x fun x => (match cl.argTypes.toList with | [T, T'] => Yvg c T s x hp k | _ => Stuck 614)
   | _, _ => Yo0 c o tm hp k kp)
  | _ => Yo0 c o tm hp k kp)
 | _ => Yo0 c o tm hp k kp
theorem Ysf {c : Cx} {o : Oper} {tm : List AV} {hp : Heap} {k kp : KE} (hc : HandOk c) (h : Ygc c o tm hp k kp) : OpRes c o tm hp k kp := by
 have old : Yo0 c o tm hp k kp -> OpRes c o tm hp k kp := fun h => Ysg hc h;obtain ⟨dst, op, type, pos, after, guard⟩ := o;unfold Ygc at h
 split at h
 ·rename_i cl hop;dsimp only at hop; subst hop;obtain ⟨callee, ⟨args⟩, ⟨tys⟩⟩ := cl;dsimp only at h
  split at h
  ·split at h
   ·rename_i s x;obtain ⟨a, ja, hx, h1⟩ := Yd h;obtain ⟨b, jb, hy, h2⟩ := Yd h1
    split at h2
    ·exact (Yss hc.tab hx hy jb h2).op
    ·exact h2.elim
   ·exact old h
  ·exact old h
 ·exact old h
end Go.Proofs.YtladoaeefkpdiaaGreatDoor
namespace Go.Proofs.YtladoaeefkpdiaaGreatDoor
open Go.RowKit
set_option maxRecDepth 100000
set_option maxHeartbeats 1600000
variable [InW]
section
variable {P : Program} {tm : List AV} {dst : Option Tmp} {type : TypeId} {pos : String} {after : Array Edge} {guard : Option (Nat × Bool)}
theorem Y5v {T : Nat} {ts : List Ty} {xs : Dt} {id : Nat} (hts : 0 < ts.length) {w0 w : World} {M : List Nat} {R : RL} {φ : Phi} (hS : St w0 M ((It.arr T ts xs).conc φ id :: R) w) : (φ id).fn = xs.length := by
 have h : w.ownsRow 0 T ts.length _ (φ id).fn (Yl ts xs) := hS.row (v := .slice (if (φ id).nil then none else some ⟨(φ id).b, 0, none⟩) (φ id).fn (φ id).c) Look.head;have := h.1;rw [Yq] at this;exact (Nat.eq_of_mul_eq_mul_right hts this).symm
theorem Ygk {id sz n : Nat} (φ : Phi) : (AV.rwp id sz 0 n).conc φ = .slice (if (φ id).nil then none else some ⟨(φ id).b, 0, none⟩) n (φ id).c := by
 simp only [AV.conc, Nat.zero_mul, Nat.sub_zero];cases (φ id).nil <;> simp [Yp]
theorem Yyh {w : World} {T e : TypeId} {sz by_ : Nat} {zs : Array Value} (ht : SliceOf P T e sz by_ zs) (A : Option Addr) {n c l h m : Nat} {lov : Option Value} {hv mv : Value} (hl : Ycb lov 0 l) (hh : Ycb (some hv) 0 h) (hm : Ycb (some mv) 0 m) (h0 : l <= h) (h1 : h <= m) (h2 : m <= c) :
  (Instr.sliceAt T (.slice A n c) lov (some hv) (some mv)).run P w = .ok (.slice (if m = l then A else A.map (·.add (l * sz))) (h - l) (m - l)) w := by
 obtain ⟨j, z, hj, hz1, hz2, his, hib⟩ := ht.parts;subst his;cases hv with
 | int k1 i1 =>
  cases mv with
  | int k2 i2 =>
   simp only [Ycb] at hh hm;subst hh; subst hm;have e1 : (Instr.sliceBounds true n c lov (some (.int k1 (h : Int))) (some (.int k2 (m : Int)))).run P w = .ok (l, h, m) w := by
    cases lov with
    | none =>
     simp only [Ycb] at hl; subst hl;simp only [Instr.sliceBounds, Sem.run_bind, if_true, Yc3 rfl h2, Yc3 rfl h1, Result.andThen_ok, Sem.run_pure]
    | some v =>
     cases v <;> simp only [Ycb] at hl;subst hl;simp only [Instr.sliceBounds, Sem.run_bind, if_true, Yc3 rfl h2, Yc3 rfl h1, Yc3 rfl h0, Result.andThen_ok, Sem.run_pure]
   simp only [Instr.sliceAt, Sem.run_bind, run_underlying ht.1 w, Result.andThen_ok, Instr.slice, e1, sizeOf, typeInfo, run_program, hj, Sem.run_pure]
  | _ => simp [Ycb] at hm
 | _ => simp [Ycb] at hh
theorem Yzh {T e sz by_ l h m T' id' : Nat} {zs : List AV} {x hi mx : Operand} {lop : Option Operand} {ts : List Ty} {xs : Dt} {id : Nat} (ht : (mkTI P T).slice = some (e, sz, by_, zs)) (hsz : sz = ts.length) (hts : 0 < ts.length) (hx : At tm x (.rw id)) (hl : BoundS tm lop 0 l) (hh : BoundS tm (some hi) 0 h) (hm : BoundS tm (some mx) 0 m) (h0 : l <= h) (h1 : h <= m) (h2 : m <= xs.length) :
  Does P { dst, op := .slice T x lop (some hi) (some mx), type, pos, after, guard } tm [(id, .arr T' ts xs)] (.opq id') [] [(id', .dead)] :=
 fun φ w0 M R a w K Q ho hn hS kk => by
  subst hsz;have hS' : St w0 M ((It.arr T' ts xs).conc φ id :: R) w := hS;have hc := (Yip hts hS').1;have e1 := ho x (by simp [Op.operands]) _ hx (by simp);simp only [AV.conc] at e1;have hr := Yyh (w := w) (Yi ht φ).1 (if (φ id).nil then none else some ⟨(φ id).b, 0, none⟩) (n := (φ id).fn) (c := (φ id).c) (hl.is (φ := φ) (a := a) fun y hy => ho y (by simp [Op.operands, hy])) (hh.is (φ := φ) (a := a) fun y hy => ho y (by simp at hy; simp [Op.operands, hy])) (hm.is (φ := φ) (a := a) fun y hy => ho y (by simp at hy; simp [Op.operands, hy])) h0 h1 (by omega);rw [<- e1] at hr;unfold Oper.wp;rw [Yby (lo := lop) (hi := some hi) (mx := some mx) hr];generalize Value.slice (if m = l then (if (φ id).nil then none else some (⟨(φ id).b, 0, none⟩ : Addr)) else Option.map (·.add (l * ts.length)) (if (φ id).nil then none else some (⟨(φ id).b, 0, none⟩ : Addr))) (h - l) (m - l) = V;have hag := Ym φ id' ⟨0, false, 0, none, 0, V, fun _ => False⟩;have hx2 := hn id' (by simp [keys]);have hag2 : Yb (fun i => if i = id' then (⟨0, false, 0, none, 0, V, fun _ => False⟩ : Hd) else φ i) [(id, It.arr T' ts xs)] = Yb φ [(id, It.arr T' ts xs)] := Ybm hag fun i hi => by rw [List.mem_singleton.1 hi]; exact hx2.2
  have h3 := kk _ w hag (by
   rw [Yn];simp only [Yh, hag2];have := hS.dead;exact this.perm (by simp only [Yb, List.map_cons, List.map_nil, It.conc, List.cons_append, List.nil_append]; exact List.Perm.swap _ _ _))
  simp only [AV.conc, if_true] at h3;simp only [Oper.upon];exact h3
theorem Yzg {T e sz by_ l h n T' : Nat} {zs : List AV} {x : Operand} {hi lop : Option Operand} {ts : List Ty} {xs : Dt} {id : Nat} (ht : (mkTI P T).slice = some (e, sz, by_, zs)) (hsz : sz = ts.length) (hts : 0 < ts.length) (hx : At tm x (.rwp id ts.length 0 n)) (hl : BoundS tm lop 0 l) (hh : BoundS tm hi n h) (h1 : l <= h) (h2 : h <= xs.length) :
  Does P { dst, op := .slice T x lop hi none, type, pos, after, guard } tm [(id, .arr T' ts xs)] (.rwp id ts.length l (h - l)) [] [] :=
 fun φ w0 M R a w K Q ho _ hS kk => by
  subst hsz;have hS' : St w0 M ((It.arr T' ts xs).conc φ id :: R) w := hS;have hc := (Yip hts hS').1;have e1 := ho x (by simp [Op.operands]) _ hx (by simp);rw [Ygk] at e1;have hr := Yce (w := w) (Yi ht φ).1 (if (φ id).nil then none else some ⟨(φ id).b, 0, none⟩) (n := n) (c := (φ id).c) (l := l) (h := h) (hl.is (φ := φ) (a := a) fun y hy => ho y (by simp [Op.operands, hy])) (hh.is (φ := φ) (a := a) fun y hy => ho y (by simp [Op.operands, hy])) h1 (by omega);rw [<- e1] at hr;unfold Oper.wp;rw [Yby hr];exact kk φ w (Agree.refl _ _) hS
def apD (xs : Dt) (i l m : Nat) : Dt := xs.take i ++ (xs.drop l).take m ++ xs.drop (i + m)
theorem Yy8 {xs : Dt} {i l m : Nat} (h1 : i + m <= xs.length) (h2 : l + m <= xs.length) : (apD xs i l m).length = xs.length := by unfold apD; simp; omega
theorem Yur {T e T0 by_ id i l m : Nat} {zs : List AV} {s x : Operand} {ts : List Ty} {xs : Dt} (ht : (mkTI P T).slice = some (e, ts.length, by_, zs)) (hsz : 0 < ts.length) (hsv : At tm s (.rwp id ts.length 0 i)) (hx : At tm x (.rwp id ts.length l m)) (h1 : i + m <= xs.length) (h2 : l + m <= xs.length) :
  Does P { dst, op := .call { callee := .builtin .append, args := #[s, x], argTypes := #[T, T] }, type, pos, after, guard } tm [(id, .arr T0 ts xs)] (.rwp id ts.length 0 (i + m)) [(id, .arr T0 ts (apD xs i l m))] [] :=
 fun φ w0 M R a w K Q ho hn hS kk => by
  have hS' : St w0 M ((It.arr T0 ts xs).conc φ id :: R) w := hS;have hc := (Yip hsz hS').1;have hfn := Y5v hsz hS';have e1 := ho s (by simp [Op.operands, Call.operands]) _ hsv (by simp);have e2 := ho x (by simp [Op.operands, Call.operands]) _ hx (by simp);rw [Ygk] at e1;have hlen := Yy8 h1 h2;obtain ⟨t, z, hi, hz1, hz2, his, hib⟩ := (Yi ht φ).1.parts;have hti := (Yi ht φ).1.1;have e4 : Yh [(id, It.arr T0 ts xs)] [(id, .arr T0 ts (apD xs i l m))] = [(id, .arr T0 ts (apD xs i l m))] := by simp [Yh, upd, Nat.beq_refl]
  rcases Nat.eq_zero_or_pos m with h0 | h0
  ·subst h0;have hx0 : ∃ A c, a.eval x = .slice A 0 c := ⟨_, _, e2⟩;obtain ⟨A, c, e3⟩ := hx0;have hsrc : Src P t.size T (.slice A 0 c) 0 [] w := by
    cases A with
    | none => exact Src.ofNil w hti c
    | some b => exact Src.ofSlice w hti b 0 c [] (by simp) (by simp) (by simp)
   have hr := run_append_nothing w T T type e t hti hi (if (φ id).nil then none else some ⟨(φ id).b, 0, none⟩) i (φ id).c (by omega) _ hsrc;have h4 := kk φ w (Agree.refl _ _) (by
    rw [e4, List.append_nil];have : apD xs i l 0 = xs := by unfold apD; simp
    rw [this]; exact hS)
   rw [Ygk] at h4;unfold Oper.wp execOp;simp only [resolve, invoke, builtin, Sem.run_bind, Sem.run_pure, Result.andThen_ok, List.map_toArray, List.map_cons, List.map_nil, e1, e3];rw [hr];exact h4
  ·have hnil := Ydm hsz (by omega) hS';rw [Yhl hsz hS' h2 h0] at e2;have hsrc := Yz7 hsz (T := T0) h2 φ w0 M R w hS;obtain ⟨A, c, g1, g2⟩ := hsrc;rw [Yhl hsz hS' h2 h0] at g1;have hml : ((xs.drop l).take m).length = m := by simp; omega
   rw [hml] at g1 g2;obtain ⟨b, off, g3, g4⟩ := g2.resolve_left (by omega);rw [g3] at g1;injection g1 with g5 g6 g7
   injection g5 with g5
   injection g5 with g8 g9
   subst g8; subst g9;rw [hnil] at e1;simp only [Bool.false_eq_true, if_false] at e1;have hnews : (Yl ts ((xs.drop l).take m)).length = m * t.size := by rw [Yq, hml, his]
   have hfc := run_firstCells_some (P := P) w t.size m ⟨(φ id).b, l * ts.length, none⟩ m ((φ id).c - l) (Yl ts ((xs.drop l).take m)) hnews (fun j u hj => by rw [Yp]; exact g4 j u hj);have hS2 : St w0 M (.row (.slice (some ⟨(φ id).b, 0, none⟩) (φ id).fn (φ id).c) T0 ts.length (φ id).fn (Yl ts xs) :: R) w := by
    have := hS';simp only [It.conc, hnil] at this;exact this
   have hmul : i * ts.length + m * ts.length <= xs.length * ts.length := by rw [<- Nat.add_mul]; exact Nat.mul_le_mul_right _ h1
   obtain ⟨w', hr, hSt⟩ := Ym0 (P := P) (k := i * ts.length) hS2 (Yl ts ((xs.drop l).take m)) (by rw [hnews, Yq, his]; exact hmul) (Yhs ts _);have hlast : (Yl ts xs).take (i * ts.length) ++ Yl ts ((xs.drop l).take m) ++ (Yl ts xs).drop (i * ts.length + (Yl ts ((xs.drop l).take m)).length) = Yl ts (apD xs i l m) := by
    unfold apD;rw [hnews, his, Ybb, Ybb, Yfi ts xs i (by omega), <- Nat.add_mul, <- Yko ts xs (i + m) h1]
   rw [hlast] at hSt;have h4 := kk φ w' (Agree.refl _ _) (by
    rw [e4, List.append_nil];have : Yb φ [(id, It.arr T0 ts (apD xs i l m))] = [.row (.slice (some ⟨(φ id).b, 0, none⟩) (φ id).fn (φ id).c) T0 ts.length (φ id).fn (Yl ts (apD xs i l m))] := by simp [Yb, It.conc, hnil]
    rw [this]; exact hSt)
   rw [Ygk, hnil] at h4;simp only [Bool.false_eq_true, if_false] at h4;unfold Oper.wp execOp;simp only [resolve, invoke, builtin, Sem.run_bind, Sem.run_pure, Result.andThen_ok, List.map_toArray, List.map_cons, List.map_nil, e1, e2];have hroom : i + m <= (φ id).c := by omega
   have hrun : (Builtin.append_ #[T, T] type #[.slice (some ⟨(φ id).b, 0, none⟩) i (φ id).c, .slice (some ⟨(φ id).b, l * ts.length, none⟩) m ((φ id).c - l)]).run P w = .ok (.slice (some ⟨(φ id).b, 0, none⟩) (i + m) (φ id).c) w' := by
    have e5 : (⟨(φ id).b, 0, none⟩ : Addr).add (i * t.size) = ⟨(φ id).b, i * ts.length, none⟩ := by rw [Yp, his, Nat.zero_add]
    simp [Builtin.append_, run_underlying hti, sizeOf, typeInfo, hi, Builtin.lenOf, hroom, hfc, e5, hr]
   rw [hrun];exact h4
def clD (xs : Dt) (l m : Nat) (z : List Cl) : Dt := xs.take l ++ List.replicate m z ++ xs.drop (l + m)
theorem Ywp {T e T0 by_ id l m : Nat} {zs : List AV} {x : Operand} {ts : List Ty} {xs : Dt} (ht : (mkTI P T).slice = some (e, ts.length, by_, zs)) (hz : zs.length = ts.length) (hzs : ∀ φ, AV.concL φ zs = Yz ts (Ybs ts)) (hsz : 0 < ts.length) (hx : At tm x (.rwp id ts.length l m)) (h2 : l + m <= xs.length) :
  Does P { dst, op := .call { callee := .builtin .clear, args := #[x], argTypes := #[T] }, type, pos, after, guard } tm [(id, .arr T0 ts xs)] (.v (.tuple #[])) [(id, .arr T0 ts (clD xs l m (Ybs ts)))] [] :=
 fun φ w0 M R a w K Q ho hn hS kk => by
  have hS' : St w0 M ((It.arr T0 ts xs).conc φ id :: R) w := hS;have e2 := ho x (by simp [Op.operands, Call.operands]) _ hx (by simp);obtain ⟨t, z, hi, hz1, hz2, his, hib⟩ := (Yi ht φ).1.parts;have hti := (Yi ht φ).1.1;have e4 : Yh [(id, It.arr T0 ts xs)] [(id, .arr T0 ts (clD xs l m (Ybs ts)))] = [(id, .arr T0 ts (clD xs l m (Ybs ts)))] := by simp [Yh, upd, Nat.beq_refl]
  rcases Nat.eq_zero_or_pos m with h0 | h0
  ·subst h0;have hx0 : ∃ A c, a.eval x = .slice A 0 c := ⟨_, _, e2⟩;obtain ⟨A, c, e3⟩ := hx0;have h4 := kk φ w (Agree.refl _ _) (by
    rw [e4, List.append_nil];have : clD xs l 0 (Ybs ts) = xs := by unfold clD; simp
    rw [this]; exact hS)
   have hrun : (Builtin.clear_ #[T] type #[.slice A 0 c]).run P w = .ok (.tuple #[]) w := by
    cases A <;> simp [Builtin.clear_, run_underlying hti]
   unfold Oper.wp execOp;simp only [resolve, invoke, builtin, Sem.run_bind, Sem.run_pure, Result.andThen_ok, List.map_toArray, List.map_cons, List.map_nil, e3];rw [hrun];exact h4
  ·have hnil := Ydm hsz (by omega) hS';rw [Yhl hsz hS' h2 h0] at e2;have hS2 : St w0 M (.row (.slice (some ⟨(φ id).b, 0, none⟩) (φ id).fn (φ id).c) T0 ts.length (φ id).fn (Yl ts xs) :: R) w := by
    have := hS';simp only [It.conc, hnil] at this;exact this
   have hzc : (Builtin.zeroCells z.cells m).toList = Yl ts (List.replicate m (Ybs ts)) := by
    have e5 : Builtin.zeroCells z.cells m = madeCells (AV.concL φ zs).toArray (m * ts.length) := by
     rw [hz2];unfold Builtin.zeroCells madeCells;simp [Yg, hz]
    rw [e5, Yd2 φ hz, Yw, List.map_flatten, List.map_replicate, <- Yw, hzs φ, Yrs]
   have hnews : (Yl ts (List.replicate m (Ybs ts))).length = m * ts.length := by rw [Yq, List.length_replicate]
   have hmul : l * ts.length + m * ts.length <= xs.length * ts.length := by rw [<- Nat.add_mul]; exact Nat.mul_le_mul_right _ h2
   obtain ⟨w', hr, hSt⟩ := Ym0 (P := P) (k := l * ts.length) hS2 (Yl ts (List.replicate m (Ybs ts))) (by rw [hnews, Yq]; exact hmul) (Yhs ts _);have hlast : (Yl ts xs).take (l * ts.length) ++ Yl ts (List.replicate m (Ybs ts)) ++ (Yl ts xs).drop (l * ts.length + (Yl ts (List.replicate m (Ybs ts))).length) = Yl ts (clD xs l m (Ybs ts)) := by
    unfold clD;rw [hnews, Ybb, Ybb, Yfi ts xs l (by omega), <- Nat.add_mul, <- Yko ts xs (l + m) h2]
   rw [hlast] at hSt;have h4 := kk φ w' (Agree.refl _ _) (by
    rw [e4, List.append_nil];have : Yb φ [(id, It.arr T0 ts (clD xs l m (Ybs ts)))] = [.row (.slice (some ⟨(φ id).b, 0, none⟩) (φ id).fn (φ id).c) T0 ts.length (φ id).fn (Yl ts (clD xs l m (Ybs ts)))] := by simp [Yb, It.conc, hnil]
    rw [this]; exact hSt)
   obtain ⟨m', rfl⟩ : ∃ m', m = m' + 1 := ⟨m - 1, by omega⟩;have hrun : (Builtin.clear_ #[T] type #[.slice (some ⟨(φ id).b, l * ts.length, none⟩) (m' + 1) ((φ id).c - l)]).run P w = .ok (.tuple #[]) w' := by
    simp [Builtin.clear_, run_underlying hti, zeroValue, typeInfo, hi, hz1, hzc, hr]
   unfold Oper.wp execOp;simp only [resolve, invoke, builtin, Sem.run_bind, Sem.run_pure, Result.andThen_ok, List.map_toArray, List.map_cons, List.map_nil, e2];rw [hrun];exact h4
def Ymc (c : Cx) (T d : Nat) (tm : List AV) (s : AV) (lo : Option Operand) (hi mx : Operand) (hp : Heap) (k : KE) : Prop :=
 tiK c.tt T fun ti => (match ti.slice with
  | some (e, sz, by_, zs) => (match s with
   | .rw id => Yu hp id fun it => (match it with
    | .arr T' ts xs => Yc (Nat.beq sz ts.length && Nat.ble 1 sz) (Ydw tm lo 0 fun l => Ydw tm (some hi) 0 fun h => Ydw tm (some mx) 0 fun m => Need (decide (l <= h) && decide (h <= m) && decide (m <= xs.length)) (k (.opq (3 * d)) [(id, .arr T' ts xs)] [] [(3 * d, .dead)]))
    | _ => Stuck 621)
   | _ => Stuck 622)
  | none => Stuck 623)
theorem Yol {c : Cx} (ht : TabOk c.P c.tt) {T d : Nat} {s : AV} {x hi mx : Operand} {lo : Option Operand} {hp : Heap} {k : KE} (hx : At tm x s) (h : Ymc c T d tm s lo hi mx hp k) : Res1 c.P { dst, op := .slice T x lo (some hi) (some mx), type, pos, after, guard } tm hp k := by
 unfold Ymc at h;have h1 := Yj ht h
 split at h1
 ·rename_i e sz by_ zs hs
  split at h1
  ·obtain ⟨it, hl, h2⟩ := Yf h1
   split at h2
   ·obtain ⟨h3, h4⟩ := Ya h2;simp only [Bool.and_eq_true, Nat.ble_eq, Ye] at h3;obtain ⟨l, h5, hlo⟩ := Y6 h4;obtain ⟨hh, h6, hhi⟩ := Y6 h5;obtain ⟨m, h7, hmx⟩ := Y6 h6;obtain ⟨h8, h9⟩ := h7;simp only [Bool.and_eq_true, decide_eq_true_eq] at h8;exact ⟨_, _, _, _, h9, .one hl, Ys, Yzh hs h3.1 (by omega) hx hlo hhi hmx h8.1.1 h8.1.2 h8.2⟩
   ·exact h2.elim
  ·exact h1.elim
 ·exact h1.elim
def Yma (c : Cx) (T : Nat) (tm : List AV) (id sz' l0 n : Nat) (lo hi : Option Operand) (hp : Heap) (k : KE) : Prop :=
 tiK c.tt T fun ti => (match ti.slice with
  | some (e, sz, by_, zs) => Yu hp id fun it => (match it with
    | .arr T' ts xs => Yc (Nat.beq sz ts.length && Nat.ble 1 sz && Nat.beq sz' ts.length && Nat.beq l0 0) (Ydw tm lo 0 fun l => Ydw tm hi n fun h => Need (decide (l <= h) && decide (h <= xs.length)) (k (.rwp id ts.length l (h - l)) [(id, .arr T' ts xs)] [] []))
    | _ => Stuck 624)
  | none => Stuck 625)
theorem Yoj {c : Cx} (ht : TabOk c.P c.tt) {T id sz' l0 n : Nat} {x : Operand} {lo hi : Option Operand} {hp : Heap} {k : KE} (hx : At tm x (.rwp id sz' l0 n)) (h : Yma c T tm id sz' l0 n lo hi hp k) : Res1 c.P { dst, op := .slice T x lo hi none, type, pos, after, guard } tm hp k := by
 unfold Yma at h;have h1 := Yj ht h
 split at h1
 ·rename_i e sz by_ zs hs;obtain ⟨it, hl, h2⟩ := Yf h1
  split at h2
  ·obtain ⟨h3, h4⟩ := Ya h2;simp only [Bool.and_eq_true, Nat.ble_eq, Ye] at h3;obtain ⟨⟨⟨h31, h32⟩, rfl⟩, rfl⟩ := h3;obtain ⟨l, h5, hlo⟩ := Y6 h4;obtain ⟨hh, h6, hhi⟩ := Y6 h5;obtain ⟨h8, h9⟩ := h6;simp only [Bool.and_eq_true, decide_eq_true_eq] at h8;exact ⟨_, _, _, _, h9, .one hl, Ys, Yzg hs h31 (by omega) hx hlo hhi h8.1 h8.2⟩
  ·exact h2.elim
 ·exact h1.elim
def Yj4 (c : Cx) (T id sz l m id2 sz2 l2 m2 : Nat) (hp : Heap) (k : KE) : Prop :=
 tiK c.tt T fun ti => (match ti.slice with
  | some (e, sz', by_, zs) => Yu hp id fun it => (match it with
    | .arr T' ts xs => Yc (Nat.beq id id2 && Nat.beq sz' ts.length && Nat.ble 1 sz' && Nat.beq sz ts.length && Nat.beq sz2 ts.length && Nat.beq l 0) (Need (decide (m + m2 <= xs.length) && decide (l2 + m2 <= xs.length)) (k (.rwp id ts.length 0 (m + m2)) [(id, .arr T' ts xs)] [(id, .arr T' ts (apD xs m l2 m2))] []))
    | _ => Stuck 626)
  | none => Stuck 627)
theorem Ymj {c : Cx} (ht : TabOk c.P c.tt) {T id sz l m id2 sz2 l2 m2 : Nat} {s x : Operand} {hp : Heap} {k : KE} (hs : At tm s (.rwp id sz l m)) (hx : At tm x (.rwp id2 sz2 l2 m2)) (h : Yj4 c T id sz l m id2 sz2 l2 m2 hp k) : Res1 c.P { dst, op := .call { callee := .builtin .append, args := #[s, x], argTypes := #[T, T] }, type, pos, after, guard } tm hp k := by
 unfold Yj4 at h;have h1 := Yj ht h
 split at h1
 ·rename_i e sz' by_ zs hsl;obtain ⟨it, hl, h2⟩ := Yf h1
  split at h2
  ·obtain ⟨h3, h4⟩ := Ya h2;simp only [Bool.and_eq_true, Nat.ble_eq, Ye] at h3;obtain ⟨⟨⟨⟨⟨rfl, rfl⟩, h32⟩, rfl⟩, rfl⟩, rfl⟩ := h3;obtain ⟨h8, h9⟩ := h4;simp only [Bool.and_eq_true, decide_eq_true_eq] at h8;exact ⟨_, _, _, _, h9, .one hl, fun i hi => by simpa [keys] using hi, Yur hsl (by omega) hs hx h8.1 h8.2⟩
  ·exact h2.elim
 ·exact h1.elim
def Yq5 (c : Cx) (T : Nat) (x : AV) (hp : Heap) (k : KE) : Prop :=
 match x with
 | .rwp id sz l m => tiK c.tt T fun ti => (match ti.slice with
  | some (e, sz', by_, zs) => Yu hp id fun it => (match it with
    | .arr T' ts xs => tysK zs fun ts' => Yc (Ycc.sameTs ts' ts && Nat.beq sz' ts.length && Nat.ble 1 sz' && Nat.beq sz ts.length) (Need (decide (l + m <= xs.length)) (k (.v (.tuple #[])) [(id, .arr T' ts xs)] [(id, .arr T' ts (clD xs l m (Ybs ts)))] []))
    | _ => Stuck 628)
  | none => Stuck 629)
 | _ => Stuck 630
theorem Yq4 {c : Cx} (ht : TabOk c.P c.tt) {T : Nat} {xv : AV} {x : Operand} {hp : Heap} {k : KE} (hx : At tm x xv) (h : Yq5 c T xv hp k) : Res1 c.P { dst, op := .call { callee := .builtin .clear, args := #[x], argTypes := #[T] }, type, pos, after, guard } tm hp k := by
 unfold Yq5 at h
 split at h
 ·have h1 := Yj ht h
  split at h1
  ·rename_i e sz' by_ zs hsl;obtain ⟨it, hl, h2⟩ := Yf h1
   split at h2
   ·obtain ⟨ts', h3, h4, h5⟩ := Ye8 h2;obtain ⟨h6, h7⟩ := Ya h3;simp only [Bool.and_eq_true, Nat.ble_eq, Ye] at h6;obtain ⟨⟨⟨h61, rfl⟩, h63⟩, rfl⟩ := h6;obtain ⟨rfl, _⟩ := Y9 h61;obtain ⟨h8, h9⟩ := h7;exact ⟨_, _, _, _, h9, .one hl, fun i hi => by simpa [keys] using hi, Ywp hsl h4 h5 (by omega) hx (of_decide_eq_true h8)⟩
   ·exact h2.elim
  ·exact h1.elim
 ·exact h.elim
end
def isArr (hp : Heap) (s : AV) : Bool := match s with | .rw id => (match look hp id with | some (.arr _ _ _) => true | _ => false) | _ => false
def Y1t (hp : Heap) (s : AV) : Bool := match s with | .rwp id _ _ _ => (match look hp id with | some (.arr _ _ _) => true | _ => false) | _ => false
noncomputable def Yoz (c : Cx) (o : Oper) (tm : List AV) (hp : Heap) (k kp : KE) : Prop :=
 match o.op with
 | .slice T x lo hi mx => (match mx, hi with
  | some mx, some hi => evK tm x fun s => (match isArr hp s with | true => Ymc c T (o.dst.getD 0) tm s lo hi mx hp k | false => Ygc c o tm hp k kp)
  | none, hi => evK tm x fun s => (match Y1t hp s with | true => (match s with | .rwp id sz l n => Yma c T tm id sz l n lo hi hp k | _ => Stuck 631) | false => Ygc c o tm hp k kp)
  | _, _ => Ygc c o tm hp k kp)
 | .call cl => (match cl.callee with
  | .builtin b => (match b, cl.args.toList with
   | .append, [s, x] => evK tm s fun s => (match Y1t hp s with
    | true => evK tm x fun x => (match s, x, cl.argTypes.toList with | .rwp id sz l m, .rwp id2 sz2 l2 m2, [T, T'] => Yc (Nat.beq T T') (Yj4 c T id sz l m id2 sz2 l2 m2 hp k) | _, _, _ => Stuck 632)
    | false => Ygc c o tm hp k kp)
   | .clear, [x] => evK tm x fun x => (match Y1t hp x with
    | true => (match cl.argTypes.toList with | [T] => Yq5 c T x hp k | _ => Stuck 633)
    | false => Ygc c o tm hp k kp)
   | _, _ => Ygc c o tm hp k kp)
  | _ => Ygc c o tm hp k kp)
 | _ => Ygc c o tm hp k kp
theorem Yse {c : Cx} {o : Oper} {tm : List AV} {hp : Heap} {k kp : KE} (hc : HandOk c) (h : Yoz c o tm hp k kp) : OpRes c o tm hp k kp := by
 have old : Ygc c o tm hp k kp -> OpRes c o tm hp k kp := fun h => Ysf hc h;obtain ⟨dst, op, type, pos, after, guard⟩ := o;unfold Yoz at h
 split at h
 ·rename_i hop;dsimp only at hop; subst hop
  split at h
  ·obtain ⟨a, ja, hx, h1⟩ := Yd h
   split at h1
   ·exact (Yol hc.tab hx h1).op
   ·exact old h1
  ·obtain ⟨a, ja, hx, h1⟩ := Yd h
   split at h1
   ·split at h1
    ·exact (Yoj hc.tab hx h1).op
    ·exact h1.elim
   ·exact old h1
  ·exact old h
 ·rename_i cl hop;dsimp only at hop; subst hop;obtain ⟨callee, ⟨args⟩, ⟨tys⟩⟩ := cl;dsimp only at h
  split at h
  ·split at h
   ·rename_i s x;obtain ⟨a, ja, hx, h1⟩ := Yd h
    split at h1
    ·obtain ⟨b, jb, hy, h2⟩ := Yd h1
     split at h2
     ·obtain ⟨h3, h4⟩ := Ya h2;obtain rfl := Ye.1 h3;exact (Ymj hc.tab hx hy h4).op
     ·exact h2.elim
    ·exact old h1
   ·rename_i x;obtain ⟨a, ja, hx, h1⟩ := Yd h
    split at h1
    ·split at h1
     ·exact (Yq4 hc.tab hx h1).op
     ·exact h1.elim
    ·exact old h1
   ·exact old h
  ·exact old h
 ·exact old h
end Go.Proofs.YtladoaeefkpdiaaGreatDoor
namespace Go.Proofs.YtladoaeefkpdiaaGreatDoor
open Go.RowKit
set_option maxRecDepth 100000
set_option maxHeartbeats 1600000
variable [InW]
section
variable {P : Program} {tm : List AV} {dst : Option Tmp} {type : TypeId} {pos : String} {after : Array Edge} {guard : Option (Nat × Bool)}
def rI (r : List Cl) (k : Nat) : Int := (r.getD k .z).int
def key6 (r q : List Cl) : Prop := rI r 0 = rI q 0 /\ rI r 1 = rI q 1 /\ rI r 2 = rI q 2 /\ rI r 3 = rI q 3 /\ rI r 4 = rI q 4 /\ rI r 5 = rI q 5
instance (r q : List Cl) : Decidable (key6 r q) := by unfold key6; infer_instance
def row7 (q : List Cl) (v : Int) : List Cl := [.i (rI q 0), .i (rI q 1), .i (rI q 2), .i (rI q 3), .i (rI q 4), .i (rI q 5), .i v]
def hasP : Dt -> List Cl -> Bool
 | [], _ => false
 | r :: es, q => if key6 r q then true else hasP es q
def getP : Dt -> List Cl -> Int
 | [], _ => 0
 | r :: es, q => if key6 r q then rI r 6 else getP es q
def setP : Dt -> List Cl -> Int -> Dt
 | [], q, v => [row7 q v]
 | r :: es, q, v => if key6 r q then row7 q v :: es else r :: setP es q v
def intB (P : Program) (e : TypeId) : Bool := match P.underlying e with | some (.int .i64) => (match P.info? e with | some i => decide (i.size = 1) | none => false) | _ => false
def Ywh (P : Program) (T : TypeId) : Bool :=
 match P.underlying T with
 | some (.array n e) => decide (n = 4) && intB P e && (match P.info? T with | some i => decide (i.size = 4) | none => false)
 | _ => false
def sixB (P : Program) (T : TypeId) : Bool :=
 match P.underlying T with
 | some (.struct fs) => (match fs.toList with
  | [f0, f1, f2] => f0.name != "_" && f1.name != "_" && f2.name != "_" && intB P f0.type && intB P f1.type && Ywh P f2.type && decide (f0.offset = 0) && decide (f1.offset = 1) && decide (f2.offset = 2) && !P.stoodInHeld T
  | _ => false)
 | _ => false
theorem Yg2 {e : TypeId} (h : intB P e = true) : P.underlying e = some (.int .i64) /\ ∃ i, P.info? e = some i /\ i.size = 1 := by
 unfold intB at h
 split at h
 ·rename_i hu
  split at h
  ·rename_i i hi;exact ⟨hu, i, hi, of_decide_eq_true h⟩
  ·cases h
 ·cases h
theorem Ykk {T : TypeId} (h : Ywh P T = true) : ∃ e i, P.underlying T = some (.array 4 e) /\ intB P e = true /\ P.info? T = some i /\ i.size = 4 := by
 unfold Ywh at h
 split at h
 ·rename_i n e hu;simp only [Bool.and_eq_true, decide_eq_true_eq] at h;obtain ⟨⟨rfl, h1⟩, h⟩ := h
  split at h
  ·rename_i i hi;exact ⟨e, i, hu, h1, hi, of_decide_eq_true h⟩
  ·cases h
 ·cases h
theorem Ymp {T : TypeId} (h : sixB P T = true) : ∃ fs f0 f1 f2, P.underlying T = some (.struct fs) /\ fs.toList = [f0, f1, f2] /\ f0.name ≠ "_" /\ f1.name ≠ "_" /\ f2.name ≠ "_" /\ intB P f0.type = true /\ intB P f1.type = true /\ Ywh P f2.type = true /\ f0.offset = 0 /\ f1.offset = 1 /\ f2.offset = 2 /\ P.stoodInHeld T = false := by
 unfold sixB at h
 split at h
 ·rename_i fs hu
  split at h
  ·rename_i f0 f1 f2 hl;simp only [Bool.and_eq_true, decide_eq_true_eq, Bool.not_eq_true', bne_iff_ne, ne_eq] at h;obtain ⟨⟨⟨⟨⟨⟨⟨⟨⟨h0, h1⟩, h2⟩, h3⟩, h4⟩, h5⟩, h6⟩, h7⟩, h8⟩, h9⟩ := h;exact ⟨fs, f0, f1, f2, hu, hl, h0, h1, h2, h3, h4, h5, h6, h7, h8, h9⟩
  ·cases h
 ·cases h
theorem Yc1 {e : TypeId} (h : intB P e = true) (cs : Array Value) (j : Nat) (v : Value) (hv : cs[j]? = some v) (w : World) : (part e cs j).run P w = .ok v w := by
 obtain ⟨hk, _⟩ := Yg2 h;have ha : (isAgg e).run P w = .ok false w := Yc2 (by unfold Yfp; rw [hk]; rfl) w;simp only [part, Sem.run_bind, ha, Result.andThen_ok, Bool.false_eq_true, if_false, hv, Sem.run_pure]
theorem Yms {T : TypeId} (h : Ywh P T = true) (cs : Array Value) (j : Nat) (w : World) : (part T cs j).run P w = .ok (.agg (cs.extract j (j + 4))) w := by
 obtain ⟨e, i, hu, _, hi, hs⟩ := Ykk h;have ha : (isAgg T).run P w = .ok true w := Yc2 (by unfold Yfp; rw [hu]; rfl) w;have hz : (sizeOf T).run P w = .ok 4 w := Ybc (by unfold Ycd; rw [hi]; simp [hs]) w;simp only [part, Sem.run_bind, ha, Result.andThen_ok, if_true, hz, Sem.run_pure]
def keyV (q : List Cl) : Value := .agg #[.int .i64 (rI q 0), .int .i64 (rI q 1), .int .i64 (rI q 2), .int .i64 (rI q 3), .int .i64 (rI q 4), .int .i64 (rI q 5)]
theorem Yvq {e : TypeId} (h : intB P e = true) (a b : Int) (d : Nat) (w : World) : (Op.equalIn (d + 1) e (.int .i64 a) (.int .i64 b)).run P w = .ok (a == b) w := run_equalIn_int w d e _ _ _ _ (Yg2 h).1
theorem Y53 {T : TypeId} (h : Ywh P T = true) (a0 a1 a2 a3 b0 b1 b2 b3 : Int) (d : Nat) (w : World) : (Op.equalIn (d + 2) T (.agg #[.int .i64 a0, .int .i64 a1, .int .i64 a2, .int .i64 a3]) (.agg #[.int .i64 b0, .int .i64 b1, .int .i64 b2, .int .i64 b3])).run P w = .ok (decide (a0 = b0 /\ a1 = b1 /\ a2 = b2 /\ a3 = b3)) w := by
 obtain ⟨e, i, hu, he, hi, hs⟩ := Ykk h;obtain ⟨_, j, hj, hjs⟩ := Yg2 he;have hc : P.cellsOf e = 1 := by unfold Program.cellsOf; simp [hj, hjs]
 have pa : ∀ (k : Nat) (v : Value), (#[.int .i64 a0, .int .i64 a1, .int .i64 a2, .int .i64 a3] : Array Value)[k]? = some v -> (part e #[.int .i64 a0, .int .i64 a1, .int .i64 a2, .int .i64 a3] k).run P w = .ok v w := fun k v hv => Yc1 he _ k v hv w;have pb : ∀ (k : Nat) (v : Value), (#[.int .i64 b0, .int .i64 b1, .int .i64 b2, .int .i64 b3] : Array Value)[k]? = some v -> (part e #[.int .i64 b0, .int .i64 b1, .int .i64 b2, .int .i64 b3] k).run P w = .ok v w := fun k v hv => Yc1 he _ k v hv w;have q := fun a b => Yvq he a b d w;rw [show d + 2 = (d + 1) + 1 from rfl, run_equalIn_array w (d + 1) _ _ hu hj, hc, show List.range 4 = [0, 1, 2, 3] from rfl];simp only [Op.eqItems, Nat.zero_mul, Nat.one_mul, Nat.mul_one, Sem.run_bind, Sem.run_ite, Sem.run_pure, pa 0 (.int .i64 a0) rfl, pa 1 (.int .i64 a1) rfl, pa 2 (.int .i64 a2) rfl, pa 3 (.int .i64 a3) rfl, pb 0 (.int .i64 b0) rfl, pb 1 (.int .i64 b1) rfl, pb 2 (.int .i64 b2) rfl, pb 3 (.int .i64 b3) rfl, q, Result.andThen_ok]
 by_cases c0 : a0 = b0 <;> by_cases c1 : a1 = b1 <;> by_cases c2 : a2 = b2 <;> by_cases c3 : a3 = b3 <;> simp [c0, c1, c2, c3, Sem.run_pure]
theorem Y0k {T : TypeId} (h : sixB P T = true) (p q : List Cl) (w : World) : (Op.equal T (keyV p) (keyV q)).run P w = .ok (decide (key6 p q)) w := by
 obtain ⟨fs, f0, f1, f2, hu, hl, n0, n1, n2, t0, t1, t2, o0, o1, o2, hst⟩ := Ymp h;have hu' : P.underlying T = some (.struct (P.fieldsOf T)) := by unfold Program.fieldsOf; rw [hu]
 have hf : (P.fieldsOf T).toList = [f0, f1, f2] := by unfold Program.fieldsOf; rw [hu]; exact hl
 show (Op.equalIn (9999 + 1) T _ _).run P w = _
 unfold keyV;rw [run_equalIn_struct w 9999 T _ _ hu' hst, hf];have a0 := Yc1 t0 #[.int .i64 (rI p 0), .int .i64 (rI p 1), .int .i64 (rI p 2), .int .i64 (rI p 3), .int .i64 (rI p 4), .int .i64 (rI p 5)] 0 (.int .i64 (rI p 0)) rfl w;have a1 := Yc1 t1 #[.int .i64 (rI p 0), .int .i64 (rI p 1), .int .i64 (rI p 2), .int .i64 (rI p 3), .int .i64 (rI p 4), .int .i64 (rI p 5)] 1 (.int .i64 (rI p 1)) rfl w;have a2 := Yms t2 #[.int .i64 (rI p 0), .int .i64 (rI p 1), .int .i64 (rI p 2), .int .i64 (rI p 3), .int .i64 (rI p 4), .int .i64 (rI p 5)] 2 w;have b0 := Yc1 t0 #[.int .i64 (rI q 0), .int .i64 (rI q 1), .int .i64 (rI q 2), .int .i64 (rI q 3), .int .i64 (rI q 4), .int .i64 (rI q 5)] 0 (.int .i64 (rI q 0)) rfl w;have b1 := Yc1 t1 #[.int .i64 (rI q 0), .int .i64 (rI q 1), .int .i64 (rI q 2), .int .i64 (rI q 3), .int .i64 (rI q 4), .int .i64 (rI q 5)] 1 (.int .i64 (rI q 1)) rfl w;have b2 := Yms t2 #[.int .i64 (rI q 0), .int .i64 (rI q 1), .int .i64 (rI q 2), .int .i64 (rI q 3), .int .i64 (rI q 4), .int .i64 (rI q 5)] 2 w;have e2 : ∀ r : List Cl, (#[Value.int .i64 (rI r 0), .int .i64 (rI r 1), .int .i64 (rI r 2), .int .i64 (rI r 3), .int .i64 (rI r 4), .int .i64 (rI r 5)] : Array Value).extract 2 (2 + 4) = #[.int .i64 (rI r 2), .int .i64 (rI r 3), .int .i64 (rI r 4), .int .i64 (rI r 5)] := fun r => by simp
 rw [e2] at a2 b2;have q4 := Y53 t2 (rI p 2) (rI p 3) (rI p 4) (rI p 5) (rI q 2) (rI q 3) (rI q 4) (rI q 5) 9997 w;simp only [Op.eqFields, n0, n1, n2, o0, o1, o2, ne_eq, not_false_eq_true, if_true, Sem.run_ite, Sem.run_bind, a0, a1, a2, b0, b1, b2, Yvq t0 _ _ 9998 w, Yvq t1 _ _ 9998 w, q4, Result.andThen_ok];unfold key6
 by_cases c0 : rI p 0 = rI q 0 <;> by_cases c1 : rI p 1 = rI q 1 <;> by_cases c2 : rI p 2 = rI q 2 /\ rI p 3 = rI q 3 /\ rI p 4 = rI q 4 /\ rI p 5 = rI q 5 <;> simp [c0, c1, c2, Sem.run_pure]
theorem Yj7 {e : TypeId} (h : intB P e = true) (a : Int) (em : Bool) (n : Nat) (w : World) : (Instr.checkKey em (n + 1) e (.int .i64 a)).run P w = .ok () w := MapKept.run_checkKey (w := w) (Yg2 h).1 (by simp [MapKept.IsKey]) em n
theorem Yyj {T : TypeId} (h : Ywh P T = true) (a0 a1 a2 a3 : Int) (em : Bool) (n : Nat) (w : World) : (Instr.checkKey em (n + 2) T (.agg #[.int .i64 a0, .int .i64 a1, .int .i64 a2, .int .i64 a3])).run P w = .ok () w := by
 obtain ⟨e, i, hu, he, hi, hs⟩ := Ykk h;obtain ⟨_, j, hj, hjs⟩ := Yg2 he;have hsz : (sizeOf e).run P w = .ok 1 w := Ybc (by unfold Ycd; rw [hj]; simp [hjs]) w;have pa : ∀ (k : Nat) (v : Value), (#[.int .i64 a0, .int .i64 a1, .int .i64 a2, .int .i64 a3] : Array Value)[k]? = some v -> (part e #[.int .i64 a0, .int .i64 a1, .int .i64 a2, .int .i64 a3] k).run P w = .ok v w := fun k v hv => Yc1 he _ k v hv w;have c := fun a => Yj7 he a em n w;rw [show n + 2 = (n + 1) + 1 from rfl];unfold Instr.checkKey;simp only [Sem.run_bind, run_underlying hu, Result.andThen_ok];simp only [Std.Legacy.Range.forIn_eq_forIn_range', Std.Legacy.Range.size, Nat.sub_zero, Nat.add_one_sub_one, Nat.div_one];simp only [show List.range' 0 4 = [0, 1, 2, 3] from rfl, List.forIn_cons, List.forIn_nil, Sem.run_bind, hsz, Result.andThen_ok, Nat.zero_mul, Nat.one_mul, Nat.mul_one, pa 0 (.int .i64 a0) rfl, pa 1 (.int .i64 a1) rfl, pa 2 (.int .i64 a2) rfl, pa 3 (.int .i64 a3) rfl, c, Sem.run_pure]
theorem Ypg {T : TypeId} (h : sixB P T = true) (q : List Cl) (em : Bool) (w : World) : (Instr.checkKey em 10000 T (keyV q)).run P w = .ok () w := by
 obtain ⟨fs, f0, f1, f2, hu, hl, n0, n1, n2, t0, t1, t2, o0, o1, o2, hst⟩ := Ymp h;have a0 := Yc1 t0 #[.int .i64 (rI q 0), .int .i64 (rI q 1), .int .i64 (rI q 2), .int .i64 (rI q 3), .int .i64 (rI q 4), .int .i64 (rI q 5)] 0 (.int .i64 (rI q 0)) rfl w;have a1 := Yc1 t1 #[.int .i64 (rI q 0), .int .i64 (rI q 1), .int .i64 (rI q 2), .int .i64 (rI q 3), .int .i64 (rI q 4), .int .i64 (rI q 5)] 1 (.int .i64 (rI q 1)) rfl w;have a2 := Yms t2 #[.int .i64 (rI q 0), .int .i64 (rI q 1), .int .i64 (rI q 2), .int .i64 (rI q 3), .int .i64 (rI q 4), .int .i64 (rI q 5)] 2 w;have e2 : (#[Value.int .i64 (rI q 0), .int .i64 (rI q 1), .int .i64 (rI q 2), .int .i64 (rI q 3), .int .i64 (rI q 4), .int .i64 (rI q 5)] : Array Value).extract 2 (2 + 4) = #[.int .i64 (rI q 2), .int .i64 (rI q 3), .int .i64 (rI q 4), .int .i64 (rI q 5)] := by simp
 rw [e2] at a2;have q4 := Yyj t2 (rI q 2) (rI q 3) (rI q 4) (rI q 5) em 9997 w;have q0 := Yj7 t0 (rI q 0) em 9998 w;have q1 := Yj7 t1 (rI q 1) em 9998 w;unfold keyV;rw [show (10000 : Nat) = 9999 + 1 from rfl];unfold Instr.checkKey;simp only [Sem.run_bind, run_underlying hu, Result.andThen_ok];rw [<- Array.forIn_toList, hl];simp only [List.forIn_cons, List.forIn_nil, n0, n1, n2, o0, o1, o2, ne_eq, not_false_eq_true, if_true, Sem.run_ite, Sem.run_bind, a0, a1, a2, q0, q1, q4, Result.andThen_ok, Sem.run_pure]
theorem Yxu : ∀ (es : Dt) (n : Nat) (q : List Cl) (v : Int), entP n (es ++ [row7 q v]) = entP n es ++ [⟨keyV q, .int .i64 v, n + es.length⟩]
 | [], n, q, v => rfl
 | p :: es, n, q, v => by simp [entP, Yxu es (n + 1) q v]; omega
theorem Yxt : ∀ (es : Dt) (n j : Nat), (entP n es)[j]? = (es[j]?).map fun r => ⟨keyV r, .int .i64 (rI r 6), n + j⟩
 | [], _, _ => by simp [entP]
 | p :: es, n, 0 => by simp [entP]; exact ⟨rfl, rfl⟩
 | p :: es, n, j + 1 => by simp [entP, Yxt es (n + 1) j, show n + 1 + j = n + (j + 1) by omega]
theorem Yns : ∀ (es : Dt) (n j : Nat) (q : List Cl) (v : Int), (entP n es).modify j (fun e => { e with key := keyV q, val := .int .i64 v }) = entP n (es.set j (row7 q v))
 | [], n, j, q, v => by simp [entP]
 | p :: es, n, 0, q, v => by simp [entP]; exact ⟨rfl, rfl⟩
 | p :: es, n, j + 1, q, v => by simp [entP, Yns es (n + 1) j q v]
theorem Yt2 {r q : List Cl} (h : key6 r q) : key6 q r := ⟨h.1.symm, h.2.1.symm, h.2.2.1.symm, h.2.2.2.1.symm, h.2.2.2.2.1.symm, h.2.2.2.2.2.symm⟩
theorem Y6m {r q : List Cl} (h : key6 r q) : keyV r = keyV q := by
 obtain ⟨h0, h1, h2, h3, h4, h5⟩ := h;unfold keyV;rw [h0, h1, h2, h3, h4, h5]
theorem Yr5 {T : TypeId} (h : sixB P T = true) (q : List Cl) (w : World) : ∀ (es : Dt) (n i : Nat),
  (∃ j, j < es.length /\ (Instr.findAsking T (keyV q) (entP n es) i).run P w = .ok (some (i + j, .int .i64 (getP es q))) w /\ hasP es q = true /\ (∃ r, es[j]? = some r /\ key6 r q) /\ ∀ v, setP es q v = es.set j (row7 q v)) \/
  ((Instr.findAsking T (keyV q) (entP n es) i).run P w = .ok none w /\ hasP es q = false /\ getP es q = 0 /\ ∀ v, setP es q v = es ++ [row7 q v])
 | [], n, i => .inr ⟨rfl, rfl, rfl, fun v => rfl⟩
 | r :: es, n, i => by
  have hq : (Op.equal T (keyV q) (keyV r)).run P w = .ok (decide (key6 q r)) w := Y0k h _ _ w;have hstep : (Instr.findAsking T (keyV q) (entP n (r :: es)) i).run P w = (if key6 q r then .ok (some (i, .int .i64 (rI r 6))) w else (Instr.findAsking T (keyV q) (entP (n + 1) es) (i + 1)).run P w) := by
   have e0 : Instr.findAsking T (keyV q) (entP n (r :: es)) i = (Op.equal T (keyV q) (keyV r) >>= fun c => if c then pure (some (i, .int .i64 (rI r 6))) else Instr.findAsking T (keyV q) (entP (n + 1) es) (i + 1)) := rfl;rw [e0];simp only [Sem.run_bind, hq, Result.andThen_ok]
   by_cases c : key6 q r
   ·rw [if_pos c]; simp [c, Sem.run_pure]
   ·rw [if_neg c]; simp [c]
  rw [hstep]
  by_cases c : key6 r q
  ·left;refine ⟨0, by simp, ?_, by simp [hasP, c], ⟨r, rfl, c⟩, fun v => by simp [setP, c]⟩;rw [if_pos (Yt2 c)];simp only [getP, if_pos c, Nat.add_zero]
  ·rw [if_neg (fun x => c (Yt2 x))];rcases Yr5 h q w es (n + 1) (i + 1) with ⟨j, h0, h1, h2, h3, h4⟩ | ⟨h1, h2, h3, h5⟩
   ·left;refine ⟨j + 1, by simpa using h0, ?_, by simp [hasP, c, h2], by simpa using h3, fun v => by simp [setP, c, h4 v]⟩;rw [h1];simp only [getP, if_neg c, show i + 1 + j = i + (j + 1) by omega]
   ·right;refine ⟨h1, by simp [hasP, c, h2], by simp [getP, c, h3], fun v => by simp [setP, c, h5 v]⟩
theorem Ys4 {T : TypeId} (h : sixB P T = true) (q : List Cl) (es : Dt) (n : Nat) (w : World) : (Instr.findKey T (keyV q) (entP n es)).run P w = (Instr.findAsking T (keyV q) (entP n es) 0).run P w := by
 obtain ⟨fs, f0, f1, f2, hu, _⟩ := Ymp h;unfold Instr.findKey;simp only [Sem.run_bind, run_underlying hu, Result.andThen_ok];cases es with
 | nil => rfl
 | cons r es => rfl
def Ytq (P : Program) (T : TypeId) : Bool :=
 match P.underlying T with
 | some (.map key elem) => sixB P key && (match P.info? elem with
   | some i => (match i.zero with | some (.int .i64 z0) => decide (z0 = 0) | _ => false)
   | none => false)
 | _ => false
theorem Yho {T : TypeId} (h : Ytq P T = true) : ∃ key elem i, P.underlying T = some (.map key elem) /\ sixB P key = true /\ P.info? elem = some i /\ i.zero = some (.int .i64 0) := by
 unfold Ytq at h
 split at h
 ·rename_i key elem hu;simp only [Bool.and_eq_true] at h;obtain ⟨h1, h2⟩ := h
  split at h2
  ·rename_i i hi
   split at h2
   ·rename_i z0 hz;rw [decide_eq_true_eq] at h2;subst h2;exact ⟨key, elem, i, hu, h1, hi, hz⟩
   ·cases h2
  ·cases h2
 ·cases h
theorem Y4c {T : TypeId} (h : Ytq P T = true) (es : Dt) (q : List Cl) (w : World) : (Yfz T (entP 0 es).toArray (keyV q) true).run P w = .ok (.tuple #[.int .i64 (getP es q), .bool (hasP es q)]) w := by
 obtain ⟨key, elem, i, hu, hk, hi, hz⟩ := Yho h;have hc := Ypg hk q (entP 0 es).toArray.isEmpty w;unfold Yfz;have hf := Ys4 hk q es 0 w;rcases Yr5 hk q w es 0 0 with ⟨j, h0, h1, h2, h3, h4⟩ | ⟨h1, h2, h3, h5⟩
 ·rw [h1] at hf;simp only [Sem.run_bind, run_underlying hu w, Result.andThen_ok, hc, hf, Sem.run_pure, if_true, h2]
 ·rw [h1] at hf;have hzr : (zeroValue elem).run P w = .ok (.int .i64 0) w := by simp [zeroValue, typeInfo, hi, hz]
  simp only [Sem.run_bind, run_underlying hu w, Result.andThen_ok, hc, hf, Sem.run_pure, if_true, hzr, h2, h3]
theorem Yvp (q : List Cl) (w : World) : (Instr.keyThatStays (keyV q) (keyV q)).run P w = .ok (keyV q) w := by
 have : Instr.sameBits 10000 (keyV q) (keyV q) = true := by
  unfold keyV;simp [Instr.sameBits]
 unfold Instr.keyThatStays;rw [if_pos this];rfl
theorem Y3g {T : TypeId} (h : Ytq P T = true) (es : Dt) (q : List Cl) (v : Int) (w : World) : (Yfr T (entP 0 es).toArray es.length (keyV q) (.int .i64 v)).run P w = .ok ((entP 0 (setP es q v)).toArray, (setP es q v).length) w := by
 obtain ⟨key, elem, i, hu, hk, hi, hz⟩ := Yho h;have hc : (Instr.checkKey false 10000 key (keyV q)).run P w = .ok () w := Ypg hk q false w;unfold Yfr;have hf := Ys4 hk q es 0 w;rcases Yr5 hk q w es 0 0 with ⟨j, h0, h1, h2, ⟨r, h3, h31⟩, h4⟩ | ⟨h1, h2, h3, h5⟩
 ·rw [h1, Nat.zero_add] at hf;have hget : ((entP 0 es).toArray[j]?.map (·.key)).getD (keyV q) = keyV q := by
   simp only [List.getElem?_toArray, Yxt, h3];simp [Y6m h31]
  have hs := Yvp (P := P) q w;have hm : ((entP 0 es).toArray.modify j fun e => { e with key := keyV q, val := .int .i64 v }) = (entP 0 (setP es q v)).toArray := by
   rw [h4 v, <- Yns];apply Array.ext';simp
  have hlen : (setP es q v).length = es.length := by rw [h4 v]; simp
  simp only [Sem.run_bind, run_underlying hu w, Result.andThen_ok, hc, hf, hget, hs, Sem.run_pure, hm, hlen]
 ·rw [h1] at hf;have hp : (entP 0 es).toArray.push { key := keyV q, val := .int .i64 v, born := es.length } = (entP 0 (setP es q v)).toArray := by
   rw [h5 v, Yxu];simp
  have hlen : (setP es q v).length = es.length + 1 := by rw [h5 v]; simp
  simp only [Sem.run_bind, run_underlying hu w, Result.andThen_ok, hc, hf, Sem.run_pure, hp, hlen]
theorem Y2f {T : TypeId} {x ix : Operand} {id : Nat} {es : Dt} {iv : AV} {q : List Cl} (h : Ytq P T = true) (hx : At tm x (.mp id)) (hi : At tm ix iv) (hj : iv.rd = true) (hk : ∀ φ, iv.conc φ = keyV q) :
  Does P { dst, op := .lookup T x ix true, type, pos, after, guard } tm [(id, .obj (.mpP es))] (.tup [.si .i64 (getP es q), .sb (hasP es q)]) [] [] := by
 obtain ⟨key, elem, i, hu, _⟩ := Yho h;exact fun φ w0 M R a' w K Q ho hn hS kk => Yr1 (v := .tuple #[.int .i64 (getP es q), .bool (hasP es q)]) (es := entP 0 es) (clock := es.length) hu hx hi hj hk (fun w => Y4c h es q w) φ w0 M R a' w K Q ho (fun j hj => ⟨(hn j hj).1, (hn j hj).2⟩) hS kk
theorem Y16 {T : TypeId} {x ix y : Operand} {id : Nat} {es : Dt} {iv yv : AV} {q : List Cl} {v : Int} (h : Ytq P T = true) (hx : At tm x (.mp id)) (hi : At tm ix iv) (hj : iv.rd = true) (hk : ∀ φ, iv.conc φ = keyV q) (hy : At tm y yv) (hyj : yv.rd = true) (hyk : ∀ φ, yv.conc φ = .int .i64 v) :
  Does P { dst, op := .mapUpdate T x ix y, type, pos, after, guard } tm [(id, .obj (.mpP es))] (.v undef) [(id, .obj (.mpP (setP es q v)))] [] := by
 obtain ⟨key, elem, i, hu, _⟩ := Yho h;have := Yrz (P := P) (tm := tm) (dst := dst) (type := type) (pos := pos) (after := after) (guard := guard) (es := entP 0 es) (clock := es.length) (id := id) hu hx hi hj hk hy hyj hyk (r := ((entP 0 (setP es q v)).toArray, (setP es q v).length)) (fun w => Y3g h es q v w);exact fun φ w0 M R a' w K Q ho hn hS kk => this φ w0 M R a' w K Q ho (fun j hj => ⟨(hn j hj).1, (hn j hj).2⟩) hS (fun φ' w' hag hS' => kk φ' w' hag (by simpa [Yh, upd, Nat.beq_refl, Yb, It.conc, OI.obj] using hS'))
def Yrn (x : AV) (K : Int -> Prop) : Prop := intK x (fun k a => Yc (decide (k = .i64)) (K a)) (Stuck 640)
theorem Ydj {x : AV} {K : Int -> Prop} (h : Yrn x K) : ∃ a, K a /\ ∀ φ, x.conc φ = .int .i64 a := by
 unfold Yrn at h;rcases Yb5 h with ⟨k, a, h1, h2, _⟩ | h1
 ·obtain ⟨h3, h4⟩ := Ya h1;obtain rfl := of_decide_eq_true h3;exact ⟨a, h4, h2⟩
 ·exact h1.elim
def Y3z (x : AV) (K : List Cl -> Prop) : Prop :=
 match x with
 | .agg [a, b, c, d, e, f] => Yrn a fun a => Yrn b fun b => Yrn c fun c => Yrn d fun d => Yrn e fun e => Yrn f fun f => K [.i a, .i b, .i c, .i d, .i e, .i f]
 | _ => Stuck 643
theorem Ypq {x : AV} {K : List Cl -> Prop} (h : Y3z x K) : ∃ q, K q /\ ∀ φ, x.conc φ = keyV q := by
 unfold Y3z at h
 split at h
 ·obtain ⟨a, h1, e1⟩ := Ydj h;obtain ⟨b, h2, e2⟩ := Ydj h1;obtain ⟨c, h3, e3⟩ := Ydj h2;obtain ⟨d, h4, e4⟩ := Ydj h3;obtain ⟨e, h5, e5⟩ := Ydj h4;obtain ⟨f, h6, e6⟩ := Ydj h5;exact ⟨_, h6, fun φ => by simp [AV.conc, AV.concL, e1 φ, e2 φ, e3 φ, e4 φ, e5 φ, e6 φ, keyV, rI, Cl.int]⟩
 ·exact h.elim
def Y71 (hp : Heap) (m : AV) : Bool := match m with | .mp id => (match look hp id with | some (.obj (.mpP _)) => true | _ => false) | _ => false
def Yj3 (c : Cx) (T : TypeId) (ok : Bool) (m i : AV) (hp : Heap) (k : KE) : Prop :=
 match m with
 | .mp id => Yu hp id fun it => (match it with
  | .obj (.mpP es) => (match ok with
   | true => Y3z i fun q => Yc (Ytq c.P T) (k (.tup [.si .i64 (getP es q), .sb (hasP es q)]) [(id, .obj (.mpP es))] [] [])
   | false => Stuck 644)
  | _ => Stuck 645)
 | _ => Stuck 646
theorem Ymd {c : Cx} {T : TypeId} {ok : Bool} {m i : AV} {x ix : Operand} {hp : Heap} {k : KE} (hx : At tm x m) (hi : At tm ix i) (hj : i.rd = true) (h : Yj3 c T ok m i hp k) : Res1 c.P { dst, op := .lookup T x ix ok, type, pos, after, guard } tm hp k := by
 unfold Yj3 at h
 split at h
 ·obtain ⟨it, hl, h1⟩ := Yf h
  split at h1
  ·split at h1
   ·obtain ⟨q, h2, h3⟩ := Ypq h1;obtain ⟨h4, h5⟩ := Ya h2;exact ⟨_, _, _, _, h5, .one hl, Ys, Y2f h4 hx hi hj h3⟩
   ·exact h1.elim
  ·exact h1.elim
 ·exact h.elim
def Yj2 (c : Cx) (T : TypeId) (m i v : AV) (hp : Heap) (k : KE) : Prop :=
 match m with
 | .mp id => Yu hp id fun it => (match it with
  | .obj (.mpP es) => Y3z i fun q => Yrn v fun x => Yc (Ytq c.P T) (k (.v undef) [(id, .obj (.mpP es))] [(id, .obj (.mpP (setP es q x)))] [])
  | _ => Stuck 647)
 | _ => Stuck 648
theorem Yl6 {c : Cx} {T : TypeId} {m i v : AV} {x ix y : Operand} {hp : Heap} {k : KE} (hx : At tm x m) (hi : At tm ix i) (hj : i.rd = true) (hy : At tm y v) (hyj : v.rd = true) (h : Yj2 c T m i v hp k) : Res1 c.P { dst, op := .mapUpdate T x ix y, type, pos, after, guard } tm hp k := by
 unfold Yj2 at h
 split at h
 ·obtain ⟨it, hl, h1⟩ := Yf h
  split at h1
  ·obtain ⟨q, h2, h3⟩ := Ypq h1;obtain ⟨u, h6, h7⟩ := Ydj h2;obtain ⟨h4, h5⟩ := Ya h6;exact ⟨_, _, _, _, h5, .one hl, fun i hi => by simpa [keys] using hi, Y16 h4 hx hi hj h3 hy hyj h7⟩
  ·exact h1.elim
 ·exact h.elim
end
noncomputable def Ykw (c : Cx) (o : Oper) (tm : List AV) (hp : Heap) (k kp : KE) : Prop :=
 match o.op with
 | .lookup T x ix ok => evK tm x fun m => (match Y71 hp m with | true => evK tm ix fun i => Yj3 c T ok m i hp k | false => Yoz c o tm hp k kp)
 | .mapUpdate T x ix y => evK tm x fun m => (match Y71 hp m with | true => evK tm ix fun i => evK tm y fun v => Yj2 c T m i v hp k | false => Yoz c o tm hp k kp)
 | _ => Yoz c o tm hp k kp
theorem Ysd {c : Cx} {o : Oper} {tm : List AV} {hp : Heap} {k kp : KE} (hc : HandOk c) (h : Ykw c o tm hp k kp) : OpRes c o tm hp k kp := by
 have old : Yoz c o tm hp k kp -> OpRes c o tm hp k kp := fun h => Yse hc h;obtain ⟨dst, op, type, pos, after, guard⟩ := o;unfold Ykw at h
 split at h
 ·rename_i hop;dsimp only at hop; subst hop;obtain ⟨m, jm, hx, h1⟩ := Yd h
  split at h1
  ·obtain ⟨i, ji, hi, h2⟩ := Yd h1;exact (Ymd hx hi ji h2).op
  ·exact old h1
 ·rename_i hop;dsimp only at hop; subst hop;obtain ⟨m, jm, hx, h1⟩ := Yd h
  split at h1
  ·obtain ⟨i, ji, hi, h2⟩ := Yd h1;obtain ⟨v, jv, hv, h3⟩ := Yd h2;exact (Yl6 hx hi ji hv jv h3).op
  ·exact old h1
 ·exact old h
end Go.Proofs.YtladoaeefkpdiaaGreatDoor
namespace Go.Proofs.YtladoaeefkpdiaaGreatDoor
open Go.RowKit
set_option maxRecDepth 100000
set_option maxHeartbeats 1600000
variable [InW]
section
variable {P : Program} {tm : List AV} {dst : Option Tmp} {type : TypeId} {pos : String} {after : Array Edge} {guard : Option (Nat × Bool)}
theorem Yzk {T : TypeId} {n sz off : Nat} {b : Bool} {x : Operand} {id : Nat} (ht : (mkTI P T).arr = some (n, sz, b)) (hx : At tm x (.ptr id off)) :
  Does P { dst, op := .slice T x none none none, type, pos, after, guard } tm [] (.slc id off n n) [] [] :=
 fun φ w0 M R a w K Q ho _ hS kk => by
  obtain ⟨e, hu, hs, _⟩ := Yfw ht;have e1 := ho x (by simp [Op.operands]) _ hx (by simp);simp only [AV.conc] at e1;have hr : (Instr.sliceAt T (.pointer (some ⟨(φ id).b, off, none⟩)) none none none).run P w = .ok (.slice (some ⟨(φ id).b, off, none⟩) n n) w := by
   simp only [Instr.sliceAt, Sem.run_bind, run_underlying hu w, Result.andThen_ok, Instr.sureAddr, Instr.sliceBounds, Sem.run_pure, Ybc hs, Nat.zero_mul, Yp, Nat.add_zero, ite_self, Nat.sub_zero]
  rw [<- e1] at hr;unfold Oper.wp;rw [Yby (lo := none) (hi := none) (mx := none) hr];have h3 := kk φ w (Agree.refl _ _) hS;simpa only [AV.conc, Oper.upon] using h3
def cpA (ys : Dt) : Nat -> Nat -> List AV
 | _, 0 => []
 | k, n + 1 => .si .i64 (cel ys k 0).int :: cpA ys (k + 1) n
theorem Yp1 (ys : Dt) : ∀ n k, (cpA ys k n).length = n
 | 0, _ => rfl
 | n + 1, k => by simp [cpA, Yp1 ys n]
theorem Ynw (ys : Dt) : ∀ n k φ, AV.concL φ (cpA ys k n) = Yl [.int .i64] ((ys.drop k).take n) ++ List.replicate (n - (ys.length - k)) (.int .i64 0)
 | 0, k, φ => by simp [cpA, AV.concL, Yl]
 | n + 1, k, φ => by
  rw [cpA, AV.concL, Ynw ys n (k + 1) φ]
  by_cases hk : k < ys.length
  ·rw [List.drop_eq_getElem_cons hk, List.take_succ_cons, Yl];have h1 : cel ys k 0 = (ys[k]).getD 0 .z := by simp [cel, List.getD_eq_getElem?_getD, hk]
   have h2 : n - (ys.length - (k + 1)) = n + 1 - (ys.length - k) := by omega
   rw [h2, h1];cases hl : ys[k] <;> simp [AV.conc, Yz, Ty.val]
  ·have h1 : cel ys k 0 = .z := by simp [cel, List.getD_eq_getElem?_getD, List.getElem?_eq_none (Nat.le_of_not_lt hk)]
   rw [List.drop_eq_nil_of_le (by omega), List.drop_eq_nil_of_le (by omega), h1];have h2 : n + 1 - (ys.length - k) = (n - (ys.length - (k + 1))) + 1 := by omega
   rw [h2, List.replicate_succ];simp [AV.conc, Yl, Cl.int]
def isZ : AV -> Bool
 | .v (.int .i64 (.ofNat 0)) => true
 | _ => false
theorem Y4h {x : AV} (h : isZ x = true) : x = .v (.int .i64 0) := by
 unfold isZ at h
 split at h
 ·rfl
 ·cases h
def zRun : List AV -> Nat -> Nat -> Bool
 | _, _, 0 => true
 | [], _, _ + 1 => false
 | _ :: xs, k + 1, n + 1 => zRun xs k (n + 1)
 | x :: xs, 0, n + 1 => isZ x && zRun xs 0 n
theorem Ylv (φ : Phi) : ∀ {cs : List AV} {k n : Nat}, zRun cs k n = true -> (AV.concL φ cs).drop k = List.replicate n (.int .i64 0) ++ (AV.concL φ cs).drop (k + n)
 | cs, k, 0, _ => by simp
 | [], _, _ + 1, h => by simp [zRun] at h
 | _ :: xs, k + 1, n + 1, h => by
  simp only [AV.concL, List.drop_succ_cons, show k + 1 + (n + 1) = k + (n + 1) + 1 by omega];exact Ylv φ (cs := xs) (k := k) (n := n + 1) (by simpa [zRun] using h)
 | x :: xs, 0, n + 1, h => by
  simp only [zRun, Bool.and_eq_true] at h;have h2 := Ylv φ (cs := xs) (k := 0) (n := n) h.2;rw [Y4h h.1];simp only [AV.concL, AV.conc, List.drop_zero, Nat.zero_add, List.drop_succ_cons, List.replicate_succ, List.cons_append] at h2 ⊢;rw [<- h2]
theorem Y3n {w0 w : World} {M : List Nat} {R : RL} {K : Act -> World -> Prop} {Q : Exit -> Act -> World -> Prop} {a : Act} {T T' T0 e : TypeId} {by_ c cp n b k : Nat} {zs : Array Value} {s x : Operand} {A : Option Addr} {xs : List Value} {ys : Dt} (h : St w0 M (.blk b (.cells xs.toArray T0 (0, 0)) :: R) w) (ht : SliceOf P T e 1 by_ zs)
  (hs : a.eval s = .slice (some ⟨b, k, none⟩) n cp) (hx : a.eval x = .slice A ys.length c) (hk : k + n <= xs.length) (hsrc : ys.length = 0 \/ ∃ b off, A = some ⟨b, off, none⟩ /\ ∀ j u, (Yl [.int .i64] ys)[j]? = some u -> w.cell? ⟨b, off + j, none⟩ = some u)
  (kk : ∀ w', St w0 M (.blk b (.cells (Yb9 xs.toArray k (Yl [.int .i64] (ys.take n))) T0 (0, 0)) :: R) w' -> K (a.put dst (.int .i64 (min ys.length n : Nat))) w') :
  Oper.wp P { dst, op := .call { callee := .builtin .copy, args := #[s, x], argTypes := #[T, T'] }, type, pos, after, guard } a w K Q := by
 obtain ⟨i, z, hi, hz1, hz2, his, hib⟩ := ht.parts;have hu := ht.1;obtain ⟨m, hm⟩ : ∃ m, m = min ys.length n := ⟨_, rfl⟩;have hm1 : m <= ys.length := by omega
 have hm2 : m <= n := by omega
 have htk : ys.take n = ys.take m := by
  rw [List.take_eq_take_iff]; omega
 rw [htk] at kk;have hfl : (Yl [.int .i64] (ys.take m)).length = m := by rw [Yq, List.length_take, Nat.min_eq_left hm1]; simp
 have hcells : (Builtin.firstCells i.size m (.slice A ys.length c)).run P w = .ok (Yl [.int .i64] (ys.take m)).toArray w := by
  rcases hsrc with h0 | ⟨b, off, rfl, hc⟩
  ·have h2 : m = 0 := by omega
   subst h2;have h3 : ys = [] := List.length_eq_zero_iff.1 h0;subst h3;have := run_loadCells_list (P := P) w (A.getD ⟨0, 0, none⟩) [] (by simp);cases A with
   | none => rfl
   | some A => simpa [Builtin.firstCells, Yl] using this
  ·have := run_loadCells_list (P := P) w ⟨b, off, none⟩ (Yl [.int .i64] (ys.take m)) (fun j u hj => by
    rw [Yp];refine hc j u ?_;rw [Yfi _ _ _ hm1, List.getElem?_take] at hj
    split at hj
    ·exact hj
    ·cases hj)
   rw [hfl] at this;simpa [Builtin.firstCells, his] using this
 obtain ⟨w', hr, hb, hsz, hm', hkk⟩ := Ybx (P := P) (Yl [.int .i64] (ys.take m)) 0 k xs.toArray w (h.blk .head) (by simp [hfl]; omega) (Yhs _ _);simp only [Nat.add_zero] at hb;have hS := h.upd (r' := .blk b (.cells (Yb9 xs.toArray k (Yl [.int .i64] (ys.take m))) T0 (0, 0))) .head ⟨hm'.1, hm'.2.1, hm'.2.2, by omega, fun k hk' hk2 => hkk k (by simpa [Res.foot] using hk2)⟩ hb (fun b' hb' => .inl hb');have h4 := kk w' hS;have hrun : (Builtin.copy_ #[T, T'] type #[.slice (some ⟨b, k, none⟩) n cp, .slice A ys.length c]).run P w = .ok (.int .i64 (m : Int)) w' := by
  have hmn : ys.length.min n = m := by rw [hm]
  simp [Builtin.copy_, run_underlying hu, Builtin.lenOf, sizeOf, typeInfo, hi, hmn, hcells, hr, goInt]
 rw [<- hm] at h4;unfold Oper.wp execOp;simp only [resolve, invoke, builtin, Sem.run_bind, Sem.run_pure, Result.andThen_ok, List.map_toArray, List.map_cons, List.map_nil, hs, hx, hrun];exact h4
theorem Y64 {T T' e T0 by_ id off n cp : Nat} {zs cs : List AV} {s x : Operand} {xv : AV} {hs : Heap} {ys : Dt} (ht : (mkTI P T).slice = some (e, 1, by_, zs)) (hsv : At tm s (.slc id off n cp)) (hx : At tm x xv) (hxj : xv.rd = true) (hz : zRun cs off n = true) (hk : off + n <= cs.length) (hsrc : Yjy xv hs [.int .i64] ys) (hne : id ∉ keys hs) :
  Does P { dst, op := .call { callee := .builtin .copy, args := #[s, x], argTypes := #[T, T'] }, type, pos, after, guard } tm ((id, .blk T0 cs) :: hs) (.si .i64 ((min ys.length n : Nat) : Int)) [(id, .blk T0 (cs.take off ++ cpA ys 0 n ++ cs.drop (off + (cpA ys 0 n).length)))] [] :=
 fun φ w0 M R a w K Q ho hn hS kk => by
  have e1 := ho s (by simp [Op.operands, Call.operands]) _ hsv (by simp);have e2 := ho x (by simp [Op.operands, Call.operands]) _ hx hxj;have hS0 : St w0 M (Yb φ hs ++ ((It.blk T0 cs).conc φ id :: R)) w := hS.perm (by simp only [Yb, List.map_cons, List.cons_append]; exact List.perm_middle.symm);obtain ⟨A, c, h1, h2⟩ := hsrc φ w0 M _ w hS0;rw [h1] at e2;simp only [AV.conc] at e1;have hS2 : St w0 M (.blk (φ id).b (.cells (AV.concL φ cs).toArray T0 (0, 0)) :: (Yb φ hs ++ R)) w := by simpa [Yb, It.conc] using hS
  refine Y3n hS2 (Yi ht φ).1 e1 e2 (by rw [Yg]; exact hk) h2 fun w' hS' => ?_;refine kk φ w' (Agree.refl _ _) ?_;have e4 : Yh ((id, It.blk T0 cs) :: hs) [(id, .blk T0 (cs.take off ++ cpA ys 0 n ++ cs.drop (off + (cpA ys 0 n).length)))] = (id, .blk T0 (cs.take off ++ cpA ys 0 n ++ cs.drop (off + (cpA ys 0 n).length))) :: hs := by simp [Yh, upd, Nat.beq_refl]
  have hfl : (Yl [.int .i64] (ys.take n)).length = min n ys.length := by rw [Yq, List.length_take]; simp
  have e5 : Yb9 (AV.concL φ cs).toArray off (Yl [.int .i64] (ys.take n)) = (AV.concL φ (cs.take off ++ cpA ys 0 n ++ cs.drop (off + (cpA ys 0 n).length))).toArray := by
   apply Array.ext';rw [Ycn _ _ _ (by simp [hfl, Yg]; omega), Yi2, Ynw, hfl];simp only [List.drop_zero, Nat.sub_zero, List.length_append, List.length_replicate, hfl];rw [show off + (min n ys.length + (n - ys.length)) = off + n by omega, List.append_assoc, List.append_assoc, List.append_assoc]
   congr 2
   have h3 := Ylv φ hz;rw [<- List.drop_drop, h3, List.drop_append_of_le_length (by simp; omega), List.drop_replicate]
   congr 2
   omega
  rw [e4, List.append_nil];rw [e5] at hS';simpa [Yb, It.conc] using hS'
def Ylg (c : Cx) (T : TypeId) (s x : AV) (hp : Heap) (k : KE) : Prop :=
 match s with
 | .slc id off n cp => tiK c.tt T fun ti => (match ti.slice with
  | none => Stuck 650
  | some (e, sz, by_, zs) => Yu hp id fun it => (match it with
   | .blk T' cs => Yc (Nat.beq sz 1 && zRun cs off n) (Ycc [.int .i64] x hp fun hs ys => Yc (Yco.disjB hs [(id, .blk T' cs)]) (Yos cs off (cpA ys 0 n) fun cs' => k (.si .i64 ((min ys.length n : Nat) : Int)) ((id, .blk T' cs) :: hs) [(id, .blk T' cs')] []))
   | _ => Stuck 651))
 | _ => Stuck 652
theorem Yiv {c : Cx} (ht : TabOk c.P c.tt) {T T' : TypeId} {sv xv : AV} {s x : Operand} {hp : Heap} {k : KE} (hsv : At tm s sv) (hx : At tm x xv) (hxj : xv.rd = true) (h : Ylg c T sv xv hp k) :
  Res1 c.P { dst, op := .call { callee := .builtin .copy, args := #[s, x], argTypes := #[T, T'] }, type, pos, after, guard } tm hp k := by
 unfold Ylg at h
 split at h
 ·rename_i id off n cp;have h1 := Yj ht h
  split at h1
  ·exact h1.elim
  ·rename_i e sz by_ zs hs;obtain ⟨it, hl, h4⟩ := Yf h1
   split at h4
   ·rename_i T0 cs;obtain ⟨h5, h6⟩ := Ya h4;simp only [Bool.and_eq_true, Ye] at h5;obtain ⟨rfl, h52⟩ := h5;obtain ⟨hs', ys, h7, h8, h9⟩ := Ycu (by simp) h6;obtain ⟨h10, h11⟩ := Ya h7;obtain ⟨h12, h13⟩ := Yde h11;rw [Yp1] at h12;have hne := Ycl h10;exact ⟨_, _, _, _, h13, h8.cons hl hne, fun i hi => by simp [keys] at hi ⊢; exact .inl hi, Y64 hs hsv hx hxj h52 h12 h9 hne⟩
   ·exact h4.elim
 ·exact h.elim
def Y70 : AV -> Bool
 | .slc _ _ _ _ => true
 | _ => false
end
noncomputable def Ye6 (c : Cx) (o : Oper) (tm : List AV) (hp : Heap) (k kp : KE) : Prop :=
 match o.op with
 | .slice T x none none none => evK tm x fun p => (match p with
  | .ptr i j => tiK c.tt T fun ti => (match ti.arr with | some (n, sz, b) => k (.slc i j n n) [] [] [] | none => Stuck 653)
  | _ => Ykw c o tm hp k kp)
 | .call cl => (match cl.callee with
  | .builtin b => (match b, cl.args.toList with
   | .copy, [s, x] => evK tm s fun s => (match Y70 s with
    | true => evK tm x fun x => (match cl.argTypes.toList with | [T, T'] => Ylg c T s x hp k | _ => Stuck 654)
    | false => Ykw c o tm hp k kp)
   | _, _ => Ykw c o tm hp k kp)
  | _ => Ykw c o tm hp k kp)
 | _ => Ykw c o tm hp k kp
theorem Ysc {c : Cx} {o : Oper} {tm : List AV} {hp : Heap} {k kp : KE} (hc : HandOk c) (h : Ye6 c o tm hp k kp) : OpRes c o tm hp k kp := by
 have old : Ykw c o tm hp k kp -> OpRes c o tm hp k kp := fun h => Ysd hc h;obtain ⟨dst, op, type, pos, after, guard⟩ := o;unfold Ye6 at h
 split at h
 ·rename_i hop;dsimp only at hop; subst hop;obtain ⟨p, jp, hx, h1⟩ := Yd h
  split at h1
  ·have h2 := Yj hc.tab h1
   split at h2
   ·rename_i ht;exact (show Res1 _ _ _ _ _ from ⟨_, _, _, _, h2, .nil _, Ys, Yzk ht hx⟩).op
   ·exact h2.elim
  ·exact old h1
 ·rename_i cl hop;dsimp only at hop; subst hop;obtain ⟨callee, ⟨args⟩, ⟨tys⟩⟩ := cl;dsimp only at h
  split at h
  ·split at h
   ·rename_i s x;obtain ⟨sv, hsj, hs, h1⟩ := Yd h
    split at h1
    ·obtain ⟨xv, hxj, hx, h2⟩ := Yd h1
     split at h2
     ·exact (Yiv hc.tab hs hx hxj h2).op
     ·exact h2.elim
    ·exact old h1
   ·exact old h
  ·exact old h
 ·exact old h
end Go.Proofs.YtladoaeefkpdiaaGreatDoor
namespace Go.Proofs.YtladoaeefkpdiaaGreatDoor
open Go.RowKit
set_option maxRecDepth 100000
set_option maxHeartbeats 1600000
variable [InW]
def Yqg : List AV -> (List AV -> Prop) -> Prop
 | [], K => K []
 | .si k n :: xs, K => Yqa n fun m => Yqg xs fun r => K (.v (.int k m) :: r)
 | x :: xs, K => Yqg xs fun r => K (x :: r)
theorem Yf7 : ∀ {cs : List AV} {K : List AV -> Prop}, Yqg cs K -> ∃ cs', K cs' /\ cs'.length = cs.length /\ ∀ φ, AV.concL φ cs' = AV.concL φ cs
 | [], K, h => ⟨[], h, rfl, fun φ => rfl⟩
 | x :: xs, K, h => by
  have old : Yqg xs (fun r => K (x :: r)) -> ∃ cs', K cs' /\ cs'.length = (x :: xs).length /\ ∀ φ, AV.concL φ cs' = AV.concL φ (x :: xs) := fun h => by
   obtain ⟨cs', h1, h2, h3⟩ := Yf7 h;exact ⟨_, h1, by simp [h2], fun φ => by simp only [AV.concL, h3 φ]⟩
  cases x with
  | si k n =>
   have h := Yhr.1 h;obtain ⟨cs', h1, h2, h3⟩ := Yf7 h;exact ⟨_, h1, by simp [h2], fun φ => by simp only [AV.concL, AV.conc, h3 φ]⟩
  | _ => exact old h
theorem Yw0 {φ : Phi} {i : Nat} {x y : It} (h : x.conc φ i = y.conc φ i) : ∀ hs : Heap, Yb φ (upd hs i x) = Yb φ (upd hs i y)
 | [] => rfl
 | p :: hs => by
  unfold upd;cases e : Nat.beq p.1 i with
  | true =>
   have : p.1 = i := Ye.1 e;subst this;simp only [Yb, List.map_cons, h]
  | false =>
   have ih := Yw0 h hs;simp only [Yb, List.map_cons] at ih ⊢;rw [ih]
theorem Does.us {P : Program} {o : Oper} {tm : List AV} {hs us us' : Heap} {val val' : AV} (h : Does P o tm hs val us []) (hv : ∀ φ, val'.conc φ = val.conc φ) (hc : ∀ φ, Yb φ (Yh hs us') = Yb φ (Yh hs us)) : Does P o tm hs val' us' [] :=
 fun φ w0 M R a w K Q ho hn hS kk => h φ w0 M R a w K Q ho hn hS fun φ' w' hag hS' => by
  rw [<- hv];exact kk φ' w' hag (by rw [List.append_nil] at hS' ⊢; rw [hc]; exact hS')
section
variable {P : Program} {tm : List AV} {dst : Option Tmp} {type : TypeId} {pos : String} {after : Array Edge} {guard : Option (Nat × Bool)}
theorem Y2p {T T' e T0 by_ id N : Nat} {zs cs : List AV} {s x : Operand} {xv : AV} {hs : Heap} {xs ys : Dt} (ht : (mkTI P T).slice = some (e, 1, by_, zs)) (hxs : xs.length = N) (hcs : ∀ φ, AV.concL φ cs = Yl [.int .i64] xs) (hsv : At tm s (.sl id 0 0 N)) (hx : At tm x xv) (hxj : xv.rd = true) (hsrc : Yjy xv hs [.int .i64] ys) (hne : id ∉ keys hs) :
  Does P { dst, op := .call { callee := .builtin .copy, args := #[s, x], argTypes := #[T, T'] }, type, pos, after, guard } tm ((id, .row T0 1 N cs) :: hs) (.si .i64 ((min ys.length N : Nat) : Int)) [(id, .row T0 1 N (cpA (cpD xs ys) 0 N))] [] :=
 fun φ w0 M R a w K Q ho hn hS kk => by
  have e1 := ho s (by simp [Op.operands, Call.operands]) _ hsv (by simp);have e2 := ho x (by simp [Op.operands, Call.operands]) _ hx hxj;have hS0 : St w0 M (Yb φ hs ++ ((It.row T0 1 N cs).conc φ id :: R)) w := hS.perm (by simp only [Yb, List.map_cons, List.cons_append]; exact List.perm_middle.symm);obtain ⟨A, c, h1, h2⟩ := hsrc φ w0 M _ w hS0;rw [h1] at e2;have hS2 : St w0 M (.row (.slice (if (φ id).nil then none else some ⟨(φ id).b, 0, none⟩) N (φ id).c) T0 [Ty.int IntKind.i64].length N (Yl [.int .i64] xs) :: (Yb φ hs ++ R)) w := by
   have : St w0 M ((It.row T0 1 N cs).conc φ id :: (Yb φ hs ++ R)) w := by simpa [Yb] using hS
   have e : (It.row T0 1 N cs).conc φ id = .row (.slice (if (φ id).nil then none else some ⟨(φ id).b, 0, none⟩) N (φ id).c) T0 1 N (Yl [.int .i64] xs) := by simp only [It.conc, hcs]
   rw [e] at this;exact this
  simp only [AV.conc, Nat.sub_zero] at e1;refine Y0e hS2 (Yi ht φ).1 e1 e2 hxs.symm h2 fun w' hS' => ?_;rw [hxs];refine kk φ w' (Agree.refl _ _) ?_;have e4 : Yh ((id, It.row T0 1 N cs) :: hs) [(id, .row T0 1 N (cpA (cpD xs ys) 0 N))] = (id, .row T0 1 N (cpA (cpD xs ys) 0 N)) :: hs := by simp [Yh, upd, Nat.beq_refl]
  have e5 : AV.concL φ (cpA (cpD xs ys) 0 N) = Yl [.int .i64] (cpD xs ys) := by
   rw [Ynw, Yp0, hxs, List.drop_zero, List.take_of_length_le (by rw [Yp0, hxs]; exact Nat.le_refl _)];simp
  rw [e4, List.append_nil];have e6 : (It.row T0 1 N (cpA (cpD xs ys) 0 N)).conc φ id = .row (.slice (if (φ id).nil then none else some ⟨(φ id).b, 0, none⟩) N (φ id).c) T0 1 N (Yl [.int .i64] (cpD xs ys)) := by simp only [It.conc, e5]
  show St w0 M ((It.row T0 1 N (cpA (cpD xs ys) 0 N)).conc φ id :: (Yb φ hs ++ R)) w'
  rw [e6];exact hS'
theorem Y2q {T e T0 by_ id off lo n N sz : Nat} {zs cs : List AV} {x : Operand} (ht : (mkTI P T).slice = some (e, sz, by_, zs)) (hz : zs.length = sz) (hz1 : ∀ φ : Phi, ∀ u ∈ AV.concL φ zs, u.oneCell' = true) (hN : 0 < N) (hn : 0 < n) (hx : At tm x (.sl id off lo n)) (h2 : off + n * sz <= cs.length) :
  Does P { dst, op := .call { callee := .builtin .clear, args := #[x], argTypes := #[T] }, type, pos, after, guard } tm [(id, .row T0 sz N cs)] (.v (.tuple #[])) [(id, .row T0 sz N (cs.take off ++ (List.replicate n zs).flatten ++ cs.drop (off + n * sz)))] [] :=
 fun φ w0 M R a w K Q ho _ hS kk => by
  have hS' : St w0 M ((It.row T0 sz N cs).conc φ id :: R) w := hS;have e2 := ho x (by simp [Op.operands, Call.operands]) _ hx (by simp);obtain ⟨t, z, hi, hzz1, hz2, his, hib⟩ := (Yi ht φ).1.parts;have hti := (Yi ht φ).1.1;have hnil := Ydd hN hS';have e4 : Yh [(id, It.row T0 sz N cs)] [(id, .row T0 sz N (cs.take off ++ (List.replicate n zs).flatten ++ cs.drop (off + n * sz)))] = [(id, .row T0 sz N (cs.take off ++ (List.replicate n zs).flatten ++ cs.drop (off + n * sz)))] := by simp [Yh, upd, Nat.beq_refl]
  simp only [AV.conc, hnil, if_false, Bool.false_eq_true] at e2;have hS2 : St w0 M (.row (.slice (some ⟨(φ id).b, 0, none⟩) N (φ id).c) T0 sz N (AV.concL φ cs) :: R) w := by
   have := hS';simp only [It.conc, hnil] at this;exact this
  have hzc : (Builtin.zeroCells z.cells n).toList = AV.concL φ (List.replicate n zs).flatten := by
   have e5 : Builtin.zeroCells z.cells n = madeCells (AV.concL φ zs).toArray (n * sz) := by
    rw [hz2];unfold Builtin.zeroCells madeCells;simp [Yg, hz]
   rw [e5, Yd2 φ hz]
  have hnews : (AV.concL φ (List.replicate n zs).flatten).length = n * sz := by rw [Yg]; simp [hz]
  have hone : ∀ u ∈ AV.concL φ (List.replicate n zs).flatten, u.oneCell' = true := by
   intro u hu;rw [Yw, List.map_flatten, List.map_replicate, <- Yw] at hu;obtain ⟨l, hl, hul⟩ := List.mem_flatten.1 hu;rw [(List.mem_replicate.1 hl).2] at hul;exact hz1 φ u hul
  obtain ⟨w', hr, hSt⟩ := Ym0 (P := P) (k := off) hS2 (AV.concL φ (List.replicate n zs).flatten) (by rw [hnews, Yg]; exact h2) hone;have hlast : (AV.concL φ cs).take off ++ AV.concL φ (List.replicate n zs).flatten ++ (AV.concL φ cs).drop (off + (AV.concL φ (List.replicate n zs).flatten).length) = AV.concL φ (cs.take off ++ (List.replicate n zs).flatten ++ cs.drop (off + n * sz)) := by
   rw [hnews];simp only [Yw, List.map_append, List.map_take, List.map_drop]
  rw [hlast] at hSt;have h4 := kk φ w' (Agree.refl _ _) (by
   rw [e4, List.append_nil];have e6 : (It.row T0 sz N (cs.take off ++ (List.replicate n zs).flatten ++ cs.drop (off + n * sz))).conc φ id = .row (.slice (some ⟨(φ id).b, 0, none⟩) N (φ id).c) T0 sz N (AV.concL φ (cs.take off ++ (List.replicate n zs).flatten ++ cs.drop (off + n * sz))) := by simp only [It.conc, hnil, if_false, Bool.false_eq_true]
   show St w0 M ((It.row T0 sz N (cs.take off ++ (List.replicate n zs).flatten ++ cs.drop (off + n * sz))).conc φ id :: R) w'
   rw [e6];exact hSt)
  obtain ⟨n', rfl⟩ : ∃ n', n = n' + 1 := ⟨n - 1, by omega⟩;have hrun : (Builtin.clear_ #[T] type #[.slice (some ⟨(φ id).b, off, none⟩) (n' + 1) ((φ id).c - lo)]).run P w = .ok (.tuple #[]) w' := by
   simp [Builtin.clear_, run_underlying hti, zeroValue, typeInfo, hi, hzz1, hzc, hr]
  unfold Oper.wp execOp;simp only [resolve, invoke, builtin, Sem.run_bind, Sem.run_pure, Result.andThen_ok, List.map_toArray, List.map_cons, List.map_nil, e2];rw [hrun];exact h4
def Yq3 (c : Cx) (T : TypeId) (s x : AV) (hp : Heap) (k : KE) : Prop :=
 match s with
 | .sl id off lo n => tiK c.tt T fun ti => (match ti.slice with
  | none => Stuck 655
  | some (e, sz, by_, zs) => Yu hp id fun it => (match it with
   | .row T' sz' N cs => Yc (Nat.beq sz 1 && Nat.beq sz' 1 && Nat.beq off 0 && Nat.beq lo 0 && Nat.beq n N) (Ys5 [.int .i64] N cs fun xs => Ycc [.int .i64] x hp fun hs ys => Yc (Yco.disjB hs [(id, .row T' sz' N cs)]) (Yqg (cpA (cpD xs ys) 0 N) fun cs' => Y3 (min ys.length N) fun m => k (.v (.int .i64 (m : Int))) ((id, .row T' sz' N cs) :: hs) [(id, .row T' sz' N cs')] []))
   | _ => Stuck 656))
 | _ => Stuck 657
theorem Yq2 {c : Cx} (ht : TabOk c.P c.tt) {T T' : TypeId} {sv xv : AV} {s x : Operand} {hp : Heap} {k : KE} (hsv : At tm s sv) (hx : At tm x xv) (hxj : xv.rd = true) (h : Yq3 c T sv xv hp k) :
  Res1 c.P { dst, op := .call { callee := .builtin .copy, args := #[s, x], argTypes := #[T, T'] }, type, pos, after, guard } tm hp k := by
 unfold Yq3 at h
 split at h
 ·rename_i id off lo n;have h1 := Yj ht h
  split at h1
  ·exact h1.elim
  ·rename_i e sz by_ zs hs;obtain ⟨it, hl, h4⟩ := Yf h1
   split at h4
   ·rename_i T0 sz' N cs;obtain ⟨h5, h6⟩ := Ya h4;simp only [Bool.and_eq_true, Ye] at h5;obtain ⟨⟨⟨⟨rfl, rfl⟩, rfl⟩, rfl⟩, rfl⟩ := h5;obtain ⟨xs, h7, h8, h9, _⟩ := Ydc h6;obtain ⟨hs', ys, h10, h11, h12⟩ := Ycu (by simp) h7;obtain ⟨h13, h14⟩ := Ya h10;obtain ⟨cs', h15, h16, h17⟩ := Yf7 h14;have h15 := Yk.1 h15;have hne := Ycl h13;refine ⟨_, _, _, _, h15, h11.cons hl hne, fun i hi => by simp [keys] at hi ⊢; exact .inl hi, (Y2p hs h8 h9 hsv hx hxj h12 hne).us (fun φ => rfl) fun φ => ?_⟩;simp only [Yh, upd, Nat.beq_refl, Yb, List.map_cons, It.conc, h17]
   ·exact h4.elim
 ·exact h.elim
def Ymi (c : Cx) (T : TypeId) (x : AV) (hp : Heap) (k : KE) : Prop :=
 match x with
 | .emp id => tiK c.tt T fun ti => (match ti.slice with | none => Stuck 658 | some _ => k (.v (.tuple #[])) [] [] [])
 | .sl id off lo n => tiK c.tt T fun ti => (match ti.slice with
  | none => Stuck 659
  | some (e, sz, by_, zs) => Yu hp id fun it => (match it with
   | .row T' sz' N cs => Yc (Nat.beq sz' sz && lenB zs sz && Yfb zs && Nat.ble 1 N && Nat.ble 1 n) (repK zs n fun z => Yc (lenB z (n * sz)) (Yos cs off z fun cs' => k (.v (.tuple #[])) [(id, .row T' sz' N cs)] [(id, .row T' sz' N cs')] []))
   | _ => Stuck 660))
 | _ => Stuck 661
theorem Yoq {c : Cx} (ht : TabOk c.P c.tt) {T : TypeId} {xv : AV} {x : Operand} {hp : Heap} {k : KE} (hx : At tm x xv) (h : Ymi c T xv hp k) :
  Res1 c.P { dst, op := .call { callee := .builtin .clear, args := #[x], argTypes := #[T] }, type, pos, after, guard } tm hp k := by
 unfold Ymi at h
 split at h
 ·rename_i id;have h1 := Yj ht h
  split at h1
  ·exact h1.elim
  ·rename_i q hs;obtain ⟨e, sz, by_, zs⟩ := q;refine ⟨_, _, _, _, h1, .nil _, Ys, fun φ w0 M R a w K Q ho _ hS kk => ?_⟩;have e2 := ho x (by simp [Op.operands, Call.operands]) _ hx (by simp);have hti := (Yi hs φ).1.1;simp only [AV.conc] at e2;have hrun : (Builtin.clear_ #[T] type #[.slice (φ id).a 0 (φ id).c]).run c.P w = .ok (.tuple #[]) w := by
    cases (φ id).a <;> simp [Builtin.clear_, run_underlying hti]
   unfold Oper.wp execOp;simp only [resolve, invoke, builtin, Sem.run_bind, Sem.run_pure, Result.andThen_ok, List.map_toArray, List.map_cons, List.map_nil, e2];rw [hrun];exact kk φ w (Agree.refl _ _) (by simpa [Yh] using hS)
 ·rename_i id off lo n;have h1 := Yj ht h
  split at h1
  ·exact h1.elim
  ·rename_i e sz by_ zs hs;obtain ⟨it, hl, h4⟩ := Yf h1
   split at h4
   ·rename_i T0 sz' N cs;obtain ⟨h5, h6⟩ := Ya h4;simp only [Bool.and_eq_true, Ye, Nat.ble_eq] at h5;obtain ⟨⟨⟨⟨rfl, h52⟩, h53⟩, h54⟩, h55⟩ := h5;have h7 := Yq9.1 h6;obtain ⟨h8, h9⟩ := Ya h7;obtain ⟨h10, h11⟩ := Yde h9;have hz := Y2 h52;rw [Y2 h8] at h10 h11;exact ⟨_, _, _, _, h11, .one hl, fun i hi => by simpa [keys] using hi, Y2q hs hz (Yb6 h53) h54 h55 hx h10⟩
   ·exact h4.elim
 ·exact h.elim
theorem Y4y {T e by_ id id' : Nat} {zs : List AV} {x : Operand} {ts : List Ty} {xs : Dt} (ht : (mkTI P T).slice = some (e, 1, by_, zs)) (hx : At tm x (.opq id)) :
  Does P { dst, op := .buildSlice T 1 #[(0, x)], type, pos, after, guard } tm [(id, .fro ts xs)] (.sl id' 0 0 1) [] [(id', .row e 1 1 [.opq id])] :=
 fun φ w0 M R a w K Q ho hn hS kk => by
  obtain ⟨A, c, hv, _⟩ := Yno hS;have e1 : a.eval x = (φ id).v := ho x (by simp [Op.operands]) _ hx (by simp);have hc : (φ id).v.cells = #[(φ id).v] := by rw [hv]; rfl
  refine Y0d (parts := [(0, x)]) (vs := [(φ id).v]) hS (Yi ht φ).1 ⟨rfl, by rw [Yb7, e1], by rw [hc]; rfl, trivial⟩ rfl rfl fun b w' hS' => ?_;have e2 : (List.map (fun v : Value => v.cells.toList) [(φ id).v]).flatten = [(φ id).v] := by simp [hc]
  rw [e2] at hS';have hS2 := hS'.toRow (n := 1) (sz := 1) .head (by simp only [maxLen]; omega) (by simp);have hag := Ym φ id' ⟨b, false, 1, none, 0, undef, fun _ => False⟩;have hnw := hn id' (by simp [keys]);have eh : Yb (fun i => if i = id' then (⟨b, false, 1, none, 0, undef, fun _ => False⟩ : Hd) else φ i) [(id, It.fro ts xs)] = Yb φ [(id, It.fro ts xs)] := Ybm hag fun i hi => by rw [List.mem_singleton.1 hi]; exact hnw.2
  have ev : AV.concL (fun i => if i = id' then (⟨b, false, 1, none, 0, undef, fun _ => False⟩ : Hd) else φ i) [.opq id] = [(φ id).v] := by
   rw [Yy hag [.opq id] fun i hi => by
    rw [List.mem_singleton.1 hi];have := hx.new hnw.1;simp only [AV.hasL, this, Bool.or_self]]
   rfl
  have h3 := kk _ w' hag (by
   rw [Yn];simp only [Yh];rw [eh];have e3 : Yb (fun i => if i = id' then (⟨b, false, 1, none, 0, undef, fun _ => False⟩ : Hd) else φ i) [(id', It.row e 1 1 [.opq id])] = [Res.row (.slice (some ⟨b, 0, none⟩) 1 1) e 1 1 [(φ id).v]] := by simp [Yb, It.conc, ev]
   rw [e3];exact hS2.perm (by rw [List.append_assoc]; exact List.perm_middle.symm))
  simpa [AV.conc] using h3
theorem Y4x {T e by_ id0 off lo id' : Nat} {zs : List AV} {x : Operand} {us : List Ty} (ht : (mkTI P T).slice = some (e, 1, by_, zs)) (hx : At tm x (.sl id0 off lo 0)) :
  Does P { dst, op := .buildSlice T 1 #[(0, x)], type, pos, after, guard } tm [] (.rw id') [] [(id', .nst e [.sl us] [[.l []]])] :=
 fun φ w0 M R a w K Q ho hn hS kk => by
  have hS : St w0 M R w := by simpa [Yb] using hS
  have e1 := ho x (by simp [Op.operands]) _ hx (by simp);obtain ⟨A, c, hv⟩ : ∃ A c, (AV.sl id0 off lo 0).conc φ = .slice A 0 c := ⟨_, _, rfl⟩;rw [hv] at e1;refine Y0d (parts := [(0, x)]) (vs := [.slice A 0 c]) hS (Yi ht φ).1 ⟨rfl, by rw [Yb7, e1], rfl, trivial⟩ rfl rfl fun b w' hS' => ?_;have e2 : (List.map (fun v : Value => v.cells.toList) [.slice A 0 c]).flatten = [.slice A 0 c] := rfl;rw [e2] at hS';have hS2 := hS'.toRow (n := 1) (sz := 1) .head (by simp only [maxLen]; omega) (by simp);have hrow : w'.ownsRow 0 e 1 (.slice (some ⟨b, 0, none⟩) 1 1) 1 [.slice A 0 c] := (hS2.has _ List.mem_cons_self);have h7 := St.repack (L1 := [.row (.slice (some ⟨b, 0, none⟩) 1 1) e 1 1 [.slice A 0 c]]) (R := R) (L2 := [Res.nst (.slice (some ⟨b, 0, none⟩) 1 1) e [.sl us] 1 [[.l []]] fun _ => False]) hS2 (fun r hr => by
    rw [List.mem_singleton] at hr;subst hr;refine Ygw (fun b hb => hb.elim) (fun b hb hz => hz) ⟨rfl, [.slice A 0 c], hrow, fun i k t hi hk => ?_⟩;have hi : i < 1 := hi;obtain rfl : i = 0 := by omega
    cases k with
    | succ k => simp at hk
    | zero =>
     simp only [List.getElem?_cons_zero, Option.some.injEq] at hk;subst hk;exact ⟨.slice A 0 c, rfl, @RdV.sl (atF w' fun _ => False) us A c (.l []) (fun _ _ => undef) (Nat.zero_le _) (Nat.zero_le _) (fun hn => absurd rfl hn) (fun i k t hi => by simp [Cl.lst] at hi)⟩)
   (fun r hr b' hb => by
    rw [List.mem_singleton] at hr;subst hr;exact ⟨_, List.mem_cons_self, hb⟩)
   (fun r hr b' hb => by
    rw [List.mem_singleton] at hr;subst hr;exact hb.elim) (by simp)
  have hag := Ym φ id' ⟨b, false, 1, none, 1, undef, fun _ => False⟩;have h3 := kk _ w' hag (by
   have e3 : Yb (fun i => if i = id' then (⟨b, false, 1, none, 1, undef, fun _ => False⟩ : Hd) else φ i) [(id', It.nst e [.sl us] [[.l []]])] = [Res.nst (.slice (some ⟨b, 0, none⟩) 1 1) e [.sl us] 1 [[.l []]] fun _ => False] := by simp [Yb, It.conc]
   simp only [Yh, List.nil_append];rw [e3];exact h7)
  simpa [AV.conc] using h3
end
def Y6n (hp : Heap) (s : AV) : Bool := match s with | .sl id _ _ _ => (match look hp id with | some (.row _ _ _ _) => true | _ => false) | .emp _ => true | _ => false
def isEmp : AV -> Bool
 | .emp _ => true
 | _ => false
noncomputable def Yit (c : Cx) (o : Oper) (tm : List AV) (hp : Heap) (k kp : KE) : Prop :=
 match o.op with
 | .call cl => (match cl.callee with
  | .builtin b => (match b, cl.args.toList with
   | .copy, [s, x] => evK tm s fun s => evK tm x fun x => (match Y6n hp s with
    | true => (match cl.argTypes.toList with | [T, T'] => Yq3 c T s x hp k | _ => Stuck 662)
    | false => (match Y70 s with
     | true => (match Y6n hp x with
      | true => (match cl.argTypes.toList with
       | [T, T'] => Ylg c T s x hp fun v hs us nw => (match v, us, nw with
        | .si .i64 m, [(i, .blk T' cs)], [] => Yqa m fun m => Yqg cs fun cs' => k (.v (.int .i64 m)) hs [(i, .blk T' cs')] []
        | _, _, _ => Stuck 663)
       | _ => Stuck 664)
      | false => Ye6 c o tm hp k kp)
     | false => Ye6 c o tm hp k kp))
   | .len, [x] => evK tm x fun x => (match isEmp x with
    | true => (match cl.argTypes.toList with | [T] => tiK c.tt T fun ti => (match ti.slice with | none => Stuck 666 | some _ => k (.v (.int .i64 0)) [] [] []) | _ => Stuck 667)
    | false => Ye6 c o tm hp k kp)
   | .clear, [x] => evK tm x fun x => (match Y6n hp x with
    | true => (match cl.argTypes.toList with | [T] => Ymi c T x hp k | _ => Stuck 665)
    | false => Ye6 c o tm hp k kp)
   | _, _ => Ye6 c o tm hp k kp)
  | _ => Ye6 c o tm hp k kp)
 | .buildSlice T len ps => (match ps.toList with
  | [(q, x)] => evK tm x fun v => (match v with
   | .opq id => (match froB hp id with
    | true => Yc (Nat.beq q 0 && Nat.beq len 1) (tiK c.tt T fun ti => (match ti.slice with
     | none => Stuck 668
     | some (e, sz, by_, zs) => Yc (Nat.beq sz 1) (Yu hp id fun it => (match it with
      | .fro ts xs => k (.sl (3 * o.dst.getD 0) 0 0 1) [(id, .fro ts xs)] [] [(3 * o.dst.getD 0, .row e 1 1 [.opq id])]
      | _ => Stuck 669))))
    | false => Ye6 c o tm hp k kp)
   | .sl id0 off lo 0 => Yc (Nat.beq q 0 && Nat.beq len 1) (tiK c.tt T fun ti => (match ti.slice with
     | none => Stuck 668
     | some (e, sz, by_, zs) => Yc (Nat.beq sz 1) (k (.rw (3 * o.dst.getD 0)) [] [] [(3 * o.dst.getD 0, .nst e [.sl [.int .i64]] [[.l []]])])))
   | _ => Ye6 c o tm hp k kp)
  | _ => Ye6 c o tm hp k kp)
 | _ => Ye6 c o tm hp k kp
theorem Ysb {c : Cx} {o : Oper} {tm : List AV} {hp : Heap} {k kp : KE} (hc : HandOk c) (h : Yit c o tm hp k kp) : OpRes c o tm hp k kp := by
 have old : Ye6 c o tm hp k kp -> OpRes c o tm hp k kp := fun h => Ysc hc h;obtain ⟨dst, op, type, pos, after, guard⟩ := o;unfold Yit at h
 split at h
 ·rename_i cl hop;dsimp only at hop; subst hop;obtain ⟨callee, ⟨args⟩, ⟨tys⟩⟩ := cl;dsimp only at h
  split at h
  ·split at h
   ·rename_i s x;obtain ⟨a, ja, hx, h1⟩ := Yd h;obtain ⟨b, jb, hy, h2⟩ := Yd h1
    split at h2
    ·split at h2
     ·exact (Yq2 hc.tab hx hy jb h2).op
     ·exact h2.elim
    ·split at h2
     ·split at h2
      ·split at h2
       ·obtain ⟨val, hs, us, nw, h3, h4, h5, h6⟩ := Yiv (dst := dst) (type := type) (pos := pos) (after := after) (guard := guard) hc.tab hx hy jb h2
        split at h3
        ·obtain ⟨cs', h7, h8, h9⟩ := Yf7 (Yhr.1 h3);refine .inl ⟨_, _, _, _, h7, h4, h5, h6.us (fun φ => rfl) fun φ => ?_⟩;simp only [Yh];exact Yw0 (by simp only [It.conc, h9]) _
        ·exact h3.elim
       ·exact h2.elim
      ·exact old h2
     ·exact old h2
   ·rename_i x;obtain ⟨a, ja, hx, h1⟩ := Yd h
    split at h1
    ·rename_i he
     split at h1
     ·have h2 := Yj hc.tab h1
      split at h2
      ·exact h2.elim
      ·rename_i q hs;obtain ⟨e, sz, by_, zs⟩ := q;cases a with
       | emp id => exact .inl ⟨_, _, _, _, h2, .nil _, Ys, Yhd (n := 0) hs hx (by simp) fun φ w0 M R w hS => ⟨_, _, rfl⟩⟩
       | _ => cases he
     ·exact h1.elim
    ·exact old h1
   ·rename_i x;obtain ⟨a, ja, hx, h1⟩ := Yd h
    split at h1
    ·split at h1
     ·exact (Yoq hc.tab hx h1).op
     ·exact h1.elim
    ·exact old h1
   ·exact old h
  ·exact old h
 ·rename_i T len ps hop;dsimp only at hop; subst hop;obtain ⟨ps⟩ := ps;dsimp only at h
  split at h
  ·rename_i q x;obtain ⟨a, ja, hx, h1⟩ := Yd h
   split at h1
   ·rename_i id
    split at h1
    ·obtain ⟨h2, h3⟩ := Ya h1;simp only [Bool.and_eq_true, Ye] at h2;obtain ⟨rfl, rfl⟩ := h2;have h4 := Yj hc.tab h3
     split at h4
     ·exact h4.elim
     ·rename_i e sz by_ zs hs;obtain ⟨h5, h6⟩ := Ya h4;have h5 := Ye.1 h5;subst h5;obtain ⟨it, hl, h7⟩ := Yf h6
      split at h7
      ·rename_i ts xs;exact .inl ⟨_, _, _, _, h7, .one hl, Ys, Y4y hs hx⟩
      ·exact h7.elim
    ·exact old h1
   ·obtain ⟨h2, h3⟩ := Ya h1;simp only [Bool.and_eq_true, Ye] at h2;obtain ⟨rfl, rfl⟩ := h2;have h4 := Yj hc.tab h3
    split at h4
    ·exact h4.elim
    ·rename_i e sz by_ zs hs;obtain ⟨h5, h6⟩ := Ya h4;have h5 := Ye.1 h5;subst h5;exact .inl ⟨_, _, _, _, h6, .nil _, Ys, Y4x hs hx⟩
   ·exact old h1
  ·exact old h
 ·exact old h
end Go.Proofs.YtladoaeefkpdiaaGreatDoor
namespace Go.Proofs.YtladoaeefkpdiaaGreatDoor
open Go.RowKit
set_option maxRecDepth 100000
set_option maxHeartbeats 1600000
variable [InW]
attribute [local irreducible] Go.Oper.wp
def Yxs (T : TypeId) (es : Array MapEntry) (clock : Nat) (key : Value) : Sem (Array MapEntry × Nat × Value) := do
 let .map keyType elem <- underlying T | stuck "MapEntry: map type expected"
 Instr.checkKey false 10000 keyType key
 match <- Instr.findKey keyType key es.toList with
 | some (i, v) => do
  let key <- Instr.keyThatStays (((es[i]?).map (·.key)).getD key) key
  pure (es.modify i fun e => { e with key }, clock, .tuple #[v, goInt (((es[i]?).map (·.born)).getD 0)])
 | none => do
  let zero <- zeroValue elem
  pure (es.push { key, val := zero, born := clock }, clock + 1, .tuple #[zero, goInt clock])
def Yw9 (es : Array MapEntry) (stamp value : Value) : Sem (Array MapEntry) := do
 let born <- asInt stamp
 match es.findIdx? (fun e => (e.born : Int) == born) with
 | some i => pure (es.modify i fun e => { e with val := value })
 | none => unsupported (.noEntry "instr/MapEntry.the entry is gone")
section
variable {P : Program} {tm : List AV} {dst : Option Tmp} {type : TypeId} {pos : String} {after : Array Edge} {guard : Option (Nat × Bool)} {w : World}
theorem Y0l {T key elem : TypeId} {b : Nat} {es : Array MapEntry} {clock : Nat} {k : Value} {r : Array MapEntry × Nat × Value} (hu : P.underlying T = some (.map key elem)) (hb : w.heap[b]? = some (.map es clock)) (h : (Yxs T es clock k).run P w = .ok r w) : (Instr.mapEntry T (.map (some b)) k).run P w = .ok r.2.2 { w with heap := w.heap.setIfInBounds b (.map r.1 r.2.1) } := by
 have hg := Yfa (P := P) hb (by simp);unfold Yxs at h;unfold Instr.mapEntry;simp only [Sem.run_bind, run_underlying hu w, Result.andThen_ok, hg, Sem.run_pure] at h ⊢;generalize (Instr.checkKey false 10000 key k).run P w = r1 at h ⊢;cases r1 with
 | halt x w' => simp [Result.andThen] at h
 | ok u w1 =>
  simp only [Result.andThen_ok] at h ⊢;generalize (Instr.findKey key k es.toList).run P w1 = r2 at h ⊢;cases r2 with
  | halt x w' => simp [Result.andThen] at h
  | ok f w2 =>
   simp only [Result.andThen_ok] at h ⊢;cases f with
   | none =>
    simp only [Sem.run_bind] at h ⊢;generalize (zeroValue elem).run P w2 = r3 at h ⊢;cases r3 with
    | halt x w' => simp [Result.andThen] at h
    | ok z w3 =>
     simp only [Result.andThen_ok, Sem.run_pure, Result.ok.injEq] at h ⊢;obtain ⟨rfl, rfl⟩ := h;rw [Yd5 hb (by simp)];rfl
   | some q =>
    simp only [Sem.run_bind] at h ⊢;generalize (Instr.keyThatStays (((es[q.1]?).map (·.key)).getD k) k).run P w2 = r3 at h ⊢;cases r3 with
    | halt x w' => simp [Result.andThen] at h
    | ok k' w3 =>
     simp only [Result.andThen_ok, Sem.run_pure, Result.ok.injEq] at h ⊢;obtain ⟨rfl, rfl⟩ := h;rw [Yd5 hb (by simp)];rfl
theorem Y0i {T : TypeId} {b : Nat} {es r : Array MapEntry} {clock : Nat} {s v : Value} (hb : w.heap[b]? = some (.map es clock)) (h : (Yw9 es s v).run P w = .ok r w) : (Instr.entryStore T (.map (some b)) s v).run P w = .ok () { w with heap := w.heap.setIfInBounds b (.map r clock) } := by
 have hg := Yfa (P := P) hb (by simp);unfold Yw9 at h;unfold Instr.entryStore;simp only [Sem.run_bind, Result.andThen_ok, hg, Sem.run_pure] at h ⊢;generalize (asInt s).run P w = r1 at h ⊢;cases r1 with
 | halt x w' => simp [Result.andThen] at h
 | ok u w1 =>
  simp only [Result.andThen_ok] at h ⊢;cases hf : es.findIdx? (fun e => (e.born : Int) == u) with
  | none =>
   simp only [hf] at h;simp [unsupported, Sem.run] at h
  | some i =>
   simp only [hf, Sem.run_pure, Result.ok.injEq] at h ⊢;obtain ⟨rfl, rfl⟩ := h;exact Yd5 hb (by simp)
theorem Y63 {T key elem : TypeId} {x ix : Operand} {id clock : Nat} {es : List MapEntry} {iv : AV} {k : Value} {r : Array MapEntry × Nat × Value} (hu : P.underlying T = some (.map key elem)) (hx : At tm x (.mp id)) (hi : At tm ix iv) (hj : iv.rd = true) (hk : ∀ φ, iv.conc φ = k) (hr : ∀ w, (Yxs T es.toArray clock k).run P w = .ok r w) :
  Does P { dst, op := .mapEntry T x ix, type, pos, after, guard } tm [(id, .obj (.mpV es clock))] (.v r.2.2) [(id, .obj (.mpV r.1.toList r.2.1))] [] :=
 fun φ w0 M R a w K Q ho _ hS kk => by
  have e1 := ho x (by simp [Op.operands]) _ hx (by simp);have e2 := ho ix (by simp [Op.operands]) _ hi hj;rw [hk φ] at e2;have hS1 : St w0 M (.blk (φ id).b (.map es.toArray clock) :: R) w := hS;have hrun := Y0l hu (hS1.blk .head) (hr w);have hS2 := Yhj (o' := .map r.1 r.2.1) hS1;unfold Oper.wp execOp;simp only [e1, e2, AV.conc, Sem.run_bind, hrun, Result.andThen_ok, Sem.run_pure, Oper.upon];exact kk φ _ (Agree.refl _ _) (by simpa [Yh, upd, Nat.beq_refl, Yb, It.conc, OI.obj] using hS2)
theorem Y6w {T : TypeId} {x s y : Operand} {id clock : Nat} {es : List MapEntry} {sv yv : AV} {k v : Value} {r : Array MapEntry} (hx : At tm x (.mp id)) (hi : At tm s sv) (hj : sv.rd = true) (hk : ∀ φ, sv.conc φ = k) (hy : At tm y yv) (hyj : yv.rd = true) (hyk : ∀ φ, yv.conc φ = v) (hr : ∀ w, (Yw9 es.toArray k v).run P w = .ok r w) :
  Does P { dst, op := .entryStore T x s y, type, pos, after, guard } tm [(id, .obj (.mpV es clock))] (.v undef) [(id, .obj (.mpV r.toList clock))] [] :=
 fun φ w0 M R a w K Q ho _ hS kk => by
  have e1 := ho x (by simp [Op.operands]) _ hx (by simp);have e2 := ho s (by simp [Op.operands]) _ hi hj;have e3 := ho y (by simp [Op.operands]) _ hy hyj;rw [hk φ] at e2;rw [hyk φ] at e3;have hS1 : St w0 M (.blk (φ id).b (.map es.toArray clock) :: R) w := hS;have hrun := Y0i (T := T) (hS1.blk .head) (hr w);have hS2 := Yhj (o' := .map r clock) hS1;unfold Oper.wp execOp;simp only [e1, e2, e3, AV.conc, Sem.run_bind, hrun, Result.andThen_ok, Sem.run_pure, Oper.upon];exact kk φ _ (Agree.refl _ _) (by simpa [Yh, upd, Nat.beq_refl, Yb, It.conc, OI.obj] using hS2)
theorem Y6y {T e : TypeId} {sz by_ m : Nat} {zs : List AV} {x y : Operand} {kl kc : IntKind} {id : Nat} (ht : (mkTI P T).slice = some (e, sz, by_, zs)) (hx : At tm x (.v (.int kl 0))) (hy : At tm y (.v (.int kc (m : Int)))) (hb : by_ * m <= 281474976710656) (hm : m <= maxLen) :
  Does P { dst, op := .makeSlice T x y, type, pos, after, guard } tm [] (.sl id 0 0 0) [] [(id, .row e sz 0 [])] :=
 fun φ w0 M R a w K Q ho _ hS kk => by
  have e1 := ho x (by simp [Op.operands]) _ hx (by simp);have e2 := ho y (by simp [Op.operands]) _ hy (by simp);obtain ⟨i, z, hi, hz1, hz2, his, hib⟩ := ((Yi ht φ).1).parts;obtain ⟨w', hr, h2, h3⟩ := run_make_own (P := P) (w := w) 0 T e i z sz (Yi ht φ).1.1 hi hz1 his kl kc m (by rw [hib]; exact hb) hm (Nat.zero_le _);have hS : St w0 M R w := by simpa [Yb] using hS
  have hS' : St w0 M (.row (.slice (some ⟨w.heap.size, 0, none⟩) 0 m) e sz 0 [] :: R) w' := hS.add ⟨h3.os, h3.tape, h3.output, h3.size, fun k hk => h3.block k hk (by simp)⟩ h2 (fun b hb => by simp [Res.foot, Value.ownBlock] at hb; omega);unfold Oper.wp execOp;simp only [AV.conc] at e1 e2;simp only [e1, e2, Sem.run_bind, hr, Result.andThen_ok, Sem.run_pure, Oper.upon];have hag := Ym φ id ⟨w.heap.size, false, m, none, 0, undef, fun _ => False⟩;have := kk _ w' hag (by simpa [Yh, Yb, It.conc, AV.concL] using hS');simpa [AV.conc] using this
theorem Y66 {T e e' sz by_ n N m lo2 off2 id id2 : Nat} {zs : List AV} {s x : Operand} {cs : List AV} {it2 : It} {news : List AV} (ht : (mkTI P T).slice = some (e, sz, by_, zs))
  (hs : At tm s (.sl id 0 0 n)) (hx : At tm x (.sl id2 off2 lo2 m)) (hne : id ≠ id2)
  (hnn : ∀ (φ : Phi) (w0 : World) (M : List Nat) (R : RL) (w : World), St w0 M (it2.conc φ id2 :: R) w -> (φ id2).nil = false)
  (hl : news.length = m * sz) (hcs : ∀ (φ : Phi) (j : Nat) (u : Value), (AV.concL φ news)[j]? = some u -> (it2.vals φ)[off2 + j]? = some u) (h1 : Yfb news = true)
  (hN : n + m <= N) (hN0 : 0 < N) (hfit : n * sz + news.length <= cs.length) :
  Does P { dst, op := .call { callee := .builtin .append, args := #[s, x], argTypes := #[T, T] }, type, pos, after, guard } tm [(id, .row e' sz N cs), (id2, it2)] (.sl id 0 0 (n + m)) [(id, .row e' sz N (cs.take (n * sz) ++ news ++ cs.drop (n * sz + news.length)))] [] :=
 fun φ w0 M R a w K Q ho hn hS kk => by
  have hS1 : St w0 M ((It.row e' sz N cs).conc φ id :: it2.conc φ id2 :: R) w := hS;have hS2 : St w0 M (it2.conc φ id2 :: (It.row e' sz N cs).conc φ id :: R) w := hS1.perm (List.Perm.swap _ _ _);have hnil2 := hnn φ w0 M _ w hS2;have hnil := Ydd hN0 hS1;have e1 := ho s (by simp [Op.operands, Call.operands]) _ hs (by simp);have e2 := ho x (by simp [Op.operands, Call.operands]) _ hx (by simp);simp only [AV.conc, hnil2, Bool.false_eq_true, if_false] at e2;simp only [AV.conc, hnil, Bool.false_eq_true, if_false, Nat.sub_zero] at e1;have hti := (Yi ht φ).1.1;obtain ⟨i, z, hi, hz1, hz2, his, hib⟩ := (Yi ht φ).1.parts;have hS3 : St w0 M (.row (.slice (some ⟨(φ id).b, 0, none⟩) N (φ id).c) e' sz N (AV.concL φ cs) :: it2.conc φ id2 :: R) w := by
   have := hS1;simp only [It.conc, hnil] at this;exact this
  have hcap : N <= (φ id).c := by
   rcases (hS3.row .head).2 with ⟨h0, _⟩ | ⟨g', cap, cur, hv, _, _, hnc, _⟩
   ·cases h0
   ·cases hv; exact hnc
  have hfc := run_firstCells_some (P := P) w sz m ⟨(φ id2).b, off2, none⟩ m ((φ id2).c - lo2) (AV.concL φ news) (by rw [Yg, hl]) fun j u hj => by
   rw [Yp];exact Ybg hS2 (hcs φ j u hj)
  obtain ⟨w', hr, hSt⟩ := Ym0 (P := P) (k := n * sz) hS3 (AV.concL φ news) (by rw [Yg, Yg]; exact hfit) (Yb6 h1 φ);have hlast : (AV.concL φ cs).take (n * sz) ++ AV.concL φ news ++ (AV.concL φ cs).drop (n * sz + (AV.concL φ news).length) = AV.concL φ (cs.take (n * sz) ++ news ++ cs.drop (n * sz + news.length)) := by
   simp only [Yw, List.map_append, List.map_take, List.map_drop, List.length_map]
  rw [hlast] at hSt;have hroom : n + m <= (φ id).c := by omega
  have hrun : (Builtin.append_ #[T, T] type #[.slice (some ⟨(φ id).b, 0, none⟩) n (φ id).c, .slice (some ⟨(φ id2).b, off2, none⟩) m ((φ id2).c - lo2)]).run P w = .ok (.slice (some ⟨(φ id).b, 0, none⟩) (n + m) (φ id).c) w' := by
   simp [Builtin.append_, run_underlying hti, sizeOf, typeInfo, hi, Builtin.lenOf, hroom, his, hfc, Addr.add_lit, hr]
  have h4 := kk φ w' (Agree.refl _ _) (by
   have e4 : Yh [(id, It.row e' sz N cs), (id2, it2)] [(id, .row e' sz N (cs.take (n * sz) ++ news ++ cs.drop (n * sz + news.length)))] = [(id, .row e' sz N (cs.take (n * sz) ++ news ++ cs.drop (n * sz + news.length))), (id2, it2)] := by simp [Yh, upd, Nat.beq_refl]
   rw [e4, List.append_nil];have e6 : (It.row e' sz N (cs.take (n * sz) ++ news ++ cs.drop (n * sz + news.length))).conc φ id = .row (.slice (some ⟨(φ id).b, 0, none⟩) N (φ id).c) e' sz N (AV.concL φ (cs.take (n * sz) ++ news ++ cs.drop (n * sz + news.length))) := by simp only [It.conc, hnil, if_false, Bool.false_eq_true]
   show St w0 M ((It.row e' sz N (cs.take (n * sz) ++ news ++ cs.drop (n * sz + news.length))).conc φ id :: it2.conc φ id2 :: R) w'
   rw [e6];exact hSt)
  unfold Oper.wp execOp;simp only [resolve, invoke, builtin, Sem.run_bind, Sem.run_pure, Result.andThen_ok, List.map_toArray, List.map_cons, List.map_nil, e1, e2];rw [hrun];simp only [AV.conc, hnil, Bool.false_eq_true, if_false, Nat.sub_zero] at h4;exact h4
end
def Y7q (hp : Heap) (s x : AV) : Bool := match s, x with | .sl i _ _ n, .sl _ _ _ m => (match look hp i with | some (.row _ _ N _) => Nat.ble (n + 1) N && Nat.ble (n + m) N && Nat.ble 1 m | _ => false) | _, _ => false
def Y25 (c : Cx) (T : TypeId) (s x : AV) (hp : Heap) (k : KE) : Prop :=
 match s, x with
 | .sl i off lo n, .sl j off2 lo2 m => tiK c.tt T fun ti => (match ti.slice with
  | none => Stuck 686
  | some (e, sz, by_, zs) => Yu hp i fun it => Yu hp j fun it2 => (match it with
   | .row e' sz' N cs => Yc (Nat.beq sz' sz && Nat.beq off 0 && Nat.beq lo 0 && !(Nat.beq i j) && Nat.ble (n + m) N && Nat.ble 1 N) (Yy2 it2 off2 m sz fun news => Yc (Yfb news && lenB news (m * sz)) (Yos cs (n * sz) news fun cs' => Y3 (n + m) fun nm => k (.sl i 0 0 nm) [(i, .row e' sz' N cs), (j, it2)] [(i, .row e' sz' N cs')] []))
   | _ => Stuck 687))
 | _, _ => Stuck 688
theorem Ywv {tm : List AV} {dst : Option Tmp} {type : TypeId} {pos : String} {after : Array Edge} {guard : Option (Nat × Bool)} {c : Cx} (ht : TabOk c.P c.tt) {T : TypeId} {sv xv : AV} {s x : Operand} {hp : Heap} {k : KE} (hs : At tm s sv) (hx : At tm x xv) (h : Y25 c T sv xv hp k) :
  Res1 c.P { dst, op := .call { callee := .builtin .append, args := #[s, x], argTypes := #[T, T] }, type, pos, after, guard } tm hp k := by
 unfold Y25 at h
 split at h
 ·rename_i i off lo n j off2 lo2 m;have h1 := Yj ht h
  split at h1
  ·exact h1.elim
  ·rename_i e sz by_ zs hq;obtain ⟨it, h4, h5⟩ := Yf h1;obtain ⟨it2, h6, h7⟩ := Yf h5
   split at h7
   ·rename_i e' sz' N cs;obtain ⟨h8, h9⟩ := Ya h7;simp only [Bool.and_eq_true, Bool.not_eq_true', Nat.ble_eq, Ye, Y4] at h8;obtain ⟨⟨⟨⟨⟨rfl, rfl⟩, rfl⟩, hne⟩, hN⟩, hN0⟩ := h8;obtain ⟨news, h10, h11, h12, h13⟩ := Yfd h9;obtain ⟨h14, h15⟩ := Ya h10;rw [Bool.and_eq_true] at h14;obtain ⟨h16, h17⟩ := Yde h15;exact ⟨_, _, _, _, Yk.1 h17, .two h4 h6 hne, (by intro i hi; simp [keys] at hi ⊢; exact .inl hi), Y66 hq hs hx hne (fun φ w0 M R w hS => Ybj h11 φ _ w0 M R w hS) (Y2 h14.2) h12 h14.1 hN hN0 h16⟩
   ·exact h7.elim
 ·exact h.elim
noncomputable def Yes (c : Cx) (o : Oper) (tm : List AV) (hp : Heap) (k kp : KE) : Prop :=
 match o.op with
 | .mapEntry T x ix => evK tm x fun m => evK tm ix fun i => (match m with
  | .mp j => Yu hp j fun it => (match it with
   | .obj (.mpV es clock) => (match c.P.underlying T with
    | some (.map key elem) => Ygq i fun i => Yrb c.P (Yxs T es.toArray clock i) fun r => k (.v r.2.2) [(j, .obj (.mpV es clock))] [(j, .obj (.mpV r.1.toList r.2.1))] []
    | _ => Stuck 680)
   | _ => Stuck 681)
  | _ => Stuck 682)
 | .entryStore T x s y => evK tm x fun m => evK tm s fun i => evK tm y fun y => (match m with
  | .mp j => Yu hp j fun it => (match it with
   | .obj (.mpV es clock) => Ygq i fun i => Ygq y fun y => Yrb c.P (Yw9 es.toArray i y) fun r => k (.v undef) [(j, .obj (.mpV es clock))] [(j, .obj (.mpV r.toList clock))] []
   | _ => Stuck 683)
  | _ => Stuck 684)
 | .makeSlice T x y => evK tm x fun xv => evK tm y fun yv => (match xv, yv with
  | .v (.int kl (.ofNat n)), .v (.int kc (.ofNat m)) => (match Nat.beq n 0 && !(Nat.beq m 0) with
   | true => tiK c.tt T fun ti => (match ti.slice with
    | none => Stuck 685
    | some (e, sz, by_, zs) => Yc (Nat.ble (by_ * m) 281474976710656 && Nat.ble m 16777216) (k (.sl (3 * o.dst.getD 0) 0 0 0) [] [] [(3 * o.dst.getD 0, .row e sz 0 [])]))
   | false => Yit c o tm hp k kp)
  | _, _ => Yit c o tm hp k kp)
 | .call cl => (match cl.callee with
  | .builtin b => (match b, cl.args.toList with
   | .append, [s, x] => evK tm s fun s => evK tm x fun x => (match Y7q hp s x with
    | true => (match cl.argTypes.toList with | [T, T'] => Yc (Nat.beq T T') (Y25 c T s x hp k) | _ => Stuck 689)
    | false => Yit c o tm hp k kp)
   | _, _ => Yit c o tm hp k kp)
  | _ => Yit c o tm hp k kp)
 | _ => Yit c o tm hp k kp
theorem Ysa {c : Cx} {o : Oper} {tm : List AV} {hp : Heap} {k kp : KE} (hc : HandOk c) (h : Yes c o tm hp k kp) : OpRes c o tm hp k kp := by
 have old : Yit c o tm hp k kp -> OpRes c o tm hp k kp := fun h => Ysb hc h;obtain ⟨dst, op, type, pos, after, guard⟩ := o;unfold Yes at h
 split at h
 ·rename_i T x ix hop;dsimp only at hop; subst hop;obtain ⟨v, hj, hx, h1⟩ := Yd h;obtain ⟨u, hju, hix, h2⟩ := Yd h1
  split at h2
  ·obtain ⟨it, h4, h5⟩ := Yf h2
   split at h5
   ·split at h5
    ·rename_i hu;obtain ⟨i, h6, h7⟩ := Ydf h5;obtain ⟨r, h10, h11⟩ := Yd6 h6;exact .inl ⟨_, _, _, _, h10, .one h4, (fun i hi => by simpa [keys] using hi), Y63 hu hx hix hju h7 h11⟩
    ·exact h5.elim
   ·exact h5.elim
  ·exact h2.elim
 ·rename_i T x s y hop;dsimp only at hop; subst hop;obtain ⟨v, hj, hx, h1⟩ := Yd h;obtain ⟨u, hju, hix, h2⟩ := Yd h1;obtain ⟨y', hjy, hy, h3⟩ := Yd h2
  split at h3
  ·obtain ⟨it, h4, h5⟩ := Yf h3
   split at h5
   ·obtain ⟨i, h6, h7⟩ := Ydf h5;obtain ⟨yv, h8, h9⟩ := Ydf h6;obtain ⟨r, h10, h11⟩ := Yd6 h8;exact .inl ⟨_, _, _, _, h10, .one h4, (fun i hi => by simpa [keys] using hi), Y6w hx hix hju h7 hy hjy h9 h11⟩
   ·exact h5.elim
  ·exact h3.elim
 ·rename_i T x y hop;dsimp only at hop; subst hop;obtain ⟨v, hj, hx, h1⟩ := Yd h;obtain ⟨u, hju, hy, h2⟩ := Yd h1
  split at h2
  ·split at h2
   ·rename_i hb;simp only [Bool.and_eq_true, Ye] at hb;obtain ⟨rfl, _⟩ := hb;have h5 := Yj hc.tab h2
    split at h5
    ·exact h5.elim
    ·rename_i e sz by_ zs hq;obtain ⟨h6, h7⟩ := Ya h5;simp only [Bool.and_eq_true, Nat.ble_eq] at h6;exact .inl ⟨_, _, _, _, h7, .nil _, Ys, Y6y hq hx hy h6.1 (by simp only [maxLen]; omega)⟩
   ·exact old h2
  ·exact old h2
 ·rename_i cl hop;dsimp only at hop; subst hop;obtain ⟨callee, ⟨args⟩, ⟨tys⟩⟩ := cl;dsimp only at h
  split at h
  ·split at h
   ·rename_i s x;obtain ⟨a, ja, hx, h1⟩ := Yd h;obtain ⟨b, jb, hy, h2⟩ := Yd h1
    split at h2
    ·split at h2
     ·obtain ⟨h3, h4⟩ := Ya h2;have h3 := Ye.1 h3;subst h3;exact (Ywv hc.tab hx hy h4).op
     ·exact h2.elim
    ·exact old h2
   ·exact old h
  ·exact old h
 ·exact old h
end Go.Proofs.YtladoaeefkpdiaaGreatDoor
namespace Go.Proofs.YtladoaeefkpdiaaGreatDoor
open Go.RowKit
set_option maxRecDepth 100000
set_option maxHeartbeats 1600000
variable [InW]
attribute [local irreducible] Go.Oper.wp
section
variable {P : Program} {tm : List AV} {dst : Option Tmp} {type : TypeId} {pos : String} {after : Array Edge} {guard : Option (Nat × Bool)} {w : World}
def Y44 (P : Program) (S D T : TypeId) (n a : Nat) : Bool :=
 match P.underlying S with
 | some (.pointer t) => (match P.underlying D with
  | some .unsafePointer => (match P.info? t with | some j => !(Nat.beq j.size 0) && Nat.ble (a + 1) n | none => false)
  | _ => false)
 | some .unsafePointer => (match P.underlying D with
  | some (.pointer u) => (match P.info? u with | some _ => liesAt P P.depth T (n / P.cellsOf T) a u 1 | none => false)
  | _ => false)
 | _ => false
theorem Y3q {S D T : TypeId} {n a b : Nat} (hb : Y44 P S D T n a = true) (hsh : w.shape? b = some (T, n)) : (convert S D (.pointer (some ⟨b, a, none⟩))).run P w = .ok (.pointer (some ⟨b, a, none⟩)) w := by
 unfold Y44 at hb
 split at hb
 ·rename_i t h1
  split at hb
  ·rename_i h2
   split at hb
   ·rename_i j h3;simp only [Bool.and_eq_true, Bool.not_eq_true', Y4, Nat.ble_eq] at hb;exact Lib.run_to_unsafe w ⟨b, a, none⟩ h1 h2 h3 hb.1 hsh (by show a < n; omega)
   ·cases hb
  ·cases hb
 ·rename_i h1
  split at hb
  ·rename_i u h2
   split at hb
   ·rename_i j h3;exact Lib.run_from_unsafe w ⟨b, a, none⟩ h1 h2 h3 hsh hb
   ·cases hb
  ·cases hb
 ·cases hb
theorem Y8b {S D T : TypeId} {a i : Nat} {cs : List AV} {x : Operand} (hx : At tm x (.ptr i a)) (hb : Y44 P S D T cs.length a = true) : Does P { dst, op := .convert S D x, type, pos, after, guard } tm [(i, .blk T cs)] (.ptr i a) [] [] :=
 fun φ w0 M R act w K Q ho _ hS kk => by
  have e1 := ho x (by simp [Op.operands]) _ hx (by simp);have hS1 : St w0 M (.blk (φ i).b (.cells (AV.concL φ cs).toArray T (0, 0)) :: R) w := hS;have hbk := hS1.blk .head;have hsh : w.shape? (φ i).b = some (T, cs.length) := by simp [World.shape?, hbk, Yg]
  have hr := Y3q (P := P) (S := S) (D := D) hb hsh;unfold Oper.wp execOp;simp only [e1, AV.conc, Sem.run_bind, hr, Result.andThen_ok, Sem.run_pure, Oper.upon];exact kk φ w (Agree.refl _ _) (by simpa [Yh] using hS)
theorem Y76 {T T2 te : TypeId} {j : TypeInfo} {a i : Nat} {x y : Operand} (hp : P.underlying T = some (.pointer te)) (hte : P.info? te = some j) (hx : At tm x (.ptr i a)) (hy : At tm y (.ptr i a)) : Does P { dst, op := .binOp .neq T x y T2, type, pos, after, guard } tm [] (.v (.bool false)) [] [] :=
 fun φ w0 M R act w K Q ho _ hS kk => by
  have e1 := ho x (by simp [Op.operands]) _ hx (by simp);have e2 := ho y (by simp [Op.operands]) _ hy (by simp);simp only [AV.conc] at e1 e2;have hr := Lib.run_neq_ptr_same (P := P) w ⟨(φ i).b, a, none⟩ hp hte;have hg : (eqGuard .neq T x y (.pointer (some ⟨(φ i).b, a, none⟩)) (.pointer (some ⟨(φ i).b, a, none⟩))).run P w = .ok () w := by simp [eqGuard]
  unfold Oper.wp execOp;simp only [e1, e2, Sem.run_bind, hg, hr, Result.andThen_ok, Sem.run_pure, Oper.upon];exact kk φ w (Agree.refl _ _) (by simpa [Yh] using hS)
theorem Y79 {T T2 te : TypeId} {a i : Nat} {x y : Operand} (hp : P.underlying T = some (.pointer te)) (hx : At tm x (.ptr i a)) (hy : At tm y (.v (.pointer none))) : Does P { dst, op := .binOp .eql T x y T2, type, pos, after, guard } tm [] (.v (.bool false)) [] [] :=
 fun φ w0 M R act w K Q ho _ hS kk => by
  have e1 := ho x (by simp [Op.operands]) _ hx (by simp);have e2 := ho y (by simp [Op.operands]) _ hy (by simp);simp only [AV.conc] at e1 e2;have h9 : ∀ d : Nat, (Op.equalIn (d + 1) T (.pointer (some ⟨(φ i).b, a, none⟩)) (.pointer none)).run P w = .ok false w := fun d => by
   simp [Op.equalIn, run_underlying hp]
  have hr : (binOp .eql T (.pointer (some ⟨(φ i).b, a, none⟩)) (.pointer none)).run P w = .ok (.bool false) w := by
   simp only [binOp];simp [Op.equal, Op.maxDepth, h9 9999]
  have hg : (eqGuard .eql T x y (.pointer (some ⟨(φ i).b, a, none⟩)) (.pointer none)).run P w = .ok () w := by simp [eqGuard]
  unfold Oper.wp execOp;simp only [e1, e2, Sem.run_bind, hg, hr, Result.andThen_ok, Sem.run_pure, Oper.upon];exact kk φ w (Agree.refl _ _) (by simpa [Yh] using hS)
theorem Yxz {f : Operand} {args : List Operand} {tys : Array TypeId} {fv val : AV} {g : FuncId} {fn : Func} {e : Array Value -> Sem Value} {vs : List AV} (hfn : P.funcs[g]? = some fn) (h1 : (fn.name == "runtime.NumGoroutine") = false) (h2 : fn.body.isNone = true) (h3 : Extern.findNext fn = none) (h4 : Extern.find fn = some e)
  (hf : At tm f fv) (hj : fv.rd = true) (hfv : ∀ φ, fv.conc φ = .func (.func g) (AV.concL φ []).toArray (AV.concL φ []).toArray) (ha : Ats tm args vs) (hr : ∀ φ w, (e (AV.concL φ vs).toArray).run P w = .ok (val.conc φ) w) :
  Does P { dst, op := .call { callee := .value f, args := args.toArray, argTypes := tys }, type, pos, after, guard } tm [] val [] [] :=
 fun φ w0 M R a w K Q ho hn hS kk => by
  have e1 := ho f (by simp [Op.operands, Call.operands]) fv hf hj;have e2 := ha.eval (φ := φ) (a := a) fun x hx v hv hj => ho x (by simp [Op.operands, Call.operands, hx]) v hv hj;rw [hfv φ] at e1;have e3 : (AV.concL φ []).toArray ++ args.toArray.map a.eval ++ (AV.concL φ []).toArray = (AV.concL φ vs).toArray := by
   rw [<- e2]; simp [AV.concL]
  have hx : (execOp a.eval { dst, op := .call { callee := .value f, args := args.toArray, argTypes := tys }, type, pos, after, guard }).run P w = .ok (.value (val.conc φ)) w := by
   simp only [execOp, resolve, e1, Deferred.ofValue, Sem.run_bind, Sem.run_pure, Result.andThen_ok, invoke];rw [e3, run_callFunc_extern hfn h1 h2 h3 h4, hr φ w];rfl
  unfold Oper.wp;rw [hx];exact kk φ w (Agree.refl _ _) (by simpa [Yh] using hS)
theorem Ypf {T U ty e : TypeId} {i : TypeInfo} (ht : P.underlying T = some (.slice e)) (hu : P.underlying U = some .string) (hi : P.info? e = some i) (hz : i.zero = some (.int .u8 0)) (hs1 : i.size = 1) (hby : i.bytes = 1)
  {v : Value} {n : Nat} {xs : List Value} (hown : w.ownsRow 0 e 1 v n xs) (s : ByteArray) (hb : n + s.size <= 140737488355328) :
  ∃ v' w', (Builtin.append_ #[T, U] ty #[v, .string s]).run P w = .ok v' w' /\ w'.ownsRow 0 e 1 v' (n + s.size) (xs ++ Lib.strCells s) /\ w.grownBy w' v.ownBlock /\ (v'.ownBlock = v.ownBlock \/ v'.ownBlock = some w.heap.size) := by
 have h63 : n + s.size <= maxLen := by simp only [maxLen]; omega
 obtain ⟨v', w', hr, h2, h3, h4⟩ := Lib.run_append_own_string (P := P) w 0 T U ty e i ht hu hi hz hs1 hby v n xs hown s h63 hb (Nat.zero_le _);refine ⟨v', w', hr, h2, h3, ?_⟩;have hxl := hown.1;rcases hown.2 with ⟨hv, hn⟩ | ⟨g, cap, cur, hv, hbg, hg, hnc, hcm, hcs, htake⟩
 ·by_cases hm : s.size = 0
  ·left;rw [h4.2 ⟨hv, hm⟩, hv]
  ·have hr2 := run_append_nil_string (P := P) w T U ty e i (.int .u8 0) ht hu hi hz s (by omega) (by omega) (by rw [hby]; omega);rw [hv, hr2] at hr;injection hr with e1 e2
   right;rw [<- e1];rfl
 ·by_cases hroom : n + s.size <= cap
  ·have hr2 := Lib.run_append_room_string (P := P) w T U ty e i ht hu hi hs1 g n cap cur hg s hroom (by omega);rw [hv, hr2] at hr;injection hr with e1 e2
   left;rw [<- e1, hv];rfl
  ·have hown' := hown;rw [hv] at hown';have hr2 := Lib.run_append_grow_string (P := P) w T U ty e i (.int .u8 0) ht hu hi hz ⟨g, 0, none⟩ n cap xs (by rw [hs1]; exact hxl) (hown'.cells (g := g) rfl) s (by omega) (by omega) (by rw [hby]; exact growslice_fits (by omega) (by omega));rw [hv, hr2] at hr;injection hr with e1 e2
   right;rw [<- e1];rfl
def strB (P : Program) (U e : TypeId) : Bool :=
 match P.underlying U with
 | some .string => (match P.info? e with
  | some i => (match i.zero with
   | some (.int .u8 0) => Nat.beq i.size 1 && Nat.beq i.bytes 1
   | _ => false)
  | none => false)
 | _ => false
theorem Ysu {U e : TypeId} (h : strB P U e = true) : ∃ i, P.underlying U = some .string /\ P.info? e = some i /\ i.zero = some (.int .u8 0) /\ i.size = 1 /\ i.bytes = 1 := by
 unfold strB at h
 split at h
 ·rename_i h1
  split at h
  ·rename_i i h2
   split at h
   ·rename_i h3;simp only [Bool.and_eq_true, Ye] at h;exact ⟨i, h1, h2, h3, h.1, h.2⟩
   ·cases h
  ·cases h
 ·cases h
def Yiw (s : ByteArray) : List AV := s.data.toList.map fun b => .v (.int .u8 b.toNat)
theorem Yml (φ : Phi) (s : ByteArray) : AV.concL φ (Yiw s) = Lib.strCells s := by
 simp [Yiw, Lib.strCells, Yw, AV.conc, Function.comp_def]
theorem Yyb (i : Nat) (s : ByteArray) : AV.hasL i (Yiw s) = false := by
 rw [Yo, List.any_eq_false];intro x hx;obtain ⟨b, _, rfl⟩ := List.mem_map.1 hx;simp [AV.has]
theorem Y42 {T U e by_ n id id' : Nat} {zs cs : List AV} {s x : Operand} {str : ByteArray} (ht : (mkTI P T).slice = some (e, 1, by_, zs)) (hb : strB P U e = true) (hs : At tm s (.sl id 0 0 n)) (hx : At tm x (.v (.string str))) (h63 : n + str.size <= 140737488355328) :
  Does P { dst, op := .call { callee := .builtin .append, args := #[s, x], argTypes := #[T, U] }, type, pos, after, guard } tm [(id, .row e 1 n cs)] (.sl id' 0 0 (n + str.size)) [(id, .dead)] [(id', .row e 1 (n + str.size) (cs ++ Yiw str))] :=
 fun φ w0 M R a w K Q ho hn hS kk => by
  obtain ⟨i, hu, hi, hz, hs1, hby⟩ := Ysu hb;have hS1 : St w0 M (.row (.slice (if (φ id).nil then none else some ⟨(φ id).b, 0, none⟩) n (φ id).c) e 1 n (AV.concL φ cs) :: R) w := hS;have e1 := ho s (by simp [Op.operands, Call.operands]) _ hs (by simp);have e2 := ho x (by simp [Op.operands, Call.operands]) _ hx (by simp);simp only [AV.conc, Nat.sub_zero] at e1 e2;obtain ⟨v, hv⟩ : ∃ v, v = Value.slice (if (φ id).nil then none else some ⟨(φ id).b, 0, none⟩) n (φ id).c := ⟨_, rfl⟩;rw [<- hv] at hS1 e1;obtain ⟨v', w', hr, h2, h3, h4⟩ := Ypf (ty := type) (Yi ht φ).1.1 hu hi hz hs1 hby (hS1.row .head) str h63;have hS' := hS1.upd (r' := .row v' e 1 (n + str.size) (AV.concL φ cs ++ Lib.strCells str)) .head ⟨h3.os, h3.tape, h3.output, h3.size, fun k hk hm => h3.block k hk (by simpa [Res.foot, eq_comm] using hm)⟩ h2 (fun b hb => by
   simp only [Res.foot, Option.mem_toList] at hb ⊢;rcases h4 with h5 | h5
   ·exact .inl (by rw [<- h5]; exact hb)
   ·rw [h5] at hb; cases hb; exact .inr (Nat.le_refl _))
  have hnx := hn id' (by simp [keys]);have hcs' : AV.hasL id' cs = false := by have := (Yx hnx.2 (p := (id, It.row e 1 n cs)) (by simp)).2; simpa [It.has] using this
  obtain ⟨hd, rfl⟩ := Ypi (hS'.row .head);have hag := Ym φ id' hd;have ea : AV.concL (fun i => if i = id' then hd else φ i) (cs ++ Yiw str) = AV.concL φ cs ++ Lib.strCells str := by
   rw [Yy hag _ fun i hi => by rw [List.mem_singleton.1 hi, Yo, List.any_append, <- Yo, <- Yo, hcs', Yyb]; rfl, Ybz, Yml]
  have := kk _ w' hag (by
   simp only [Yh, upd, Nat.beq_refl, Yb, List.cons_append, List.nil_append, List.map_cons, List.map_nil];simp only [It.conc, ea, if_true];exact hS'.dead)
  unfold Oper.wp execOp;simp only [resolve, invoke, builtin, Sem.run_bind, Sem.run_pure, Result.andThen_ok, List.map_toArray, List.map_cons, List.map_nil, e1, e2, hr];simpa [AV.conc, Oper.upon] using this
theorem Y2v {T U e by_ id' : Nat} {zs : List AV} {s x : Operand} {str : ByteArray} (ht : (mkTI P T).slice = some (e, 1, by_, zs)) (hb : strB P U e = true) (hs : At tm s (.v (.slice none 0 0))) (hx : At tm x (.v (.string str))) (h63 : str.size <= 140737488355328) :
  Does P { dst, op := .call { callee := .builtin .append, args := #[s, x], argTypes := #[T, U] }, type, pos, after, guard } tm [] (.sl id' 0 0 str.size) [] [(id', .row e 1 str.size (Yiw str))] :=
 fun φ w0 M R a w K Q ho hn hS kk => by
  obtain ⟨i, hu, hi, hz, hs1, hby⟩ := Ysu hb;have hS1 : St w0 M R w := by simpa [Yb] using hS
  have e1 := ho s (by simp [Op.operands, Call.operands]) _ hs (by simp);have e2 := ho x (by simp [Op.operands, Call.operands]) _ hx (by simp);simp only [AV.conc] at e1 e2;obtain ⟨v', w', hr, h2, h3, h4⟩ := Ypf (n := 0) (xs := []) (v := .slice none 0 0) (ty := type) (Yi ht φ).1.1 hu hi hz hs1 hby ⟨by simp, .inl ⟨rfl, rfl⟩⟩ str (by omega);rw [Nat.zero_add] at h2;have hS' := hS1.add (r := .row v' e 1 str.size (Lib.strCells str)) ⟨h3.os, h3.tape, h3.output, h3.size, fun k hk => h3.block k hk (by simp [Value.ownBlock])⟩ (by rw [List.nil_append] at h2; exact h2) (fun b hb => by
   simp only [Res.foot, Option.mem_toList] at hb;rcases h4 with h5 | h5
   ·rw [h5] at hb; cases hb
   ·rw [h5] at hb; cases hb; exact Nat.le_refl _)
  obtain ⟨hd, rfl⟩ := Ypi (hS'.row .head);have hag := Ym φ id' hd;have ea : AV.concL (fun i => if i = id' then hd else φ i) (Yiw str) = Lib.strCells str := Yml _ _;have := kk _ w' hag (by
   simp only [Yh, Yb, List.cons_append, List.nil_append, List.map_cons, List.map_nil, It.conc, ea, if_true];exact hS')
  unfold Oper.wp execOp;simp only [resolve, invoke, builtin, Sem.run_bind, Sem.run_pure, Result.andThen_ok, List.map_toArray, List.map_cons, List.map_nil, e1, e2, hr];simpa [AV.conc, Oper.upon] using this
theorem Y6v {e sz N id off lo n : Nat} {cs : List AV} {x : Operand} {tys : Array TypeId} (hx : At tm x (.sl id off lo n)) (hN : lo < N) :
  Does P { dst, op := .call { callee := .builtin .unsafeSliceData, args := #[x], argTypes := tys }, type, pos, after, guard } tm [(id, .row e sz N cs)] (.ptr id off) [] [] :=
 fun φ w0 M R a w K Q ho _ hS kk => by
  have hS1 : St w0 M ((It.row e sz N cs).conc φ id :: R) w := hS;have hnil := Ydd (by omega) hS1;have e1 := ho x (by simp [Op.operands, Call.operands]) _ hx (by simp);simp only [AV.conc, hnil, Bool.false_eq_true, if_false] at e1;have hS2 : St w0 M (.row (.slice (some ⟨(φ id).b, 0, none⟩) N (φ id).c) e sz N (AV.concL φ cs) :: R) w := by
   have := hS1;simp only [It.conc, hnil] at this;exact this
  have hcap : N <= (φ id).c := by
   rcases (hS2.row .head).2 with ⟨h0, _⟩ | ⟨g', cap, cur, hv, _, _, hnc, _⟩
   ·cases h0
   ·cases hv; exact hnc
  have hr := Lib.run_unsafeSliceData_row (P := P) (w := w) tys type ⟨(φ id).b, off, none⟩ n ((φ id).c - lo) (by omega);unfold Oper.wp execOp;simp only [resolve, invoke, builtin, Sem.run_bind, Sem.run_pure, Result.andThen_ok, List.map_toArray, List.map_cons, List.map_nil, e1, hr];exact kk φ w (Agree.refl _ _) (by simpa [Yh] using hS)
def nthU : List UInt8 -> Nat -> UInt8
 | [], _ => 0
 | b :: r, n => match n with | 0 => b | n + 1 => nthU r n
def Ywt : List UInt8 := [0, 1, 2, 3, 4, 5, 6, 7, 8, 9, 10, 11, 12, 13, 14, 15, 16, 17, 18, 19, 20, 21, 22, 23, 24, 25, 26, 27, 28, 29, 30, 31, 32, 33, 34, 35, 36, 37, 38, 39, 40, 41, 42, 43, 44, 45, 46, 47, 48, 49, 50, 51, 52, 53, 54, 55, 56, 57, 58, 59, 60, 61, 62, 63, 64, 65, 66, 67, 68, 69, 70, 71, 72, 73, 74, 75, 76, 77, 78, 79, 80, 81, 82, 83, 84, 85, 86, 87, 88, 89, 90, 91, 92, 93, 94, 95, 96, 97, 98, 99, 100, 101, 102, 103, 104, 105, 106, 107, 108, 109, 110, 111, 112, 113, 114, 115, 116, 117, 118, 119, 120, 121, 122, 123, 124, 125, 126, 127, 128, 129, 130, 131, 132, 133, 134, 135, 136, 137, 138, 139, 140, 141, 142, 143, 144, 145, 146, 147, 148, 149, 150, 151, 152, 153, 154, 155, 156, 157, 158, 159, 160, 161, 162, 163, 164, 165, 166, 167, 168, 169, 170, 171, 172, 173, 174, 175, 176, 177, 178, 179, 180, 181, 182, 183, 184, 185, 186, 187, 188, 189, 190, 191, 192, 193, 194, 195, 196, 197, 198, 199, 200, 201, 202, 203, 204, 205, 206, 207, 208, 209, 210, 211, 212, 213, 214, 215, 216, 217, 218, 219, 220, 221, 222, 223, 224, 225, 226, 227, 228, 229, 230, 231, 232, 233, 234, 235, 236, 237, 238, 239, 240, 241, 242, 243, 244, 245, 246, 247, 248, 249, 250, 251, 252, 253, 254, 255]
theorem Yzr : ∀ b : Fin 256, (nthU Ywt b.val).toNat = b.val := by decide +kernel
def Yx0 : List AV -> (List UInt8 -> Prop) -> Prop
 | [], K => K []
 | x :: xs, K => match x with
  | .v (.int .u8 (.ofNat b)) => Yc (Nat.ble b 255) (Yx0 xs fun l => K (nthU Ywt b :: l))
  | _ => Stuck 710
theorem Yn1 : ∀ {xs : List AV} {K : List UInt8 -> Prop}, Yx0 xs K -> ∃ l, K l /\ l.length = xs.length /\ ∀ φ, AV.concL φ xs = l.map fun b => Value.int .u8 b.toNat
 | [], K, h => ⟨[], h, rfl, fun φ => rfl⟩
 | x :: xs, K, h => by
  unfold Yx0 at h
  split at h
  ·rename_i b;obtain ⟨h1, h2⟩ := Ya h;rw [Nat.ble_eq] at h1;obtain ⟨l, h3, h4, h5⟩ := Yn1 h2;refine ⟨_, h3, by simp [h4], fun φ => ?_⟩;have e : (nthU Ywt b).toNat = b := Yzr ⟨b, by omega⟩;simp only [AV.concL, AV.conc, h5 φ, List.map_cons, e];rfl
  ·exact h.elim
theorem Yt8 (w : World) (g n k : Nat) (h : k ≠ g) : (w.freeze ⟨g, 0, none⟩ n).heap[k]? = w.heap[k]? := by
 unfold World.freeze
 split
 ·rfl
 ·simp [Array.getElem?_modify, Ne.symm h]
theorem Ywg (w : World) (g n : Nat) : (w.freeze ⟨g, 0, none⟩ n).heap.size = w.heap.size /\ (w.freeze ⟨g, 0, none⟩ n).os = w.os /\ (w.freeze ⟨g, 0, none⟩ n).tape = w.tape /\ (w.freeze ⟨g, 0, none⟩ n).output = w.output := by
 unfold World.freeze
 split <;> simp
theorem Y75 {e pt it N id : Nat} {cs : List AV} {x y : Operand} {l : List UInt8} (hp : P.underlying pt = some (.pointer e)) (hc : P.cellsOf e = 1) (hx : At tm x (.ptr id 0)) (hy : At tm y (.v (.int .i64 (N : Int)))) (hl : l.length = N) (hN : 0 < N) (hm : N <= maxLen) (hcs : ∀ φ, AV.concL φ cs = l.map fun b => Value.int .u8 b.toNat) :
  Does P { dst, op := .call { callee := .builtin .unsafeString, args := #[x, y], argTypes := #[pt, it] }, type, pos, after, guard } tm [(id, .row e 1 N cs)] (.v (.string ⟨l.toArray⟩)) [(id, .dead)] [] :=
 fun φ w0 M R a w K Q ho _ hS kk => by
  have hS1 : St w0 M ((It.row e 1 N cs).conc φ id :: R) w := hS;have hnil := Ydd hN hS1;have e1 := ho x (by simp [Op.operands, Call.operands]) _ hx (by simp);have e2 := ho y (by simp [Op.operands, Call.operands]) _ hy (by simp);simp only [AV.conc] at e1 e2;have hS2 : St w0 M (.row (.slice (some ⟨(φ id).b, 0, none⟩) N (φ id).c) e 1 N (AV.concL φ cs) :: R) w := by
   have := hS1;simp only [It.conc, hnil] at this;exact this
  have hrow := hS2.row .head;obtain ⟨cap, cur, hg, hnc, hcm, hsz⟩ : ∃ cap cur, w.heap[(φ id).b]? = some (.cells cur e (0, 0)) /\ N <= cap /\ cap <= maxLen /\ cur.size = cap * 1 := by
   rcases hrow.2 with ⟨h0, _⟩ | ⟨g', cap, cur, hv, _, hg, hnc, hcm, hsz, _⟩
   ·cases h0
   ·cases hv; exact ⟨_, cur, hg, hnc, hcm, hsz⟩
  have hr := Lib.run_unsafeString_row (P := P) w pt it type e hp hc (φ id).b cur.size (by simp [World.shape?, hg]) l (by intro e; subst e; simp at hl; omega) (by omega) (by simp only [maxLen] at hm; omega) (fun j b hb => by
   refine hrow.cells (g := (φ id).b) rfl j _ ?_;rw [hcs φ, List.getElem?_map, hb];rfl)
  rw [hl] at hr;obtain ⟨f1, f2, f3, f4⟩ := Ywg w (φ id).b N;have hS3 := hS2.upd (w' := w.freeze ⟨(φ id).b, 0, none⟩ N) (r' := .row (.slice none 0 0) 0 0 0 []) .head ⟨f2, f3, f4, Nat.le_of_eq f1.symm, fun k hk hm => Yt8 w _ _ k fun e => hm (by simp [Res.foot, Value.ownBlock, e])⟩ ⟨by simp, .inl ⟨rfl, rfl⟩⟩ (fun b hb => by simp [Res.foot, Value.ownBlock] at hb);unfold Oper.wp execOp;simp only [resolve, invoke, builtin, Sem.run_bind, Sem.run_pure, Result.andThen_ok, List.map_toArray, List.map_cons, List.map_nil, e1, e2, hr];exact kk φ _ (Agree.refl _ _) (by simpa [Yh, upd, Nat.beq_refl, Yb, It.conc] using hS3)
end
def Ywj (P : Program) (g : FuncId) (vs : List AV) (K : AV -> Prop) : Prop :=
 match P.funcs[g]? with
 | none => Stuck 700
 | some fn => match (match fn.name == "runtime.NumGoroutine" with | true => true | false => !(fn.body.isNone)) with
  | true => Stuck 701
  | false => match Extern.findNext fn with
   | some _ => Stuck 702
   | none => match Extern.find fn with
    | none => Stuck 703
    | some e => Ym2 vs fun l => Yrb P (e l.toArray) fun v => Yt9 v fun v => K (.v v)
def Y7w (P : Program) (g : FuncId) : Bool := match P.funcs[g]? with | some fn => fn.body.isNone | none => false
theorem Yue {P : Program} {g : FuncId} {vs : List AV} {K : AV -> Prop} (h : Ywj P g vs K) : ∃ fn e v, K (.v v) /\ P.funcs[g]? = some fn /\ (fn.name == "runtime.NumGoroutine") = false /\ fn.body.isNone = true /\ Extern.findNext fn = none /\ Extern.find fn = some e /\ ∀ φ w, (e (AV.concL φ vs).toArray).run P w = .ok v w := by
 unfold Ywj at h
 split at h
 ·exact h.elim
 ·rename_i fn hfn
  split at h
  ·exact h.elim
  ·rename_i hn;have hn1 : (fn.name == "runtime.NumGoroutine") = false := by
    cases hq : fn.name == "runtime.NumGoroutine" with
    | false => rfl
    | true => rw [hq] at hn; cases hn
   have hn2 : fn.body.isNone = true := by
    rw [hn1] at hn;simpa using hn
   split at h
   ·exact h.elim
   ·rename_i h3
    split at h
    ·exact h.elim
    ·rename_i e h4;obtain ⟨l, h5, h6⟩ := Ygp h;obtain ⟨v, h7, h8⟩ := Yd6 h5;exact ⟨fn, e, v, Ykl.1 h7, hfn, hn1, hn2, h3, h4, fun φ w => by rw [h6 φ]; exact h8 w⟩
theorem Yze {fn : Func} (h : fn.name = "internal/abi.NoEscape") : Extern.find fn = some Extern.AbiNoEscape.same := by
 unfold Extern.find;rw [h]
 kernel_rfl
def Y08 (P : Program) (g : FuncId) : Bool := match P.funcs[g]? with
 | none => false
 | some fn => match fn.name == "internal/abi.NoEscape" with
  | false => false
  | true => match fn.body.isNone with
   | false => false
   | true => (Extern.findNext fn).isNone
theorem Yy1 {P : Program} {g : FuncId} (h : Y08 P g = true) : ∃ fn, P.funcs[g]? = some fn /\ (fn.name == "runtime.NumGoroutine") = false /\ fn.body.isNone = true /\ Extern.findNext fn = none /\ Extern.find fn = some Extern.AbiNoEscape.same := by
 unfold Y08 at h
 split at h
 ·cases h
 ·rename_i fn hfn
  split at h
  ·cases h
  ·rename_i h1;have h1 : fn.name = "internal/abi.NoEscape" := by simpa using h1
   split at h
   ·cases h
   ·rename_i h2;exact ⟨fn, hfn, by rw [h1]; decide, h2, by simpa using h, Yze h1⟩
noncomputable def Yu4 (c : Cx) (o : Oper) (tm : List AV) (hp : Heap) (k kp : KE) : Prop :=
 match o.op with
 | .convert S D x => evK tm x fun v => (match v with
  | .ptr i a => Yu hp i fun it => (match it with
   | .blk T cs => Yc (Y44 c.P S D T cs.length a) (k (.ptr i a) [(i, .blk T cs)] [] [])
   | _ => Stuck 704)
  | _ => Yes c o tm hp k kp)
 | .binOp op T x y T2 => (match op with
  | .neq => evK tm x fun u => evK tm y fun v => (match u, v with
   | .ptr i a, .ptr j b => (match Nat.beq i j && Nat.beq a b with
    | true => (match c.P.underlying T with
     | some (.pointer te) => (match c.P.info? te with | some _ => k (.v (.bool false)) [] [] [] | none => Stuck 705)
     | _ => Stuck 706)
    | false => Yes c o tm hp k kp)
   | _, _ => Yes c o tm hp k kp)
  | .eql => evK tm x fun u => evK tm y fun v => (match u, v with
   | .ptr i a, .v (.pointer none) => (match c.P.underlying T with
     | some (.pointer te) => k (.v (.bool false)) [] [] []
     | _ => Stuck 707)
   | _, _ => Yes c o tm hp k kp)
  | _ => Yes c o tm hp k kp)
 | .call cl => (match cl.callee with
  | .value f => (match f with
   | .func g => (match Y7w c.P g with
    | true => evsK tm cl.args.toList fun vs => (match vs with
     | [.ptr i a] => Yc (Y08 c.P g) (k (.ptr i a) [] [] [])
     | vs => Ywj c.P g vs fun v => k v [] [] [])
    | false => Yes c o tm hp k kp)
   | _ => Yes c o tm hp k kp)
  | .builtin b => (match b, cl.args.toList with
   | .append, [s, x] => evK tm x fun xv => (match xv with
    | .v (.string str) => evK tm s fun sv => (match cl.argTypes.toList with
     | [T, U] => tiK c.tt T fun ti => (match ti.slice with
      | none => Stuck 711
      | some (e, sz, by_, zs) => Yc (Nat.beq sz 1 && strB c.P U e) (match sv with
       | .v (.slice none 0 0) => Yc (Nat.ble str.size 16777216) (Y3 str.size fun m => k (.sl (3 * o.dst.getD 0) 0 0 m) [] [] [(3 * o.dst.getD 0, .row e 1 m (Yiw str))])
       | .sl i off lo n => Yu hp i fun it => (match it with
        | .row e' sz' n' cs => Yc (Nat.beq e' e && Nat.beq sz' 1 && Nat.beq n' n && Nat.beq off 0 && Nat.beq lo 0 && Nat.ble (n + str.size) 16777216) (appK cs (Yiw str) fun cs' => Y3 (n + str.size) fun m => k (.sl (3 * o.dst.getD 0) 0 0 m) [(i, .row e' sz' n' cs)] [(i, .dead)] [(3 * o.dst.getD 0, .row e 1 m cs')])
        | _ => Stuck 712)
       | _ => Stuck 713))
     | _ => Stuck 714)
    | _ => Yes c o tm hp k kp)
   | .unsafeSliceData, [x] => evK tm x fun xv => (match xv with
    | .sl i off lo n => Yu hp i fun it => (match it with
     | .row e sz N cs => Yc (Nat.ble (lo + 1) N) (k (.ptr i off) [(i, .row e sz N cs)] [] [])
     | _ => Stuck 715)
    | _ => Stuck 716)
   | .unsafeString, [x, y] => evK tm x fun xv => evK tm y fun yv => (match xv, yv with
    | .ptr i 0, .v (.int .i64 (.ofNat n)) => Yu hp i fun it => (match it, cl.argTypes.toList with
     | .row e sz N cs, [pt, it'] => (match c.P.underlying pt with
      | some (.pointer e') => Yc (Nat.beq e' e && Nat.beq sz 1 && Nat.beq n N && Nat.ble 1 N && Nat.ble N 16777216 && lenB cs N && Nat.beq (c.P.cellsOf e) 1) (Yx0 cs fun l => k (.v (.string ⟨l.toArray⟩)) [(i, .row e sz N cs)] [(i, .dead)] [])
      | _ => Stuck 717)
     | _, _ => Stuck 718)
    | _, _ => Stuck 719)
   | _, _ => Yes c o tm hp k kp)
  | _ => Yes c o tm hp k kp)
 | _ => Yes c o tm hp k kp
theorem Yh6 {c : Cx} {o : Oper} {tm : List AV} {hp : Heap} {k kp : KE} (hc : HandOk c) (h : Yu4 c o tm hp k kp) : OpRes c o tm hp k kp := by
 have old : Yes c o tm hp k kp -> OpRes c o tm hp k kp := fun h => Ysa hc h;obtain ⟨dst, op, type, pos, after, guard⟩ := o;unfold Yu4 at h
 split at h
 ·rename_i S D x hop;dsimp only at hop; subst hop;obtain ⟨v, hj, hx, h1⟩ := Yd h
  split at h1
  ·obtain ⟨it, h4, h5⟩ := Yf h1
   split at h5
   ·obtain ⟨h6, h7⟩ := Ya h5;exact .inl ⟨_, _, _, _, h7, .one h4, Ys, Y8b hx h6⟩
   ·exact h5.elim
  ·exact old h1
 ·rename_i op T x y T2 hop;dsimp only at hop; subst hop
  split at h
  ·obtain ⟨u, hju, hx, h1⟩ := Yd h;obtain ⟨v, hjv, hy, h2⟩ := Yd h1
   split at h2
   ·split at h2
    ·rename_i hb;simp only [Bool.and_eq_true, Ye] at hb;obtain ⟨rfl, rfl⟩ := hb
     split at h2
     ·rename_i te hp
      split at h2
      ·rename_i j hte;exact .inl ⟨_, _, _, _, h2, .nil _, Ys, Y76 hp hte hx hy⟩
      ·exact h2.elim
     ·exact h2.elim
    ·exact old h2
   ·exact old h2
  ·obtain ⟨u, hju, hx, h1⟩ := Yd h;obtain ⟨v, hjv, hy, h2⟩ := Yd h1
   split at h2
   ·split at h2
    ·rename_i te hp;exact .inl ⟨_, _, _, _, h2, .nil _, Ys, Y79 hp hx hy⟩
    ·exact h2.elim
   ·exact old h2
  ·exact old h
 ·rename_i cl hop;dsimp only at hop; subst hop;obtain ⟨callee, ⟨args⟩, ⟨tys⟩⟩ := cl;dsimp only at h
  split at h
  ·split at h
   ·rename_i g
    split at h
    ·obtain ⟨vs, h1, h2⟩ := Yfj h
     split at h2
     ·obtain ⟨h3, h4⟩ := Ya h2;obtain ⟨fn, k2, k3, k4, k5, k6⟩ := Yy1 h3;exact .inl ⟨_, _, _, _, h4, .nil _, Ys, Yxz (fv := .fn (.func g) [] []) k2 k3 k4 k5 k6 rfl rfl (fun φ => rfl) h1 (fun φ w => rfl)⟩
     obtain ⟨fn, e, v, k1, k2, k3, k4, k5, k6, k7⟩ := Yue h2;exact .inl ⟨_, _, _, _, k1, .nil _, Ys, Yxz (fv := .fn (.func g) [] []) k2 k3 k4 k5 k6 rfl rfl (fun φ => rfl) h1 k7⟩
    ·exact old h
   ·exact old h
  ·split at h
   ·rename_i s x;obtain ⟨xv, jx, hx, h1⟩ := Yd h
    split at h1
    ·rename_i str;obtain ⟨sv, js, hs, h2⟩ := Yd h1
     split at h2
     ·rename_i T U;have h3 := Yj hc.tab h2
      split at h3
      ·exact h3.elim
      ·rename_i e sz by_ zs hq;obtain ⟨h4, h5⟩ := Ya h3;simp only [Bool.and_eq_true, Ye] at h4;obtain ⟨rfl, hb⟩ := h4
       split at h5
       ·obtain ⟨h6, h7⟩ := Ya h5;rw [Nat.ble_eq] at h6;exact .inl ⟨_, _, _, _, Yk.1 h7, .nil _, Ys, Y2v hq hb hs hx (by omega)⟩
       ·rename_i i off lo n;obtain ⟨it, h6, h7⟩ := Yf h5
        split at h7
        ·rename_i e' sz' n' cs;obtain ⟨h8, h9⟩ := Ya h7;simp only [Bool.and_eq_true, Ye, Nat.ble_eq] at h8;obtain ⟨⟨⟨⟨⟨rfl, rfl⟩, rfl⟩, rfl⟩, rfl⟩, hb2⟩ := h8;exact .inl ⟨_, _, _, _, Yk.1 (Yct.1 h9), .one h6, (fun i hi => by simpa [keys] using hi), Y42 hq hb hs hx (by omega)⟩
        ·exact h7.elim
       ·exact h5.elim
     ·exact h2.elim
    ·exact old h1
   ·rename_i x;obtain ⟨xv, jx, hx, h1⟩ := Yd h
    split at h1
    ·obtain ⟨it, h6, h7⟩ := Yf h1
     split at h7
     ·obtain ⟨h8, h9⟩ := Ya h7;rw [Nat.ble_eq] at h8;exact .inl ⟨_, _, _, _, h9, .one h6, Ys, Y6v hx (by omega)⟩
     ·exact h7.elim
    ·exact h1.elim
   ·rename_i x y;obtain ⟨xv, jx, hx, h1⟩ := Yd h;obtain ⟨yv, jy, hy, h2⟩ := Yd h1
    split at h2
    ·rename_i i n;obtain ⟨it, h6, h7⟩ := Yf h2
     split at h7
     ·rename_i e sz N cs _ pt it'
      split at h7
      ·rename_i e' hp;obtain ⟨h8, h9⟩ := Ya h7;simp only [Bool.and_eq_true, Ye, Nat.ble_eq] at h8;obtain ⟨⟨⟨⟨⟨⟨rfl, rfl⟩, rfl⟩, hN⟩, hm⟩, hlen⟩, hc1⟩ := h8;obtain ⟨l, h10, h11, h12⟩ := Yn1 h9;exact .inl ⟨_, _, _, _, h10, .one h6, (fun i hi => by simpa [keys] using hi), Y75 hp hc1 hx hy (by rw [h11]; exact Y2 hlen) (by omega) (by simp only [maxLen]; omega) h12⟩
      ·exact h7.elim
     ·exact h7.elim
    ·exact h2.elim
   ·exact old h
  ·exact old h
 ·exact old h
end Go.Proofs.YtladoaeefkpdiaaGreatDoor
namespace Go.Proofs.YtladoaeefkpdiaaGreatDoor
open Go.RowKit
variable [InW]
attribute [local irreducible] Go.Oper.wp
def wF (r : Option Nat) : Fence := { Fence.wide with round := r }
theorem Yzq {r : Option Nat} {n : Nat} {P : Program} {f : FuncId} {args : Array Value} {w : World} {R : Ending -> World -> Prop} : CallsIn (wF r) n P f args w R ↔ Calls P f args w R := callsIn_wide (n := n)
theorem Y0n {r : Option Nat} {n : Nat} {P : Program} {row : String} {args : Array Value} {w : World} {R : Value -> World -> Prop} (h : Rows P row args w R) : RowsIn (wF r) n P row args w R := fun c cs _ =>
 let ⟨v, w', h1, h2⟩ := h c cs; ⟨v, w', h1, stepsIn_wide.2 h2⟩
theorem Yqp {r : Option Nat} {n : Nat} : (wF r).depth.isSome = true -> 1 <= n := fun h => by simp [wF, Fence.wide] at h
def opW (P : Program) (o : Oper) (a : Act) (w : World) (K : Act -> World -> Prop) (Q : Exit -> Act -> World -> Prop) : Prop := ∀ r, o.wpIn (wF r) 0 P a w K Q
theorem Y5l {P : Program} {o : Oper} {a : Act} {w : World} {K : Act -> World -> Prop} {Q : Exit -> Act -> World -> Prop} (hd : ∀ c, o.op ≠ .defer c) (h : o.wp P a w K Q) : opW P o a w K Q := fun r => by
 refine ⟨fun _ _ => trivial, ?_⟩;rw [Oper.semAt_eq _ _ _ hd];unfold Oper.wp at h;generalize (execOp a.eval o).run P w = x at h;cases x with
 | ok x w' =>
  cases x <;> simp only [Oper.upon, Oper.uponIn] at h ⊢
  case value v => exact h
  case skip => exact h
  case defer d => exact h
  case enter f args => exact ⟨Yqp, Yzq.2 h⟩
  case row row args => exact ⟨Yqp, Y0n h⟩
 | halt x w' => cases x <;> simp only [Oper.upon, Oper.uponIn] at h ⊢; exact h
def DoesW (P : Program) (o : Oper) (tm : List AV) (hs : Heap) (val : AV) (us nw : Heap) : Prop :=
 ∀ (φ : Phi) (w0 : World) (M : List Nat) (R : RL) (a : Act) (w : World) (K : Act -> World -> Prop) (Q : Exit -> Act -> World -> Prop),
  OpsAt φ tm a o.op -> NewFor (keys nw) tm hs -> St w0 M (Yb φ hs ++ R) w ->
  (∀ φ' w', Agree (keys nw) φ φ' -> St w0 M (Yb φ' (Yh hs us ++ nw) ++ R) w' -> K (a.put o.dst (val.conc φ')) w') -> opW P o a w K Q
def DoesPW (P : Program) (o : Oper) (tm : List AV) (hs : Heap) (val : AV) (us nw : Heap) : Prop :=
 ∀ (φ : Phi) (w0 : World) (M : List Nat) (R : RL) (a : Act) (w : World) (K : Act -> World -> Prop) (Q : Exit -> Act -> World -> Prop),
  OpsAt φ tm a o.op -> NewFor (keys nw) tm hs -> St w0 M (Yb φ hs ++ R) w ->
  (∀ φ' w', Agree (keys nw) φ φ' -> St w0 M (Yb φ' (Yh hs us ++ nw) ++ R) w' -> Q (.panic [{ v := val.conc φ', recovered := false }]) a w') -> opW P o a w K Q
theorem Does.toW {P : Program} {o : Oper} {tm : List AV} {hs us nw : Heap} {val : AV} (hd : ∀ c, o.op ≠ .defer c) (h : Does P o tm hs val us nw) : DoesW P o tm hs val us nw :=
 fun φ w0 M R a w K Q h1 h2 h3 h4 => Y5l hd (h φ w0 M R a w K Q h1 h2 h3 h4)
theorem DoesP.toW {P : Program} {o : Oper} {tm : List AV} {hs us nw : Heap} {val : AV} (hd : ∀ c, o.op ≠ .defer c) (h : DoesP P o tm hs val us nw) : DoesPW P o tm hs val us nw :=
 fun φ w0 M R a w K Q h1 h2 h3 h4 => Y5l hd (h φ w0 M R a w K Q h1 h2 h3 h4)
theorem Yil {P : Program} {o : Oper} {tm : List AV} {hp hs us nw : Heap} {val : AV} (hd : DoesW P o tm hs val us nw) (hpart : PartOf hs hp) (hu : ∀ i ∈ keys us, i ∈ keys hs) (hB : NewFor (keys nw) tm hp /\ (keys nw).Nodup /\ ∀ i ∈ keys nw, i % 3 ≠ 1)
  {φ0 φ : Phi} {w0 : World} {M : List Nat} {R : RL} {a : Act} {w : World} (h : RepS φ0 φ w0 M R tm hp a w) {K : Act -> World -> Prop} {Q : Exit -> Act -> World -> Prop}
  (kk : ∀ φ' w', RepS φ0 φ' w0 M R (putA tm o.dst val) (Ybe (Yh hp us) nw) (a.put o.dst (val.conc φ')) w' -> K (a.put o.dst (val.conc φ')) w') : opW P o a w K Q := by
 have hB' := hB;obtain ⟨b1, b2, b3⟩ := hB;have hS : St w0 M (Yb φ hs ++ (Yb φ (Yb0 hs hp) ++ R)) w := by
  have := h.st.perm ((Yv (hpart.perm h.nd)).append (List.Perm.refl R));rwa [Yn, List.append_assoc] at this
 refine hd φ w0 M _ a w K Q (h.tmps.ops _) (fun i hi => ⟨(b1 i hi).1, Ye1 fun p hp' => ?_⟩) hS fun φ' w' hag hS' => kk φ' w' (h.new_heap hpart hu hB' hag hS' _ _);exact Yx (b1 i hi).2 (Yba (hpart.all p hp'))
theorem Y1n {h : Heap} {i : Nat} (hm : i ∈ keys h) : ∃ x, look h i = some x := by
 induction h with
 | nil => simp [keys] at hm
 | cons p h ih =>
  rw [Yt]
  split
  ·exact ⟨_, rfl⟩
  ·rename_i hne;simp only [keys, List.map_cons, List.mem_cons] at hm;rcases hm with e | hm
   ·exact absurd e.symm hne
   ·exact ih hm
def Yx4 (P : Program) (L : LI) (i : Nat) (args : List AV) (hs : Heap) (val : AV) (us nw : Heap) : Prop :=
 ∀ (φ : Phi) (w0 : World) (M : List Nat) (R : RL) (w : World), NewFor (keys nw) args hs -> St w0 M (Yb φ hs ++ R) w ->
  RoundIn Fence.wide 0 P (φ i).b (φ i).fn (AV.concL φ args).toArray L.assign L.body w fun e w' => ∃ φ', Agree (keys nw) φ φ' /\ e = .returned (val.conc φ') /\ St w0 M (Yb φ' (Yh hs us ++ nw) ++ R) w'
structure HandOkR (c : Cx) : Prop extends HandOk c where
 round : ∀ L i args hp d k, c.roundH L i args hp d k -> ∃ val hs us nw, k val hs us nw /\ PartOf hs hp /\ (∀ i ∈ keys us, i ∈ keys hs) /\ i ∈ keys hs /\ Yx4 c.P L i args hs val us nw
def Y5u (o : Oper) : Option (Operand × List Operand) := match o.op with | .call { callee := .value f, args := ⟨l⟩, .. } => some (f, l) | _ => none
def Y5q (o : Oper) : Bool := match o.op with | .defer _ => true | _ => false
def Ye9 (cs : List AV) : List (Nat × AV) -> List AV
 | [] => cs
 | p :: ps => Ye9 (cs.set p.1 p.2) ps
def lpK (it : It) (K : LI -> List AV -> Prop) : Prop := match it with | .lp L (d :: cs) => K L cs | _ => Stuck 90
def ylK (fv : AV) (K : Nat -> Prop) (K' : Prop) : Prop := match fv with | .yl i => K i | _ => K'
def Y3e (c : Cx) (o : Oper) (tm : List AV) (hp : Heap) (k kp : KE) : Prop :=
 match Y5u o with
 | none => (match Y5q o with | true => Stuck 92 | false => Yu4 c o tm hp k kp)
 | some (f, args) => evK tm f fun fv => ylK fv (fun i => evsK tm args fun vs => Yu hp i fun it => lpK it fun L cs => Yc (Nat.beq vs.length L.ps.size) (c.roundH L i (Ye9 cs (L.ps.toList.zip vs)) hp (o.dst.getD 0) k)) (Yu4 c o tm hp k kp)
theorem Y2x (φ : Phi) (cs : List AV) (n : Nat) (v : AV) : AV.concL φ (cs.set n v) = (AV.concL φ cs).set n (v.conc φ) := by rw [Yw, Yw, List.map_set]
theorem Ymq (φ : Phi) : ∀ (ps : List Nat) (vs cs : List AV), (AV.concL φ (Ye9 cs (ps.zip vs))).toArray = (ps.zip (AV.concL φ vs)).foldl (fun (t : Array Value) (p : Nat × Value) => t.setIfInBounds p.1 p.2) (AV.concL φ cs).toArray
 | [], vs, cs => by simp [Ye9]
 | _ :: _, [], cs => by simp [Ye9, AV.concL]
 | p :: ps, v :: vs, cs => by
  simp only [List.zip_cons_cons, Ye9, AV.concL, List.foldl_cons];rw [Ymq φ ps vs, Y2x];simp
theorem Yo9 {i : Nat} : ∀ (ps : List Nat) (vs cs : List AV), AV.hasL i vs = false -> AV.hasL i cs = false -> AV.hasL i (Ye9 cs (ps.zip vs)) = false
 | [], vs, cs, _, h => by simpa [Ye9] using h
 | _ :: _, [], cs, _, h => by simpa [Ye9] using h
 | p :: ps, v :: vs, cs, h1, h2 => by
  simp only [AV.hasL, Bool.or_eq_false_iff] at h1;simp only [List.zip_cons_cons, Ye9];refine Yo9 ps vs _ h1.2 ?_;rw [Yo, List.any_eq_false] at h2 ⊢;intro x hx;rcases List.mem_or_eq_of_mem_set hx with h | rfl
  ·exact h2 x h
  ·simpa using h1.1
section
variable {P : Program} {tm : List AV} {dst : Option Tmp} {type : TypeId} {pos : String} {after : Array Edge} {guard : Option (Nat × Bool)}
theorem Y6u {f : Operand} {args : List Operand} {tys : Array TypeId} {i : Nat} {L : LI} {x : AV} {cs vs : List AV} {hs : Heap} {val : AV} {us nw : Heap} (hf : At tm f (.yl i)) (ha : Ats tm args vs) (hl : look hs i = some (.lp L (x :: cs))) (hn : vs.length = L.ps.size)
  (hc : Yx4 P L i (Ye9 cs (L.ps.toList.zip vs)) hs val us nw) :
  DoesW P { dst, op := .call { callee := .value f, args := args.toArray, argTypes := tys }, type, pos, after, guard } tm hs val us nw :=
 fun φ w0 M R a w K Q ho hnew hS kk r => by
  have e1 := ho f (by simp [Op.operands, Call.operands]) _ hf (by simp);have e2 := ha.eval (φ := φ) (a := a) fun x hx v hv hj => ho x (by simp [Op.operands, Call.operands, hx]) v hv hj;refine ⟨fun _ _ => trivial, ?_⟩;rw [Oper.semAt_eq _ _ _ (fun c => by simp)];have hb : w.heap[(φ i).b]? = some (L.obj (φ i).fn (AV.concL φ (x :: cs))) := by
   have hm : Res.blk (φ i).b (L.obj (φ i).fn (AV.concL φ (x :: cs))) ∈ Yb φ hs ++ R := List.mem_append_left _ (List.mem_map.2 ⟨_, Yba hl, rfl⟩);exact hS.has _ hm
  have hl2 : (AV.concL φ vs).length = L.ps.size := by rw [Yg, hn]
  have hy := run_yield (P := P) (args := (AV.concL φ vs).toArray) hb (by simpa using hl2);have e3 : (args.toArray).map a.eval = (AV.concL φ vs).toArray := by rw [<- e2]; simp
  have hrun : (execOp a.eval { dst, op := .call { callee := .value f, args := args.toArray, argTypes := tys }, type, pos, after, guard }).run P w = .ok (.round (φ i).b (φ i).fn (AV.concL φ (Ye9 cs (L.ps.toList.zip vs))).toArray L.assign L.body) w := by
   simp only [execOp, resolve, e1, AV.conc, Deferred.ofValue, Sem.run_bind, Sem.run_pure, Result.andThen_ok, invoke, e3, Array.empty_append, Array.append_empty, hy]
   congr 2
   rw [Ymq, <- Array.foldl_toList];simp [AV.concL, Array.toList_zip]
  rw [hrun];refine ⟨Yqp, ?_⟩;have hnw : NewFor (keys nw) (Ye9 cs (L.ps.toList.zip vs)) hs := fun j hj => by
   obtain ⟨h1, h2⟩ := hnew j hj;have h3 : AV.hasL j (x :: cs) = false := (Yx h2 (Yba hl)).2;simp only [AV.hasL, Bool.or_eq_false_iff] at h3;exact ⟨Yo9 _ _ _ (ha.new h1) h3.2, h2⟩
  refine RoundIn.mono (hc φ w0 M R w hnw hS) fun e w' ⟨φ', hag, he, hS'⟩ => ?_;subst he;exact kk φ' w' hag hS'
end
def Y5x (c : Cx) (o : Oper) (tm : List AV) (hp : Heap) (k kp : KE) : Prop :=
 (∃ val hs us nw, k val hs us nw /\ PartOf hs hp /\ (∀ i ∈ keys us, i ∈ keys hs) /\ DoesW c.P o tm hs val us nw) \/
 (∃ val hs us nw, kp val hs us nw /\ PartOf hs hp /\ (∀ i ∈ keys us, i ∈ keys hs) /\ DoesPW c.P o tm hs val us nw)
theorem Yl0 {c : Cx} {o : Oper} {tm : List AV} {hp : Heap} {k kp : KE} (hc : HandOkR c) (h : Y3e c o tm hp k kp) : Y5x c o tm hp k kp := by
 have plain : (∀ c, o.op ≠ .defer c) -> Yu4 c o tm hp k kp -> Y5x c o tm hp k kp := fun hd h => by
  rcases Yh6 hc.toHandOk h with ⟨val, hs, us, nw, h1, h2, h3, h4⟩ | ⟨val, hs, us, nw, h1, h2, h3, h4⟩
  ·exact .inl ⟨val, hs, us, nw, h1, h2, h3, h4.toW hd⟩
  ·exact .inr ⟨val, hs, us, nw, h1, h2, h3, h4.toW hd⟩
 unfold Y3e at h
 split at h
 ·split at h
  ·exact h.elim
  ·rename_i hb;exact plain (fun c hc => by simp [Y5q, hc] at hb) h
 ·rename_i f args hcall;obtain ⟨dst, op, type, pos, after, guard⟩ := o;unfold Y5u at hcall
  split at hcall
  ·rename_i f' l tys hop;simp only [Option.some.injEq, Prod.mk.injEq] at hcall;obtain ⟨rfl, rfl⟩ := hcall;dsimp only at hop;subst hop;obtain ⟨fv, hj, hf, h1⟩ := Yd h;unfold ylK at h1
   split at h1
   ·rename_i i;obtain ⟨vs, h2, h3⟩ := Yfj h1;obtain ⟨it, h4, h5⟩ := Yf h3;unfold lpK at h5
    split at h5
    ·rename_i L d cs;obtain ⟨h6, h7⟩ := Ya h5;obtain ⟨val, hs, us, nw, a1, a2, a3, a4, a5⟩ := hc.round _ _ _ _ _ _ h7;obtain ⟨it', hit⟩ := Y1n a4;have : it' = .lp L (d :: cs) := by
      have := a2.all _ (Yba hit);rw [h4] at this;exact (Option.some.inj this).symm
     subst this;exact .inl ⟨val, hs, us, nw, a1, a2, a3, Y6u hf h2 hit (Ye.1 h6) a5⟩
    ·exact h5.elim
   ·exact plain (fun c => by simp) h1
  ·cases hcall
end Go.Proofs.YtladoaeefkpdiaaGreatDoor
namespace Go.Proofs.YtladoaeefkpdiaaGreatDoor
open Go.RowKit
variable [InW]
attribute [local irreducible] Go.Oper.wp
def Yp9 (ol : List Oper) (o : Oper) (tm : List AV) (run skip : Prop) : Prop :=
 match o.guard with
 | none => run
 | some (j, want) => match Yru ol j with
  | none => Stuck 42
  | some d => getK tm d fun v => match v with
   | .v (.bool b) => (match want with | true => vcIf b run skip | false => vcIf b skip run)
   | .sb b => (match want with | true => Vif b run skip | false => Vif b skip run)
   | .v (.tuple _) => skip
   | _ => Stuck 43
theorem Yv0 {φ : Phi} {tm : List AV} {a : Act} (h : RepT φ tm a) {d : Nat} {v : AV} (hv : tm[d]? = some v) (hj : v.rd = true) : nthO a.tmps.toList d = some (v.conc φ) := by
 rw [Ygv];have := h.slot d v hv hj;simp [List.getD_eq_getElem?_getD, this]
def WantA (ol : List Oper) (o : Oper) (tm : List AV) (b : Bool) : Prop := ∀ (φ : Phi) (a : Act), (∀ t ∈ o.looksAt ol.toArray, ∀ v : AV, tm[t]? = some v -> v.rd = true -> nthO a.tmps.toList t = some (v.conc φ)) -> Region.wanted o (yielded ol.toArray a.tmps) = b
theorem Yf0 {ol : List Oper} {o : Oper} {j d : Nat} {b : Bool} (hg : o.guard = some (j, b)) (hd : Yru ol j = some d) : d ∈ o.looksAt ol.toArray := by
 rw [Yxx] at hd;simp [Oper.looksAt, hg, hd]
theorem Yf5 {ol : List Oper} {o : Oper} {tm : List AV} {run skip : Prop} (h : Yp9 ol o tm run skip) : (WantA ol o tm true /\ run) \/ (WantA ol o tm false /\ skip) := by
 obtain ⟨dst, op, type, pos, after, guard⟩ := o;unfold Yp9 at h;cases guard with
 | none => exact .inl ⟨fun φ a _ => rfl, h⟩
 | some jw =>
  obtain ⟨j, want⟩ := jw;dsimp only at h
  split at h
  ·exact h.elim
  ·rename_i d hd;obtain ⟨v, hv, h1⟩ := Ybh h
   split at h1
   ·rename_i b;have key : ∀ r, (b == want) = r -> WantA ol { dst, op, type, pos, after, guard := some (j, want) } tm r := fun r hr φ a hs =>
     Yr8 hd (hs d (Yf0 rfl hd) _ hv (by simp)) hr
    cases want with
    | true =>
     rcases Ye7 h1 with ⟨rfl, h2⟩ | ⟨rfl, h2⟩
     ·exact .inl ⟨key true rfl, h2⟩
     ·exact .inr ⟨key false rfl, h2⟩
    | false =>
     rcases Ye7 h1 with ⟨rfl, h2⟩ | ⟨rfl, h2⟩
     ·exact .inr ⟨key false rfl, h2⟩
     ·exact .inl ⟨key true rfl, h2⟩
   ·rename_i b;have key : ∀ r, (b == want) = r -> WantA ol { dst, op, type, pos, after, guard := some (j, want) } tm r := fun r hr φ a hs =>
     Yr8 hd (hs d (Yf0 rfl hd) _ hv (by simp)) hr
    cases want with
    | true =>
     rcases Vif.spec h1 with ⟨rfl, h2⟩ | ⟨rfl, h2⟩
     ·exact .inl ⟨key true rfl, h2⟩
     ·exact .inr ⟨key false rfl, h2⟩
    | false =>
     rcases Vif.spec h1 with ⟨rfl, h2⟩ | ⟨rfl, h2⟩
     ·exact .inr ⟨key false rfl, h2⟩
     ·exact .inl ⟨key true rfl, h2⟩
   ·exact .inr ⟨fun φ a hs => Yu3 hd (hs d (Yf0 rfl hd) _ hv (by simp)), h1⟩
   ·exact h1.elim
theorem WantA.at {ol : List Oper} {o : Oper} {tm : List AV} {b : Bool} (h : WantA ol o tm b) {φ : Phi} {a : Act} (hr : RepT φ tm a) : Region.wanted o (yielded ol.toArray a.tmps) = b :=
 h φ a fun t _ v hv hj => Yv0 hr hv hj
def Yf9 (F : Fence) (P : Program) (ops : Array Oper) (Q : Exit -> Act -> World -> Prop) : List Oper -> Act -> World -> Prop
 | [], a, w => Q .normal a w
 | o :: rest, a, w => if Region.wanted o (yielded ops a.tmps) then o.wpIn F 0 P a w (Yf9 F P ops Q rest) Q else Yf9 F P ops Q rest (a.put o.dst undef) w
theorem Ylw {F : Fence} (hF : ∀ f, F.fn f) {P : Program} {ops : Array Oper} {Q : Exit -> Act -> World -> Prop} : ∀ (l : List Oper) (k : Nat) (a : Act) (w : World), (∀ j, l[j]? = ops[k + j]?) -> Yf9 F P ops Q l a w -> wpOpsIn F 0 P ops Q (List.range' k l.length) a w
 | [], k, a, w, _, h => h
 | o :: rest, k, a, w, hl, h => by
  have ho : ops[k]? = some o := by have := hl 0; simpa using this.symm
  have hl' : ∀ j, rest[j]? = ops[k + 1 + j]? := fun j => by have := hl (j + 1); rw [show k + 1 + j = k + (j + 1) by omega, <- this]; simp
  simp only [List.length_cons, List.range'_succ, wpOpsIn, ho];unfold Yf9 at h
  split
  ·rename_i hw;rw [if_pos hw] at h;exact Oper.wpIn_mono (fun a w h => Ylw hF rest (k + 1) a w hl' h) h
  ·rename_i hw;rw [if_neg hw] at h;exact ⟨fun f _ => hF f, Ylw hF rest (k + 1) _ w hl' h⟩
theorem Ylx {F : Fence} (hF : ∀ f, F.fn f) {P : Program} {id : Nat} {l : List Oper} {Q : Exit -> Act -> World -> Prop} {a : Act} {w : World} (h : Yf9 F P l.toArray Q l a w) : (Code.region id l.toArray false).wpIn F 0 P Q a w :=
 wpIn_region (by
  have := Ylw hF l 0 a w (fun j => by simp) h;rw [List.range_eq_range'];simpa using this)
def Yrr (ol : List Oper) (d : Option Tmp) : List Oper -> Bool
 | [] => false
 | p :: ps => match p.guard with
  | none => Yrr ol d ps
  | some (j, _) => match Yru ol j, d with
   | some e, some d' => (match Nat.beq d' e with | true => true | false => Yrr ol d ps)
   | _, _ => Yrr ol d ps
def Yo6 (ol : List Oper) (o : Oper) (val : AV) (K : AV -> Prop) : Prop :=
 match val with
 | .sb b => (match Yrr ol o.dst ol with | true => Vif b (K (.v (.bool true))) (K (.v (.bool false))) | false => K (.sb b))
 | v => K v
theorem Yfu {ol : List Oper} {o : Oper} {val : AV} {K : AV -> Prop} (h : Yo6 ol o val K) : ∃ val', K val' /\ ∀ φ, val'.conc φ = val.conc φ := by
 unfold Yo6 at h
 split at h
 ·split at h
  ·rcases h.spec with ⟨rfl, h2⟩ | ⟨rfl, h2⟩
   ·exact ⟨_, h2, fun φ => rfl⟩
   ·exact ⟨_, h2, fun φ => rfl⟩
  ·exact ⟨_, h, fun φ => rfl⟩
 ·exact ⟨_, h, fun φ => rfl⟩
theorem DoesW.same {P : Program} {o : Oper} {tm : List AV} {hs us nw : Heap} {val val' : AV} (h : DoesW P o tm hs val us nw) (he : ∀ φ, val'.conc φ = val.conc φ) : DoesW P o tm hs val' us nw :=
 fun φ w0 M R a w K Q h1 h2 h3 kk => h φ w0 M R a w K Q h1 h2 h3 fun φ' w' h4 h5 => by rw [<- he φ']; exact kk φ' w' h4 h5
theorem Does.same {P : Program} {o : Oper} {tm : List AV} {hs us nw : Heap} {val val' : AV} (h : Does P o tm hs val us nw) (he : ∀ φ, val'.conc φ = val.conc φ) : Does P o tm hs val' us nw :=
 fun φ w0 M R a w K Q h1 h2 h3 kk => h φ w0 M R a w K Q h1 h2 h3 fun φ' w' h4 h5 => by rw [<- he φ']; exact kk φ' w' h4 h5
def Y3d (c : Cx) (ol : List Oper) : List Oper -> List AV -> Heap -> KX -> Prop
 | [], tm, hp, K => K .norm tm hp
 | o :: rest, tm, hp, K => Yp9 ol o tm
   (Y3e c o tm hp (fun val hs us nw => Yo6 ol o val fun val => Yql o.dst tm hp val us nw fun tm hp => Y3d c ol rest tm hp K) (fun val hs us nw => Yql none tm hp val us nw fun tm hp => K (.pan val) tm hp))
   (putK tm o.dst (.v undef) fun tm => Y3d c ol rest tm hp K)
def Big (W : (Exit -> Act -> World -> Prop) -> Act -> World -> Prop) (tm : List AV) (hp : Heap) (x : AX) (tm' : List AV) (hp' : Heap) : Prop :=
 ∀ (φ0 φ : Phi) (w0 : World) (M : List Nat) (R : RL) (a : Act) (w : World), RepS φ0 φ w0 M R tm hp a w -> ∀ Q : Exit -> Act -> World -> Prop,
  (∀ φ' e a' w', x.is φ' e -> RepS φ0 φ' w0 M R tm' hp' a' w' -> a'.defers = a.defers -> Q e a' w') -> W Q a w
theorem RepS.skip {φ0 φ : Phi} {w0 : World} {M : List Nat} {R : RL} {tm : List AV} {hp : Heap} {a : Act} {w : World} (h : RepS φ0 φ w0 M R tm hp a w) (dst : Option Tmp) : RepS φ0 φ w0 M R (putA tm dst (.v undef)) hp (a.put dst undef) w :=
 ⟨h.tmps.put dst (.v undef), h.st, h.nd, h.base⟩
theorem Ybt (a : Act) (dst : Option Tmp) (v : Value) : (a.put dst v).defers = a.defers := by cases dst <;> rfl
section
variable {c : Cx} {ol : List Oper}
theorem Yh5 (hc : HandOkR c) : ∀ (l : List Oper) (tm : List AV) (hp : Heap) (K : KX), Y3d c ol l tm hp K ->
  ∃ x tm' hp', K x tm' hp' /\ Big (fun Q a w => ∀ r, Yf9 (wF r) c.P ol.toArray Q l a w) tm hp x tm' hp'
 | [], tm, hp, K, h => ⟨.norm, tm, hp, h, fun φ0 φ w0 M R a w hr Q kk r => kk φ .normal a w rfl hr rfl⟩
 | o :: rest, tm, hp, K, h => by
  rcases Yf5 h with ⟨hw, h1⟩ | ⟨hw, h1⟩
  ·rcases Yl0 hc h1 with ⟨val, hs, us, nw, h2, hpart, hu, hd⟩ | ⟨val, hs, us, nw, h2, hpart, hu, hd⟩
   ·obtain ⟨val', h2, he⟩ := Yfu h2
    replace hd := hd.same he
    obtain ⟨hB, h3⟩ := Yen h2;obtain ⟨x, tm', hp', h4, h5⟩ := Yh5 hc rest _ _ K h3;refine ⟨x, tm', hp', h4, fun φ0 φ w0 M R a w hr Q kk => ?_⟩;intro r; show Yf9 (wF r) c.P ol.toArray Q (o :: rest) a w
    unfold Yf9;rw [hw.at hr.tmps];simp only [if_true];exact Yil hd hpart hu hB hr (fun φ' w' hr' => h5 φ0 φ' w0 M R _ w' hr' Q (fun φ2 e a' w2 hx hr2 hdf => kk φ2 e a' w2 hx hr2 (by rw [hdf, Ybt])) r) r
   ·obtain ⟨hB, h3⟩ := Yen h2;refine ⟨.pan val, _, _, h3, fun φ0 φ w0 M R a w hr Q kk => ?_⟩;intro r; show Yf9 (wF r) c.P ol.toArray Q (o :: rest) a w
    unfold Yf9;rw [hw.at hr.tmps];simp only [if_true];have b1 := hB.1;have hS : St w0 M (Yb φ hs ++ (Yb φ (Yb0 hs hp) ++ R)) w := by
     have := hr.st.perm ((Yv (hpart.perm hr.nd)).append (List.Perm.refl R));rwa [Yn, List.append_assoc] at this
    refine hd φ w0 M _ a w _ Q (hr.tmps.ops _) (fun i hi => ⟨(b1 i hi).1, Ye1 fun p hp' => Yx (b1 i hi).2 (Yba (hpart.all p hp'))⟩) hS (fun φ' w' hag hS' => ?_) r;exact kk φ' _ a w' rfl (hr.new_heap hpart hu hB hag hS' none val) rfl
  ·have h2 := Yec h1;obtain ⟨x, tm', hp', h4, h5⟩ := Yh5 hc rest _ _ K h2;refine ⟨x, tm', hp', h4, fun φ0 φ w0 M R a w hr Q kk => ?_⟩;intro r; show Yf9 (wF r) c.P ol.toArray Q (o :: rest) a w
   unfold Yf9;rw [hw.at hr.tmps];simp only [Bool.false_eq_true, if_false];exact h5 φ0 φ w0 M R _ w (hr.skip o.dst) Q (fun φ2 e a' w2 hx hr2 hdf => kk φ2 e a' w2 hx hr2 (by rw [hdf, Ybt])) r
end
end Go.Proofs.YtladoaeefkpdiaaGreatDoor
namespace Go.Proofs.YtladoaeefkpdiaaGreatDoor
open Go.RowKit
variable [InW]
attribute [local irreducible] Go.Oper.wp
theorem Ykx {i j : Nat} (hne : i ≠ j) (x y : It) : ∀ h : Heap, upd (upd h i x) j y = upd (upd h j y) i x
 | [] => rfl
 | p :: h => by
  by_cases e1 : p.1 = i
  ·have e2 : ¬ p.1 = j := fun e => hne (e1 ▸ e);simp [upd, Ye.2 e1, Y4.2 e2]
  ·by_cases e2 : p.1 = j
   ·simp [upd, Y4.2 e1, Ye.2 e2]
   ·simp [upd, Y4.2 e1, Y4.2 e2, Ykx hne x y h]
theorem Yk5 {i j : Nat} (hne : i ≠ j) (x y : It) : ∀ h : Heap, ins (upd h j y) i x = upd (ins h i x) j y
 | [] => by simp [upd, ins, Y4.2 hne]
 | p :: h => by
  cases hb : Nat.ble p.1 i with
  | true =>
   by_cases e2 : p.1 = j
   ·simp [upd, ins, hb, Ye.2 e2]
   ·simp [upd, ins, hb, Y4.2 e2, Yk5 hne x y h]
  | false =>
   by_cases e2 : p.1 = j
   ·simp [upd, ins, hb, Ye.2 e2, Y4.2 hne]
   ·simp [upd, ins, hb, Y4.2 e2, Y4.2 hne]
theorem Yh1 {a b : Nat} (h : a <= b) : Nat.ble a b = true := by rw [Nat.ble_eq]; exact h
theorem Yh2 {a b : Nat} (h : b < a) : Nat.ble a b = false := by
 rw [<- Bool.not_eq_true, Nat.ble_eq]; omega
theorem Yk6 {i j : Nat} (hne : i ≠ j) (x y : It) : ∀ h : Heap, ins (ins h i x) j y = ins (ins h j y) i x
 | [] => by
  rcases Nat.lt_or_gt_of_ne hne with h | h
  ·simp [ins, Yh1 (Nat.le_of_lt h), Yh2 h]
  ·simp [ins, Yh1 (Nat.le_of_lt h), Yh2 h]
 | p :: h => by
  by_cases h1 : p.1 <= i
  ·by_cases h2 : p.1 <= j
   ·simp [ins, Yh1 h1, Yh1 h2, Yk6 hne x y h]
   ·have h3 : j < i := by omega
    simp [ins, Yh1 h1, Yh2 (show j < p.1 by omega), Yh1 (Nat.le_of_lt h3)]
  ·by_cases h2 : p.1 <= j
   ·have h3 : i < j := by omega
    simp [ins, Yh1 h2, Yh2 (show i < p.1 by omega), Yh1 (Nat.le_of_lt h3)]
   ·rcases Nat.lt_or_gt_of_ne hne with h3 | h3
    ·simp [ins, Yh2 (show i < p.1 by omega), Yh2 (show j < p.1 by omega), Yh1 (Nat.le_of_lt h3), Yh2 h3]
    ·simp [ins, Yh2 (show i < p.1 by omega), Yh2 (show j < p.1 by omega), Yh1 (Nat.le_of_lt h3), Yh2 h3]
def disj (a b : List Nat) : Prop := ∀ i ∈ a, i ∉ b
theorem disj.symm {a b : List Nat} (h : disj a b) : disj b a := fun i hi hm => h i hm hi
theorem disj.tail {p : Nat × It} {us : Heap} {b : List Nat} (h : disj (keys (p :: us)) b) : p.1 ∉ b /\ disj (keys us) b := by
 refine ⟨h p.1 (by simp [keys]), fun i hi => h i ?_⟩;simp only [keys, List.map_cons, List.mem_cons];exact .inr hi
theorem Ygd {i : Nat} {x : It} : ∀ (us h : Heap), i ∉ keys us -> Yh (upd h i x) us = upd (Yh h us) i x
 | [], h, _ => rfl
 | p :: us, h, hn => by
  simp only [keys, List.map_cons, List.mem_cons, not_or] at hn;rw [Yh, Yh, Ykx hn.1, Ygd us _ hn.2]
theorem Yg3 {i : Nat} {x : It} : ∀ (us h : Heap), i ∉ keys us -> Yh (ins h i x) us = ins (Yh h us) i x
 | [], h, _ => rfl
 | p :: us, h, hn => by
  simp only [keys, List.map_cons, List.mem_cons, not_or] at hn;rw [Yh, Yh, <- Yk5 hn.1, Yg3 us _ hn.2]
theorem Yl2 : ∀ (us vs h : Heap), disj (keys us) (keys vs) -> Yh (Yh h us) vs = Yh (Yh h vs) us
 | [], vs, h, _ => rfl
 | p :: us, vs, h, hd => by
  have := hd.tail;rw [Yh, Yl2 us vs _ this.2, Ygd vs h this.1];rfl
theorem Yc4 : ∀ (nw us h : Heap), disj (keys nw) (keys us) -> Yh (Ybe h nw) us = Ybe (Yh h us) nw
 | [], us, h, _ => rfl
 | p :: nw, us, h, hd => by
  have := hd.tail;rw [Ybe, Yc4 nw us _ this.2, Yg3 us h this.1];rfl
theorem Yg4 {i : Nat} {x : It} : ∀ (nw h : Heap), i ∉ keys nw -> Ybe (ins h i x) nw = ins (Ybe h nw) i x
 | [], h, _ => rfl
 | p :: nw, h, hn => by
  simp only [keys, List.map_cons, List.mem_cons, not_or] at hn;rw [Ybe, Ybe, Yk6 hn.1, Yg4 nw _ hn.2]
theorem Ynl : ∀ (a b h : Heap), disj (keys a) (keys b) -> Ybe (Ybe h a) b = Ybe (Ybe h b) a
 | [], b, h, _ => rfl
 | p :: a, b, h, hd => by
  have := hd.tail;rw [Ybe, Ynl a b _ this.2, Yg4 b h this.1];rfl
structure Ev where
 o : Oper
 skip : Bool
 val : AV
 hs : Heap
 us : Heap
 nw : Heap
def Ev.tm (e : Ev) (tm : List AV) : List AV := putA tm e.o.dst e.val
def Ev.hp (e : Ev) (hp : Heap) : Heap := Ybe (Yh hp e.us) e.nw
structure StepE (P : Program) (ol : List Oper) (e : Ev) (tm : List AV) (hp : Heap) : Prop where
 part : PartOf e.hs hp
 sub : ∀ i ∈ keys e.us, i ∈ keys e.hs
 nd : (keys e.nw).Nodup
 mod : ∀ i ∈ keys e.nw, i % 3 ≠ 1
 run : (e.skip = true /\ WantA ol e.o tm false /\ e.val = .v undef /\ e.us = [] /\ e.nw = []) \/ (e.skip = false /\ WantA ol e.o tm true /\ DoesW P e.o tm e.hs e.val e.us e.nw)
def Ev.lacks (e : Ev) (i : Nat) : Prop := e.val.has i = false /\ hasH i e.us = false /\ hasH i e.nw = false
structure Ind (ol : List Oper) (e f : Ev) : Prop where
 ops : e.o.apart ol.toArray f.o = true
 ef : disj (keys e.us) (keys f.hs)
 fe : disj (keys f.us) (keys e.hs)
 nf : disj (keys e.nw) (keys f.hs)
 lack : ∀ i ∈ keys e.nw, f.lacks i
theorem Yrq {i : Nat} {tm : List AV} {dst : Option Tmp} {v : AV} (h : AV.hasL i tm = false) (hv : v.has i = false) : AV.hasL i (putA tm dst v) = false := by
 cases dst with
 | none => exact h
 | some d =>
  show AV.hasL i (Ycm tm d v) = false
  induction tm generalizing d with
  | nil => rfl
  | cons x xs ih =>
   simp only [AV.hasL, Bool.or_eq_false_iff] at h;cases d with
   | zero =>
    cases x <;> simp only [Ycm, AV.hasL, Bool.or_eq_false_iff] <;> first | exact ⟨h.1, h.2⟩ | exact ⟨Y6q hv, h.2⟩
   | succ d => simp only [Ycm, AV.hasL, Bool.or_eq_false_iff]; exact ⟨h.1, ih h.2 d⟩
theorem Y6h {h : Heap} {i : Nat} {x : It} {p : Nat × It} (hp : p ∈ upd h i x) : p ∈ h \/ (p.2 = x /\ p.1 ∈ keys h) := by
 induction h with
 | nil => cases hp
 | cons q h ih =>
  unfold upd at hp;cases hb : Nat.beq q.1 i with
  | true =>
   rw [hb] at hp;rcases List.mem_cons.1 hp with rfl | hp
   ·exact .inr ⟨rfl, by simp [keys]⟩
   ·exact .inl (List.mem_cons_of_mem _ hp)
  | false =>
   rw [hb] at hp;rcases List.mem_cons.1 hp with rfl | hp
   ·exact .inl List.mem_cons_self
   ·rcases ih hp with h1 | h1
    ·exact .inl (List.mem_cons_of_mem _ h1)
    ·exact .inr ⟨h1.1, by simp only [keys, List.map_cons, List.mem_cons]; exact .inr h1.2⟩
theorem Y4j {k i : Nat} {x : It} {h : Heap} (hh : hasH k h = false) (hx : x.has k = false) : hasH k (upd h i x) = false := Ye1 fun p hp => by
 rcases Y6h hp with h1 | ⟨h1, h2⟩
 ·exact Yx hh h1
 ·obtain ⟨q, hq, e⟩ := List.mem_map.1 h2;exact ⟨e ▸ (Yx hh hq).1, h1 ▸ hx⟩
theorem Ynm {k : Nat} : ∀ (us h : Heap), hasH k h = false -> hasH k us = false -> hasH k (Yh h us) = false
 | [], h, hh, _ => hh
 | p :: us, h, hh, hu => by
  simp only [hasH, Bool.or_eq_false_iff] at hu;exact Ynm us _ (Y4j hh hu.1.2) hu.2
theorem Y6i {h : Heap} {i : Nat} {x : It} {p : Nat × It} (hp : p ∈ ins h i x) : p ∈ h \/ p = (i, x) := by
 induction h with
 | nil => simpa [ins] using hp
 | cons q h ih =>
  unfold ins at hp;cases hb : Nat.ble q.1 i with
  | true =>
   rw [hb] at hp;rcases List.mem_cons.1 hp with rfl | hp
   ·exact .inl List.mem_cons_self
   ·exact (ih hp).imp (List.mem_cons_of_mem _) id
  | false =>
   rw [hb] at hp;rcases List.mem_cons.1 hp with rfl | hp
   ·exact .inr rfl
   ·exact .inl hp
theorem Ynn {k : Nat} : ∀ (us h : Heap), hasH k h = false -> hasH k us = false -> hasH k (Ybe h us) = false
 | [], h, hh, _ => hh
 | p :: us, h, hh, hu => by
  simp only [hasH, Bool.or_eq_false_iff] at hu;refine Ynn us _ (Ye1 fun q hq => ?_) hu.2;rcases Y6i hq with h1 | rfl
  ·exact Yx hh h1
  ·exact ⟨Y4.1 hu.1.1, hu.1.2⟩
theorem NewFor.step {ks : List Nat} {tm : List AV} {hp : Heap} {e : Ev} (h : NewFor ks tm hp) (hl : ∀ i ∈ ks, e.lacks i) : NewFor ks (e.tm tm) (e.hp hp) := fun i hi =>
 ⟨Yrq (h i hi).1 (hl i hi).1, Ynn _ _ (Ynm _ _ (h i hi).2 (hl i hi).2.1) (hl i hi).2.2⟩
theorem NewFor.hs {ks : List Nat} {tm : List AV} {hp hs : Heap} (h : NewFor ks tm hp) (hpart : PartOf hs hp) : NewFor ks tm hs := fun i hi =>
 ⟨(h i hi).1, Ye1 fun p hp' => Yx (h i hi).2 (Yba (hpart.all p hp'))⟩
theorem NewFor.mono_tm {ks : List Nat} {tm tm' : List AV} {hs : Heap} (h : NewFor ks tm hs) (ht : ∀ i ∈ ks, AV.hasL i tm' = false) : NewFor ks tm' hs := fun i hi => ⟨ht i hi, (h i hi).2⟩
theorem NewFor.keys {ks : List Nat} {tm : List AV} {hp : Heap} (h : NewFor ks tm hp) : disj ks (keys hp) := fun i hi hm => by
 obtain ⟨p, hp', e⟩ := List.mem_map.1 hm;exact (Yx (h i hi).2 hp').1 e
theorem Ytv {e : Ev} {tm : List AV} {hp : Heap} {ol : List Oper} {P : Program} (h : StepE P ol e tm hp) (hn : NewFor (keys e.nw) tm hp) {i : Nat} (h1 : i ∉ keys e.us) (h2 : i ∉ keys e.nw) : look (e.hp hp) i = look hp i := by
 unfold Ev.hp;rw [Yii e.nw _ h.nd (by rw [Yei]; exact hn.keys), Ybq h2, Ydq _ _ _ h1];rfl
theorem Ylk {tm : List AV} {dst : Option Tmp} {v : AV} {t : Nat} (h : ∀ d, dst = some d -> t ≠ d) : (putA tm dst v)[t]? = tm[t]? := by
 cases dst with
 | none => rfl
 | some d => exact Yi3 tm v (h d rfl)
theorem WantA.move {ol : List Oper} {o : Oper} {tm tm' : List AV} {b : Bool} (h : WantA ol o tm b) (he : ∀ t ∈ o.looksAt ol.toArray, tm[t]? = tm'[t]?) : WantA ol o tm' b := fun φ a hs => h φ a fun t ht v hv hj => hs t ht v (by rw [<- he t ht]; exact hv) hj
theorem Yps {ol : List Oper} {o : Oper} {t : Tmp} (h : Operand.tmp t ∈ o.op.operands) : t ∈ o.looksAt ol.toArray := by
 unfold Oper.looksAt;exact List.mem_append_left _ (List.mem_filterMap.2 ⟨.tmp t, by simpa using h, rfl⟩)
theorem DoesW.move {P : Program} {ol : List Oper} {o : Oper} {tm tm' : List AV} {hs us nw : Heap} {val : AV} (h : DoesW P o tm hs val us nw) (he : ∀ t ∈ o.looksAt ol.toArray, tm[t]? = tm'[t]?) (hn : NewFor (keys nw) tm hs) : DoesW P o tm' hs val us nw :=
 fun φ w0 M R a w K Q ho _ hS kk => h φ w0 M R a w K Q (fun x hx v hv hj => ho x hx v (by
  cases x with
  | tmp t =>
   have h1 : tm[t]? = some v := hv;rw [he t (Yps hx)] at h1;exact h1
  | const c => exact hv
  | global g => exact hv
  | func f => exact hv) hj) hn hS kk
theorem Yya {P : Program} {ol : List Oper} {e f : Ev} {tm : List AV} {hp : Heap} (he : StepE P ol e tm hp) (hf : StepE P ol f (e.tm tm) (e.hp hp)) (hi : Ind ol e f) (hne : NewFor (keys e.nw) tm hp) (hnf : NewFor (keys f.nw) tm hp) (hl : ∀ i ∈ keys f.nw, e.lacks i) :
  StepE P ol f tm hp /\ StepE P ol e (f.tm tm) (f.hp hp) /\ e.tm (f.tm tm) = f.tm (e.tm tm) /\ e.hp (f.hp hp) = f.hp (e.hp hp) := by
 obtain ⟨a1, a2, a3⟩ := Oper.apart_spec hi.ops;have t1 : ∀ t ∈ f.o.looksAt ol.toArray, (e.tm tm)[t]? = tm[t]? := fun t ht => Ylk fun d hd e' => a1 d hd (e' ▸ ht);have t2 : ∀ t ∈ e.o.looksAt ol.toArray, tm[t]? = (f.tm tm)[t]? := fun t ht => (Ylk fun d hd e' => a3 d hd (e' ▸ ht)).symm;have hfu : ∀ i ∈ keys f.us, i ∈ keys f.hs := hf.sub;have pf : PartOf f.hs hp := ⟨hf.part.nd, fun p hp' => by
  have hm : p.1 ∈ keys f.hs := List.mem_map_of_mem hp';rw [<- Ytv he hne (fun h => hi.ef _ h hm) (fun h => hi.nf _ h hm)];exact hf.part.all p hp'⟩
 have sf : StepE P ol f tm hp := by
  refine ⟨pf, hf.sub, hf.nd, hf.mod, ?_⟩;rcases hf.run with ⟨h1, h2, h3⟩ | ⟨h1, h2, h3⟩
  ·exact .inl ⟨h1, h2.move t1, h3⟩
  ·exact .inr ⟨h1, h2.move t1, h3.move t1 ((hnf.hs pf).mono_tm fun i hi' => Yrq (hnf i hi').1 (hl i hi').1)⟩
 have hsk : ∀ i ∈ keys e.hs, i ∈ keys hp := fun i hi' => by
  obtain ⟨p, hp', rfl⟩ := List.mem_map.1 hi';exact Ycs (he.part.all p hp')
 refine ⟨sf, ⟨⟨he.part.nd, fun p hp' => ?_⟩, he.sub, he.nd, he.mod, ?_⟩, ?_, ?_⟩
 ·have hm : p.1 ∈ keys e.hs := List.mem_map_of_mem hp';rw [Ytv sf hnf (fun h => hi.fe _ h hm) (fun h => hnf.keys _ h (hsk _ hm))];exact he.part.all p hp'
 ·rcases he.run with ⟨h1, h2, h3⟩ | ⟨h1, h2, h3⟩
  ·exact .inl ⟨h1, h2.move t2, h3⟩
  ·exact .inr ⟨h1, h2.move t2, h3.move t2 (hne.hs he.part)⟩
 ·unfold Ev.tm putA;cases hd : e.o.dst with
  | none => rfl
  | some d =>
   cases hd' : f.o.dst with
   | none => rfl
   | some d' =>
    have hnd : d' ≠ d := fun e' => a2 d hd (by rw [hd', e']);simp only;exact Ypn _ _ _ hnd
 ·unfold Ev.hp;have d1 : disj (keys e.us) (keys f.us) := fun i h1 h2 => hi.ef i h1 (hfu i h2);have d2 : disj (keys e.nw) (keys f.us) := fun i h1 h2 => hi.nf i h1 (hfu i h2);have d3 : disj (keys f.nw) (keys e.us) := fun i h1 h2 => hnf.keys i h1 (hsk i (he.sub i h2));have d4 : disj (keys e.nw) (keys f.nw) := fun i h1 h2 => by
   obtain ⟨p, hp', e'⟩ := List.mem_map.1 h2;exact (Yx (hi.lack i h1).2.2 hp').1 e'
  rw [Yc4 f.nw e.us _ d3, Yc4 e.nw f.us _ d2, Yl2 e.us f.us hp d1, Ynl e.nw f.nw _ d4]
end Go.Proofs.YtladoaeefkpdiaaGreatDoor
namespace Go.Proofs.YtladoaeefkpdiaaGreatDoor
open Go.RowKit
variable [InW]
attribute [local irreducible] Go.Oper.wp
def LClosed (ops : Array Oper) (listed : Array Bool) : Prop := ∀ (j : Nat) (oj : Oper), ops[j]? = some oj -> listed.getD j false = true -> ∀ e ∈ oj.after, Region.binds .any e = true -> listed.getD e.on false = true
theorem LClosed.start (ops : Array Oper) (n : Nat) : LClosed ops (Array.replicate n false) := fun j oj _ h => by
 rcases Nat.lt_or_ge j n with h' | h'
 ·simp [h'] at h
 ·simp [h'] at h
theorem Ytw {listed : Array Bool} {i k : Nat} (hk : listed.getD k false = true) : (listed.setIfInBounds i true).getD k false = true := by
 by_cases hki : i = k
 ·subst hki;rcases Nat.lt_or_ge i listed.size with h' | h'
  ·simp [h']
  ·simp [Array.getElem?_eq_none h'] at hk
 ·rw [getD_set_ne false hki]; exact hk
theorem LClosed.step {ops : Array Oper} {listed : Array Bool} {i : Nat} (h : LClosed ops listed) (hi : i ∈ Region.ready .any ops listed) : LClosed ops (listed.setIfInBounds i true) := by
 obtain ⟨h0, oi, hoi, hall⟩ := mem_ready.1 hi;intro j oj hoj hl e he hb
 by_cases hji : i = j
 ·subst hji;rw [hoi] at hoj;cases hoj;exact Ytw (hall e he hb)
 ·rw [getD_set_ne false hji] at hl;exact Ytw (h j oj hoj hl e he hb)
def Yww (ops : Array Oper) (j i : Nat) : Prop := ∀ listed, LClosed ops listed -> (∀ oj, ops[j]? = some oj -> ∀ e ∈ oj.after, Region.binds .any e = true -> listed.getD e.on false = true) -> listed.getD i false = true
def nthN : List Nat -> Nat -> Nat
 | [], _ => 0
 | x :: _, 0 => x
 | _ :: xs, n + 1 => nthN xs n
def Yjd (ms : List Nat) : List Edge -> Nat -> Nat
 | [], s => s
 | e :: es, s => match Region.binds .any e with | true => Yjd ms es (s ||| 2 ^ e.on ||| nthN ms e.on) | false => Yjd ms es s
def Ycg : List Oper -> List Nat -> List Nat
 | [], acc => acc
 | o :: rest, acc => Ycg rest (acc ++ [Yjd acc o.after.toList 0])
theorem Yrg : ∀ (ms : List Nat) (k : Nat), nthN ms k = ms.getD k 0
 | [], k => by simp [nthN]
 | x :: xs, 0 => rfl
 | x :: xs, k + 1 => by simp [nthN, Yrg xs k]
theorem Ygy (ms : List Nat) : ∀ (es : List Edge) (s i : Nat), (Yjd ms es s).testBit i = true -> s.testBit i = true \/ ∃ e ∈ es, Region.binds .any e = true /\ (e.on = i \/ (ms.getD e.on 0).testBit i = true)
 | [], s, i, h => .inl h
 | e :: es, s, i, h => by
  unfold Yjd at h;cases hb : Region.binds .any e with
  | true =>
   rw [hb] at h;rcases Ygy ms es _ i h with h1 | ⟨e', he', h2⟩
   ·simp only [Nat.testBit_or, Bool.or_eq_true, Nat.testBit_two_pow, decide_eq_true_eq, Yrg] at h1;rcases h1 with (h1 | h1) | h1
    ·exact .inl h1
    ·exact .inr ⟨e, List.mem_cons_self, hb, .inl h1⟩
    ·exact .inr ⟨e, List.mem_cons_self, hb, .inr h1⟩
   ·exact .inr ⟨e', List.mem_cons_of_mem _ he', h2⟩
  | false =>
   rw [hb] at h;rcases Ygy ms es _ i h with h1 | ⟨e', he', h2⟩
   ·exact .inl h1
   ·exact .inr ⟨e', List.mem_cons_of_mem _ he', h2⟩
theorem Yxg (ops : Array Oper) : ∀ (l : List Oper) (acc : List Nat), (∀ j, l[j]? = ops[acc.length + j]?) -> (∀ j m, acc[j]? = some m -> ∀ i, m.testBit i = true -> Yww ops j i) -> ∀ j m, (Ycg l acc)[j]? = some m -> ∀ i, m.testBit i = true -> Yww ops j i
 | [], acc, _, h => h
 | o :: rest, acc, hl, h => by
  unfold Ycg;refine Yxg ops rest _ (fun j => ?_) (fun j m hm i hi => ?_)
  ·have := hl (j + 1);simp only [List.length_append, List.length_cons, List.length_nil];rw [show acc.length + (0 + 1) + j = acc.length + (j + 1) by omega, <- this];simp
  ·rw [List.getElem?_append] at hm
   split at hm
   ·exact h j m hm i hi
   ·rename_i hge;have hj : j = acc.length := by
     rcases Nat.lt_or_ge (j - acc.length) 1 with h1 | h1
     ·omega
     ·rw [List.getElem?_eq_none (by simpa using h1)] at hm; cases hm
    subst hj;simp only [Nat.sub_self, List.getElem?_cons_zero, Option.some.injEq] at hm;subst hm;have ho : ops[acc.length]? = some o := by have := hl 0; simpa using this.symm
    intro listed hc hall;rcases Ygy acc _ 0 i hi with h1 | ⟨e, he, hb, h1⟩
    ·simp at h1
    ·have hon := hall o ho e (by simpa using he) hb;rcases h1 with rfl | h1
     ·exact hon
     ·cases ha : acc[e.on]? with
      | none => simp [List.getD_eq_getElem?_getD, ha] at h1
      | some m' =>
       simp only [List.getD_eq_getElem?_getD, ha, Option.getD_some] at h1;exact h e.on m' ha i h1 listed hc fun oj hoj e' he' hb' => hc e.on oj hoj hon e' he' hb'
theorem Yfq {ol : List Oper} {j i : Nat} (h : (nthN (Ycg ol []) j).testBit i = true) : Yww ol.toArray j i := by
 rw [Yrg, List.getD_eq_getElem?_getD] at h;cases hm : (Ycg ol [])[j]? with
 | none => simp [hm] at h
 | some m =>
  rw [hm] at h;exact Yxg ol.toArray ol [] (fun j => by simp) (fun j m hm => by simp at hm) j m hm i h
abbrev Todo := List (Nat × Ev)
def Ywx (P : Program) (ol : List Oper) : Todo -> List AV -> Heap -> List AV -> Heap -> Prop
 | [], tm, hp, tm', hp' => tm = tm' /\ hp = hp'
 | p :: r, tm, hp, tm', hp' => StepE P ol p.2 tm hp /\ Ywx P ol r (p.2.tm tm) (p.2.hp hp) tm' hp'
structure PairOk (ol : List Oper) (p q : Nat × Ev) : Prop where
 lack : ∀ i ∈ keys q.2.nw, p.2.lacks i
 ord : Yww ol.toArray q.1 p.1 \/ Ind ol p.2 q.2
def AllNew (r : Todo) (tm : List AV) (hp : Heap) : Prop := ∀ p ∈ r, NewFor (keys p.2.nw) tm hp
theorem pull {P : Program} {ol : List Oper} {q : Nat × Ev} {r2 : Todo} {tmE : List AV} {hpE : Heap} : ∀ (r1 : Todo) (tm : List AV) (hp : Heap), Ywx P ol (r1 ++ q :: r2) tm hp tmE hpE -> (r1 ++ q :: r2).Pairwise (PairOk ol) -> AllNew (r1 ++ q :: r2) tm hp -> (∀ p ∈ r1, Ind ol p.2 q.2) ->
  StepE P ol q.2 tm hp /\ Ywx P ol (r1 ++ r2) (q.2.tm tm) (q.2.hp hp) tmE hpE
 | [], tm, hp, hc, _, _, _ => hc
 | p :: r1, tm, hp, hc, hpw, hn, hi => by
  obtain ⟨h1, h2⟩ := hc;have hpw' := List.pairwise_cons.1 hpw;have hn' : AllNew (r1 ++ q :: r2) (p.2.tm tm) (p.2.hp hp) := fun p' hp' => (hn p' (List.mem_cons_of_mem _ hp')).step fun i hi' => (hpw'.1 p' hp').lack i hi';obtain ⟨h3, h4⟩ := pull r1 _ _ h2 hpw'.2 hn' fun p' hp' => hi p' (List.mem_cons_of_mem _ hp');have hq : q ∈ r1 ++ q :: r2 := by simp
  obtain ⟨h5, h6, h7, h8⟩ := Yya h1 h3 (hi p List.mem_cons_self) (hn p List.mem_cons_self) (hn q (List.mem_cons_of_mem _ hq)) fun i hi' => (hpw'.1 q hq).lack i hi';refine ⟨h5, h6, ?_⟩;rw [h7, h8];exact h4
structure Left (ol : List Oper) (r : Todo) (listed : Array Bool) : Prop where
 iff : ∀ k, k < ol.length -> (listed.getD k true = false ↔ k ∈ r.map (·.1))
 lt : ∀ p ∈ r, p.1 < ol.length /\ ol[p.1]? = some p.2.o
 sorted : r.Pairwise fun p q => p.1 < q.1
 size : listed.size = ol.length
def Yuv : List Oper -> Nat -> Bool
 | [], _ => true
 | o :: rest, i => match o.after.toList.all (fun e => !Region.binds .any e || Nat.blt e.on i) with | true => Yuv rest (i + 1) | false => false
theorem Ykt : ∀ (l : List Oper) (i : Nat), Yuv l i = true -> ∀ j o, l[j]? = some o -> ∀ e ∈ o.after, Region.binds .any e = true -> e.on < i + j
 | [], i, _, j, o, h => by simp at h
 | o' :: rest, i, hb, j, o, h => by
  unfold Yuv at hb
  split at hb
  ·rename_i h1;cases j with
   | zero =>
    simp only [List.getElem?_cons_zero, Option.some.injEq] at h;subst h;intro e he hbi;have := List.all_eq_true.1 h1 e (by simpa using he);simp only [hbi, Bool.not_true, Bool.false_or, Nat.blt_eq] at this;simpa using this
   | succ j =>
    intro e he hbi;have := Ykt rest (i + 1) hb j o (by simpa using h) e he hbi;omega
  ·cases hb
theorem Yf6 {listed : Array Bool} {k : Nat} (h : k < listed.size) : listed.getD k true = false ↔ listed.getD k false = false := by simp [h]
theorem Left.ready {ol : List Oper} {r : Todo} {listed : Array Bool} (h : Left ol r listed) {j : Nat} (hj : j ∈ Region.ready .any ol.toArray listed) : ∃ e, (j, e) ∈ r := by
 obtain ⟨h0, oj, hoj, _⟩ := mem_ready.1 hj;have hlt : j < ol.length := by
  have := (Array.getElem?_eq_some_iff.1 hoj).1;simpa using this
 obtain ⟨p, hp, e⟩ := List.mem_map.1 ((h.iff j hlt).1 h0);exact ⟨p.2, by rw [<- e]; exact hp⟩
theorem Left.head_ready {ol : List Oper} {p : Nat × Ev} {r : Todo} {listed : Array Bool} (h : Left ol (p :: r) listed) (hb : Yuv ol 0 = true) : p.1 ∈ Region.ready .any ol.toArray listed := by
 have h1 := h.lt p List.mem_cons_self;refine mem_ready.2 ⟨(h.iff p.1 h1.1).2 (by simp), p.2.o, by simpa using h1.2, fun e he hbi => ?_⟩;have hon := Ykt ol 0 hb p.1 p.2.o h1.2 e he hbi;have hlt : e.on < ol.length := by omega
 cases hq : listed.getD e.on false with
 | true => rfl
 | false =>
  have h2 : listed.getD e.on true = false := (Yf6 (by rw [h.size]; exact hlt)).2 hq;obtain ⟨q, hq, e'⟩ := List.mem_map.1 ((h.iff e.on hlt).1 h2);rcases List.mem_cons.1 hq with rfl | hq
  ·omega
  ·have := (List.pairwise_cons.1 h.sorted).1 q hq;omega
theorem Left.step {ol : List Oper} {r1 r2 : Todo} {q : Nat × Ev} {listed : Array Bool} (h : Left ol (r1 ++ q :: r2) listed) : Left ol (r1 ++ r2) (listed.setIfInBounds q.1 true) := by
 have hsub : (r1 ++ r2).Sublist (r1 ++ q :: r2) := (List.Sublist.refl r1).append (List.sublist_cons_self q r2);have hne : ∀ p ∈ r1 ++ r2, p.1 ≠ q.1 := fun p hp => by
  have hs := List.pairwise_append.1 h.sorted;rcases List.mem_append.1 hp with hp | hp
  ·have := hs.2.2 p hp q List.mem_cons_self; omega
  ·have := (List.pairwise_cons.1 hs.2.1).1 p hp; omega
 refine ⟨fun k hk => ?_, fun p hp => h.lt p (hsub.subset hp), h.sorted.sublist hsub, by simpa using h.size⟩
 by_cases e : q.1 = k
 ·subst e;have h1 : (listed.setIfInBounds q.1 true).getD q.1 true = true := by simp [h.size, hk]
  constructor
  ·intro h2; rw [h1] at h2; cases h2
  ·intro h2;obtain ⟨p, hp, e⟩ := List.mem_map.1 h2;exact absurd e (hne p hp)
 ·rw [getD_set_ne true e, h.iff k hk];simp only [List.map_append, List.map_cons, List.mem_append, List.mem_cons];constructor
  ·rintro (h1 | h1 | h1)
   ·exact .inl h1
   ·exact absurd h1.symm e
   ·exact .inr h1
  ·rintro (h1 | h1)
   ·exact .inl h1
   ·exact .inr (.inr h1)
theorem Y13 {ol : List Oper} {r1 r2 : Todo} {q : Nat × Ev} {listed : Array Bool} (h : Left ol (r1 ++ q :: r2) listed) (hc : LClosed ol.toArray listed) (hpw : (r1 ++ q :: r2).Pairwise (PairOk ol)) (hj : q.1 ∈ Region.ready .any ol.toArray listed) : ∀ p ∈ r1, Ind ol p.2 q.2 := fun p hp => by
 have h1 := (List.pairwise_append.1 hpw).2.2 p hp q List.mem_cons_self;refine h1.ord.resolve_left fun hw => ?_;obtain ⟨_, oj, hoj, hall⟩ := mem_ready.1 hj;have h2 := hw listed hc fun oj' hoj' => by rw [hoj] at hoj'; cases hoj'; exact hall
 have hm : p ∈ r1 ++ q :: r2 := List.mem_append_left _ hp;have h3 := (h.iff p.1 (h.lt p hm).1).2 (List.mem_map_of_mem hm);rw [Yf6 (by rw [h.size]; exact (h.lt p hm).1), h2] at h3;cases h3
theorem AllNew.step {ol : List Oper} {r1 r2 : Todo} {q : Nat × Ev} {tm : List AV} {hp : Heap} (hn : AllNew (r1 ++ q :: r2) tm hp) (hpw : (r1 ++ q :: r2).Pairwise (PairOk ol)) (hi : ∀ p ∈ r1, Ind ol p.2 q.2) : AllNew (r1 ++ r2) (q.2.tm tm) (q.2.hp hp) := fun p hp' => by
 rcases List.mem_append.1 hp' with h1 | h1
 ·exact (hn p (List.mem_append_left _ h1)).step fun i hi' => (hi p h1).lack i hi'
 ·exact (hn p (List.mem_append_right _ (List.mem_cons_of_mem _ h1))).step fun i hi' => ((List.pairwise_cons.1 (List.pairwise_append.1 hpw).2.1).1 p h1).lack i hi'
section
variable {P : Program} {ol : List Oper} {φ0 : Phi} {w0 : World} {M : List Nat} {R : RL} {r0 : Option Nat} {Q : Exit -> Act -> World -> Prop} {D : List Deferred} {tmE : List AV} {hpE : Heap}
theorem Yrw (hb : Yuv ol 0 = true) (hQ : ∀ φ' a' w', RepS φ0 φ' w0 M R tmE hpE a' w' -> a'.defers = D -> Q .normal a' w') :
  ∀ (n : Nat) (r : Todo) (listed : Array Bool) (tm : List AV) (hp : Heap) (φ : Phi) (a : Act) (w : World), r.length <= n -> Left ol r listed -> LClosed ol.toArray listed -> Ywx P ol r tm hp tmE hpE -> r.Pairwise (PairOk ol) -> AllNew r tm hp -> RepS φ0 φ w0 M R tm hp a w -> a.defers = D -> wpAnyIn (wF r0) 0 P .any ol.toArray Q n listed a w
 | 0, r, listed, tm, hp, φ, a, w, hl, hL, hc, hch, hpw, hn, hr, hD => by
  have : r = [] := List.length_eq_zero_iff.1 (by omega);subst this;obtain ⟨rfl, rfl⟩ := hch;refine ⟨?_, hQ φ a w hr hD⟩;cases hrd : Region.ready .any ol.toArray listed with
  | nil => rfl
  | cons j js =>
   obtain ⟨e, he⟩ := hL.ready (j := j) (by rw [hrd]; exact List.mem_cons_self);cases he
 | n + 1, r, listed, tm, hp, φ, a, w, hl, hL, hc, hch, hpw, hn, hr, hD => by
  refine ⟨fun h0 => ?_, fun j hj => ?_⟩
  ·cases r with
   | nil => obtain ⟨rfl, rfl⟩ := hch; exact hQ φ a w hr hD
   | cons p r => have := hL.head_ready hb; rw [h0] at this; cases this
  ·obtain ⟨f, hf⟩ := hL.ready hj;obtain ⟨r1, r2, rfl⟩ := List.append_of_mem hf;have hi := Y13 hL hc hpw hj;obtain ⟨hs, hch2⟩ := pull r1 tm hp hch hpw hn hi;have hlen : (r1 ++ r2).length <= n := by simp only [List.length_append, List.length_cons] at hl ⊢; omega
   have hnx := hn.step hpw hi;have hpw2 : (r1 ++ r2).Pairwise (PairOk ol) := hpw.sublist ((List.Sublist.refl r1).append (List.sublist_cons_self _ r2));have ho : ol.toArray[j]? = some f.o := by simpa using (hL.lt (j, f) hf).2
   unfold wpOpIn;simp only [ho];rcases hs.run with ⟨h1, h2, h3, h4, h5⟩ | ⟨h1, h2, h3⟩
   ·rw [h2.at hr.tmps];simp only [Bool.false_eq_true, if_false];have e1 : f.tm tm = putA tm f.o.dst (.v undef) := by unfold Ev.tm; rw [h3]
    have e2 : f.hp hp = hp := by unfold Ev.hp; rw [h4, h5]; rfl
    dsimp only at hch2 hnx;rw [e1, e2] at hch2 hnx;exact ⟨fun _ _ => trivial, Yrw hb hQ n (r1 ++ r2) _ _ _ φ _ w hlen hL.step (hc.step hj) hch2 hpw2 hnx (hr.skip f.o.dst) (by rw [Ybt, hD])⟩
   ·rw [h2.at hr.tmps];simp only [if_true];exact (Yil h3 hs.part hs.sub ⟨hn (j, f) hf, hs.nd, hs.mod⟩ hr fun φ' w' hr' => Yrw hb hQ n (r1 ++ r2) _ _ _ φ' _ w' hlen hL.step (hc.step hj) hch2 hpw2 hnx hr' (by rw [Ybt, hD])) r0
end
end Go.Proofs.YtladoaeefkpdiaaGreatDoor
namespace Go.Proofs.YtladoaeefkpdiaaGreatDoor
open Go.RowKit
variable [InW]
attribute [local irreducible] Go.Oper.wp
def Yfg (ds : List (Option Tmp)) : List AV -> Nat -> List AV
 | [], _ => []
 | x :: xs, t => (if ds.contains (some t) && !x.isHeld then .junk else x) :: Yfg ds xs (t + 1)
theorem Yp4 (ds : List (Option Tmp)) : ∀ (tm : List AV) (k t : Nat), (Yfg ds tm k)[t]? = (tm[t]?).map fun x => if ds.contains (some (k + t)) && !x.isHeld then .junk else x
 | [], k, t => by simp [Yfg]
 | x :: xs, k, 0 => by simp [Yfg]
 | x :: xs, k, t + 1 => by simp [Yfg, Yp4 ds xs (k + 1) t, show k + 1 + t = k + (t + 1) by omega]
theorem Yjj (ds : List (Option Tmp)) : ∀ (tm : List AV) (k : Nat), (Yfg ds tm k).length = tm.length
 | [], _ => rfl
 | x :: xs, k => by simp [Yfg, Yjj ds xs (k + 1)]
theorem Yf4 (ds : List (Option Tmp)) : ∀ (tm : List AV) (k : Nat), Ybf (Yfg ds tm k) = Ybf tm
 | [], _ => rfl
 | x :: xs, k => by
  rw [Yfg]
  by_cases h : (ds.contains (some k) && !x.isHeld) = true
  ·rw [if_pos h, Y5, Y5, Yf4 ds xs (k + 1)];simp only [Bool.and_eq_true, Bool.not_eq_true'] at h;cases x <;> simp_all [AV.isHeld]
  ·rw [if_neg h, Y5, Y5, Yf4 ds xs (k + 1)]
structure StepP (P : Program) (ol : List Oper) (f : Ev) (tm : List AV) (hp : Heap) : Prop where
 part : PartOf f.hs hp
 sub : ∀ i ∈ keys f.us, i ∈ keys f.hs
 nd : (keys f.nw).Nodup
 mod : ∀ i ∈ keys f.nw, i % 3 ≠ 1
 want : WantA ol f.o tm true
 does : DoesPW P f.o tm f.hs f.val f.us f.nw
theorem DoesPW.move {P : Program} {ol : List Oper} {o : Oper} {tm tm' : List AV} {hs us nw : Heap} {val : AV} (h : DoesPW P o tm hs val us nw) (he : ∀ t ∈ o.looksAt ol.toArray, tm[t]? = tm'[t]?) (hn : NewFor (keys nw) tm hs) : DoesPW P o tm' hs val us nw :=
 fun φ w0 M R a w K Q ho _ hS kk => h φ w0 M R a w K Q (fun x hx v hv hj => ho x hx v (by
  cases x with
  | tmp t =>
   have h1 : tm[t]? = some v := hv;rw [he t (Yps hx)] at h1;exact h1
  | const c => exact hv
  | global g => exact hv
  | func f => exact hv) hj) hn hS kk
def Ev.quiet (e : Ev) : Prop := e.us = [] /\ e.nw = []
theorem Ypm {P : Program} {ol : List Oper} {f : Ev} {tmT : List AV} {hpT : Heap} : ∀ (r : Todo) (tm : List AV) (hp : Heap), Ywx P ol r tm hp tmT hpT -> (∀ p ∈ r, Ind ol p.2 f /\ p.2.quiet) -> (∀ i ∈ keys f.nw, AV.hasL i tm = false) -> (∀ p ∈ r, ∀ i ∈ keys f.nw, p.2.lacks i) ->
  hpT = hp /\ (∀ t ∈ f.o.looksAt ol.toArray, tmT[t]? = tm[t]?) /\ ∀ i ∈ keys f.nw, AV.hasL i tmT = false
 | [], tm, hp, h, _, hn, _ => ⟨h.2.symm, fun t _ => by rw [h.1], fun i hi => by rw [<- h.1]; exact hn i hi⟩
 | p :: r, tm, hp, h, hq, hn, hl => by
  obtain ⟨h1, h2⟩ := h;obtain ⟨hi, hu, hw⟩ := hq p List.mem_cons_self;obtain ⟨a1, a2, a3⟩ := Ypm r _ _ h2 (fun q hq' => hq q (List.mem_cons_of_mem _ hq')) (fun i hi' => Yrq (hn i hi') (hl p List.mem_cons_self i hi').1) fun q hq' => hl q (List.mem_cons_of_mem _ hq');obtain ⟨b1, _, _⟩ := Oper.apart_spec hi.ops;refine ⟨?_, fun t ht => ?_, a3⟩
  ·rw [a1]; unfold Ev.hp; rw [hu, hw]; rfl
  ·rw [a2 t ht];exact Ylk fun d hd e => b1 d hd (e ▸ ht)
structure LeftP (ol : List Oper) (r : Todo) (j : Nat) (f : Ev) (listed : Array Bool) : Prop where
 iff : ∀ k, k < j -> (listed.getD k true = false ↔ k ∈ r.map (·.1))
 lt : ∀ p ∈ r, p.1 < j /\ ol[p.1]? = some p.2.o
 at_ : ol[j]? = some f.o
 self : listed.getD j true = false
 sorted : r.Pairwise fun p q => p.1 < q.1
 size : listed.size = ol.length
 behind : ∀ k, j < k -> k < ol.length -> Yww ol.toArray k j
theorem LeftP.step {ol : List Oper} {r1 r2 : Todo} {q : Nat × Ev} {j : Nat} {f : Ev} {listed : Array Bool} (h : LeftP ol (r1 ++ q :: r2) j f listed) : LeftP ol (r1 ++ r2) j f (listed.setIfInBounds q.1 true) := by
 have hsub : (r1 ++ r2).Sublist (r1 ++ q :: r2) := (List.Sublist.refl r1).append (List.sublist_cons_self q r2);have hq := h.lt q (by simp);have hjl : j < ol.length := (List.getElem?_eq_some_iff.1 h.at_).1;have hne : ∀ p ∈ r1 ++ r2, p.1 ≠ q.1 := fun p hp => by
  have hs := List.pairwise_append.1 h.sorted;rcases List.mem_append.1 hp with hp | hp
  ·have := hs.2.2 p hp q List.mem_cons_self; omega
  ·have := (List.pairwise_cons.1 hs.2.1).1 p hp; omega
 refine ⟨fun k hk => ?_, fun p hp => h.lt p (hsub.subset hp), h.at_, ?_, h.sorted.sublist hsub, by simpa using h.size, h.behind⟩
 ·by_cases e : q.1 = k
  ·subst e;have h1 : (listed.setIfInBounds q.1 true).getD q.1 true = true := by
    have : q.1 < listed.size := by rw [h.size]; omega
    simp [this]
   constructor
   ·intro h2; rw [h1] at h2; cases h2
   ·intro h2;obtain ⟨p, hp, e⟩ := List.mem_map.1 h2;exact absurd e (hne p hp)
  ·rw [getD_set_ne true e, h.iff k hk];simp only [List.map_append, List.map_cons, List.mem_append, List.mem_cons];constructor
   ·rintro (h1 | h1 | h1)
    ·exact .inl h1
    ·exact absurd h1.symm e
    ·exact .inr h1
   ·rintro (h1 | h1)
    ·exact .inl h1
    ·exact .inr (.inr h1)
 ·rw [getD_set_ne true (by omega)]; exact h.self
theorem Yic {ol : List Oper} {listed : Array Bool} {j i : Nat} (hc : LClosed ol.toArray listed) (hj : j ∈ Region.ready .any ol.toArray listed) (hi : i < listed.size) (hu : listed.getD i true = false) : ¬ Yww ol.toArray j i := fun hw => by
 obtain ⟨_, oj, hoj, hall⟩ := mem_ready.1 hj;have h2 := hw listed hc fun oj' hoj' => by rw [hoj] at hoj'; cases hoj'; exact hall
 rw [Yf6 hi, h2] at hu;cases hu
section
variable {P : Program} {ol : List Oper} {φ0 : Phi} {w0 : World} {M : List Nat} {R : RL} {r0 : Option Nat} {Q : Exit -> Act -> World -> Prop} {D : List Deferred} {tmS tmT : List AV} {hpT : Heap} {j : Nat} {f : Ev} {ds : List (Option Tmp)}
theorem Yrv (hb : Yuv ol 0 = true) (hds : ∀ o ∈ ol, o.dst ∈ ds)
  (hQ : ∀ φ' a' w', RepS φ0 φ' w0 M R (Yfg ds tmS 0) (Ybe (Yh hpT f.us) f.nw) a' w' -> a'.defers = D -> Q (.panic [{ v := f.val.conc φ', recovered := false }]) a' w') (hst : StepP P ol f tmT hpT) :
  ∀ (n : Nat) (r : Todo) (listed : Array Bool) (tm : List AV) (hp : Heap) (φ : Phi) (a : Act) (w : World), r.length + 1 <= n -> LeftP ol r j f listed -> LClosed ol.toArray listed -> Ywx P ol r tm hp tmT hpT -> r.Pairwise (PairOk ol) -> AllNew r tm hp -> NewFor (keys f.nw) tm hp -> (∀ p ∈ r, ∀ i ∈ keys f.nw, p.2.lacks i) ->
   (∀ p ∈ r, Yww ol.toArray j p.1 \/ (Ind ol p.2 f /\ p.2.quiet)) -> ((Ybf tm = Ybf tmS /\ tm.length = tmS.length) /\ (∀ t, some t ∉ ds -> tm[t]? = tmS[t]?) /\ ∀ (t : Nat) (x : AV), tmS[t]? = some x -> ∃ y, tm[t]? = some y /\ y.isHeld = x.isHeld) -> RepS φ0 φ w0 M R tm hp a w -> a.defers = D -> wpAnyIn (wF r0) 0 P .any ol.toArray Q n listed a w
 | 0, r, listed, tm, hp, φ, a, w, hl, _, _, _, _, _, _, _, _, _, _, _ => by omega
 | n + 1, r, listed, tm, hp, φ, a, w, hl, hL, hc, hch, hpw, hn, hnf, hlk, hor, hJ, hr, hD => by
  have hjl : j < ol.length := (List.getElem?_eq_some_iff.1 hL.at_).1;refine ⟨fun h0 => ?_, fun k hk => ?_⟩
  ·exfalso;have hin : ∀ (i : Nat) (o : Oper), ol[i]? = some o -> i <= j -> (∀ p ∈ r, i <= p.1) -> listed.getD i true = false -> i ∈ Region.ready .any ol.toArray listed := by
    intro i o ho hij hmin hun;refine mem_ready.2 ⟨hun, o, by simpa using ho, fun e he hbi => ?_⟩;have hon := Ykt ol 0 hb i o ho e he hbi;cases hq : listed.getD e.on false with
    | true => rfl
    | false =>
     have h2 : listed.getD e.on true = false := (Yf6 (by rw [hL.size]; omega)).2 hq;obtain ⟨q, hq', e'⟩ := List.mem_map.1 ((hL.iff e.on (by omega)).1 h2);have := hmin q hq';omega
   cases r with
   | nil =>
    have := hin j f.o hL.at_ (Nat.le_refl _) (by simp) hL.self;rw [h0] at this; cases this
   | cons p r =>
    have h1 := hL.lt p List.mem_cons_self;have := hin p.1 p.2.o h1.2 (by omega) (fun q hq => by
     rcases List.mem_cons.1 hq with rfl | hq
     ·exact Nat.le_refl _
     ·exact Nat.le_of_lt ((List.pairwise_cons.1 hL.sorted).1 q hq)) ((hL.iff p.1 h1.1).2 (by simp))
    rw [h0] at this; cases this
  ·obtain ⟨hk0, ok, hok, _⟩ := mem_ready.1 hk;have hkl : k < ol.length := by have := (Array.getElem?_eq_some_iff.1 hok).1; simpa using this
   rcases Nat.lt_trichotomy k j with hkj | hkj | hkj
   ·-- another one
    obtain ⟨q, hq, e⟩ := List.mem_map.1 ((hL.iff k hkj).1 hk0);obtain ⟨k', g⟩ := q;dsimp only at e;subst e;obtain ⟨r1, r2, rfl⟩ := List.append_of_mem hq;have hi : ∀ p ∈ r1, Ind ol p.2 g := fun p hp => by
     have h1 := (List.pairwise_append.1 hpw).2.2 p hp _ List.mem_cons_self;have hm : p ∈ r1 ++ (k', g) :: r2 := List.mem_append_left _ hp;exact h1.ord.resolve_left (Yic hc hk (by rw [hL.size]; have := (hL.lt p hm).1; omega) ((hL.iff p.1 (hL.lt p hm).1).2 (List.mem_map_of_mem hm)))
    obtain ⟨hs, hch2⟩ := pull r1 tm hp hch hpw hn hi;have hlen : (r1 ++ r2).length + 1 <= n := by simp only [List.length_append, List.length_cons] at hl ⊢; omega
    have hnx := hn.step hpw hi;have hsub : (r1 ++ r2).Sublist (r1 ++ (k', g) :: r2) := (List.Sublist.refl r1).append (List.sublist_cons_self _ r2);have hpw2 : (r1 ++ r2).Pairwise (PairOk ol) := hpw.sublist hsub;have ho : ol.toArray[k']? = some g.o := by simpa using (hL.lt _ hq).2
    have hnf2 : NewFor (keys f.nw) (g.tm tm) (g.hp hp) := hnf.step (hlk _ hq);have hmem : g.o ∈ ol := List.mem_of_getElem? (hL.lt _ hq).2;have hJ2 : ∀ v, (Ybf (putA tm g.o.dst v) = Ybf tmS /\ (putA tm g.o.dst v).length = tmS.length) /\ (∀ t, some t ∉ ds -> (putA tm g.o.dst v)[t]? = tmS[t]?) /\ ∀ (t : Nat) (x : AV), tmS[t]? = some x -> ∃ y, (putA tm g.o.dst v)[t]? = some y /\ y.isHeld = x.isHeld := fun v => by
     refine ⟨?_, fun t ht => ?_, fun t x hx => ?_⟩
     ·cases hd : g.o.dst with
      | none => exact hJ.1
      | some d => exact ⟨(Yg7 tm d v).trans hJ.1.1, (Ygo tm d v).trans hJ.1.2⟩
     ·rw [Ylk fun d hd e => ht (by rw [e, <- hd]; exact hds _ hmem)];exact hJ.2.1 t ht
     ·obtain ⟨y, hy, e⟩ := hJ.2.2 t x hx;cases hd : g.o.dst with
      | none => exact ⟨y, hy, e⟩
      | some d =>
       by_cases htd : t = d
       ·subst htd;refine ⟨_, by rw [show putA tm (some t) v = Ycm tm t v from rfl, Ylj, hy]; rfl, ?_⟩
        by_cases hh : y.isHeld = true
        ·simp only [hh, if_true]; rw [<- e, hh]
        ·simp only [hh, if_false, Bool.false_eq_true]; rw [Yr3, <- e]; simpa using hh
       ·exact ⟨y, by rw [show putA tm (some d) v = Ycm tm d v from rfl, Yi3 tm v htd]; exact hy, e⟩
    unfold wpOpIn;simp only [ho];rcases hs.run with ⟨h1, h2, h3, h4, h5⟩ | ⟨h1, h2, h3⟩
    ·rw [h2.at hr.tmps];simp only [Bool.false_eq_true, if_false];have e1 : g.tm tm = putA tm g.o.dst (.v undef) := by unfold Ev.tm; rw [h3]
     have e2 : g.hp hp = hp := by unfold Ev.hp; rw [h4, h5]; rfl
     dsimp only at hch2 hnx;rw [e1, e2] at hch2 hnx hnf2;exact ⟨fun _ _ => trivial, Yrv hb hds hQ hst n (r1 ++ r2) _ _ _ φ _ w hlen hL.step (hc.step hk) hch2 hpw2 hnx hnf2 (fun p hp => hlk p (hsub.subset hp)) (fun p hp => hor p (hsub.subset hp)) (hJ2 _) (hr.skip g.o.dst) (by rw [Ybt, hD])⟩
    ·rw [h2.at hr.tmps];simp only [if_true];exact (Yil h3 hs.part hs.sub ⟨hn (k', g) hq, hs.nd, hs.mod⟩ hr fun φ' w' hr' => Yrv hb hds hQ hst n (r1 ++ r2) _ _ _ φ' _ w' hlen hL.step (hc.step hk) hch2 hpw2 hnx hnf2 (fun p hp => hlk p (hsub.subset hp)) (fun p hp => hor p (hsub.subset hp)) (hJ2 _) hr' (by rw [Ybt, hD])) r0
   ·-- the one that panics
    subst hkj;have hq : ∀ p ∈ r, Ind ol p.2 f /\ p.2.quiet := fun p hp => (hor p hp).resolve_left (Yic hc hk (by rw [hL.size]; have := (hL.lt p hp).1; omega) ((hL.iff p.1 (hL.lt p hp).1).2 (List.mem_map_of_mem hp)));obtain ⟨q1, q2, q3⟩ := Ypm r tm hp hch hq (fun i hi => (hnf i hi).1) hlk;subst q1;have ho : ol.toArray[k]? = some f.o := by simpa using hL.at_
    unfold wpOpIn;simp only [ho];rw [(hst.want.move q2).at hr.tmps];simp only [if_true];have hd := hst.does.move q2 (NewFor.mono_tm (hnf.hs hst.part) q3);have hS : St w0 M (Yb φ f.hs ++ (Yb φ (Yb0 f.hs hpT) ++ R)) w := by
     have := hr.st.perm ((Yv (hst.part.perm hr.nd)).append (List.Perm.refl R));rwa [Yn, List.append_assoc] at this
    refine hd φ w0 M _ a w _ Q (hr.tmps.ops _) (hnf.hs hst.part) hS (fun φ' w' hag hS' => ?_) r0;have hr2 := hr.new_heap hst.part hst.sub ⟨hnf, hst.nd, hst.mod⟩ hag hS' none f.val;have hold : ∀ (t : Nat) (v : AV), (Yfg ds tmS 0)[t]? = some v -> ∃ x, tmS[t]? = some x /\ x.isHeld = v.isHeld /\ (v.rd = true -> v = x /\ some t ∉ ds \/ (x.isHeld = true /\ v = x)) := fun t v hv => by
     rw [Yp4, Option.map_eq_some_iff] at hv;obtain ⟨x, hx, e⟩ := hv;refine ⟨x, hx, ?_⟩
     split at e
     ·rename_i hh;simp only [Bool.and_eq_true, Bool.not_eq_true'] at hh;subst e;exact ⟨hh.2, fun h => by cases h⟩
     ·rename_i hh;subst e;refine ⟨rfl, fun _ => ?_⟩;simp only [Nat.zero_add, Bool.and_eq_true, Bool.not_eq_true', not_and, Bool.not_eq_false] at hh
      by_cases hm : some t ∈ ds
      ·exact .inr ⟨hh (by simpa using hm), rfl⟩
      ·exact .inl ⟨rfl, hm⟩
    have hcur : ∀ (t : Nat) (x : AV), tmS[t]? = some x -> ∃ y, tm[t]? = some y /\ y.isHeld = x.isHeld := fun t x hx => hJ.2.2 t x hx;refine hQ φ' a w' ⟨⟨fun t v hv hh => ?_, fun t v hv hh => ?_, fun t v hv hj => ?_, ?_, by rw [Yjj, <- hJ.1.2]; exact hr2.tmps.len⟩, hr2.st, hr2.nd, hr2.base⟩ hD
    ·obtain ⟨x, hx, e, _⟩ := hold t v hv;obtain ⟨y, hy, e2⟩ := hcur t x hx;exact hr2.tmps.size t y hy (by rw [e2, e, hh])
    ·obtain ⟨x, hx, e, _⟩ := hold t v hv;obtain ⟨y, hy, e2⟩ := hcur t x hx;exact hr2.tmps.held t y hy (by rw [e2, e, hh])
    ·obtain ⟨x, hx, _, h2⟩ := hold t v hv;rcases h2 hj with ⟨rfl, hno⟩ | ⟨hh, rfl⟩
     ·rw [<- hJ.2.1 t hno] at hx;exact hr2.tmps.slot t v hx hj
     ·cases v <;> simp_all [AV.isHeld]
    ·rw [Yf4, <- hJ.1.1];exact hr2.tmps.df
   ·exact absurd (hL.behind k hkj hkl) (Yic hc hk (by rw [hL.size]; exact hjl) hL.self)
end
end Go.Proofs.YtladoaeefkpdiaaGreatDoor
