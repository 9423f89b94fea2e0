/-
  A machine over abstract states, proved sound: the help of the proof of a law.
-/
import Derived.Test.YtbhlmkgliflhaaaGreatQa
import Derived.MapKept
import Derived.ChangeKeysEq
import Derived.RangeFuncRecord
import Derived.OrdersIn
import Derived.LoopNIn
set_option linter.unusedVariables false
set_option linter.unusedSectionVars false
set_option linter.unusedSimpArgs false
namespace Go.Proofs.YtbhlmkgliflhaaaGreat
open Go.RowKit
variable [InW]
def Y1b (c : Cx) (o : Oper) (tm : List AV) (hp : Heap) (k kp : KE) (x : Operand) : Prop :=
 evK tm x fun v => k v [] [] []
def Ywr (c : Cx) (o : Oper) (tm : List AV) (hp : Heap) (k kp : KE) (x : Operand) : Prop :=
 evK tm x fun v => k v [] [] []
def Y09 (c : Cx) (o : Oper) (tm : List AV) (hp : Heap) (k kp : KE) (b : Operand) (x : Operand) (y : Operand) : Prop :=
 evK tm b fun b => (match b with
  | .v (.bool b) => vcIf b (evK tm x fun v => k v [] [] []) (evK tm y fun v => k v [] [] [])
  | _ => Stuck 27)
def Yzj (c : Cx) (o : Oper) (tm : List AV) (hp : Heap) (k kp : KE) (T : TypeId) : Prop :=
 tiK c.tt T fun ti => (match ti.zero with
  | some zs => k (.ptr (3 * o.dst.getD 0) 0) [] [] [(3 * o.dst.getD 0, .blk T zs)]
  | none => Stuck 28)
def Y2h (c : Cx) (o : Oper) (tm : List AV) (hp : Heap) (k kp : KE) (T : TypeId) (x : Operand) : Prop :=
 evK tm x fun v => Yjr v fun cs => k (.ptr (3 * o.dst.getD 0) 0) [] [] [(3 * o.dst.getD 0, .blk T cs)]
def Y1c (c : Cx) (o : Oper) (tm : List AV) (hp : Heap) (k kp : KE) (T : TypeId) (x : Operand) : Prop :=
 evK tm x fun p => (match p with
  | .ptr i j => Y4 hp i fun it => Yxc c.tt T it j fun v => k v [(i, it)] [] []
  | _ => Ybp c o tm hp k)
def Yzd (c : Cx) (o : Oper) (tm : List AV) (hp : Heap) (k kp : KE) (T : TypeId) (x : Operand) (y : Operand) : Prop :=
 evK tm x fun p => evK tm y fun v => (match p with
  | .ptr i j => Y4 hp i fun it => Yjr v fun vs => Yv4 c.tt T it j vs fun it' => k (.v undef) [(i, it)] [(i, it')] []
  | _ => Stuck 29)
def Ysg (c : Cx) (o : Oper) (tm : List AV) (hp : Heap) (k kp : KE) (x : Operand) : Prop :=
 evK tm x fun p => (match p with
  | .ptr i j => k (.ptr i j) [] [] []
  | _ => Ybp c o tm hp k)
def Yqd (c : Cx) (o : Oper) (tm : List AV) (hp : Heap) (k kp : KE) (T : TypeId) (x : Operand) (i : Nat) : Prop :=
 evK tm x fun p => (match p with
  | .ptr id j => tiK c.tt T fun ti => getK ti.fields i fun f => (match f with
   | some (off, n + 1) => fN false (j + off) fun j => k (.ptr id j) [] [] []
   | _ => Stuck 30)
  | _ => Ybp c o tm hp k)
def Yqc (c : Cx) (o : Oper) (tm : List AV) (hp : Heap) (k kp : KE) (T : TypeId) (x : Operand) (ix : Operand) : Prop :=
 evK tm x fun s => evK tm ix fun j => (match s, j with
  | .sl id off lo n, .v (.int kd j) => Y4 hp id fun it => tiK c.tt T fun ti => (match ti.slice with
   | some (e, sz, by_, zs) => Yt0 c hp id it off n sz j k
   | none => Stuck 31)
  | _, _ => Ybp c o tm hp k)
def Yzh (c : Cx) (o : Oper) (tm : List AV) (hp : Heap) (k kp : KE) (T : TypeId) (x : Operand) (ix : Operand) : Prop :=
 evK tm x fun s => evK tm ix fun j => (match s, j with
  | .agg cs, .v (.int kd j) => tiK c.tt T fun ti => (match ti.arr with
   | some (n, sz, b) => Yuj c.sy j n 0 sz fun a => (match b with
    | false => getK cs a fun v => k v [] [] []
    | true => Yjz cs a fun r => Yhk r sz fun vs => k (.agg vs) [] [] [])
   | none => Stuck 32)
  | _, _ => Ybp c o tm hp k)
def Yu8 (c : Cx) (o : Oper) (tm : List AV) (hp : Heap) (k kp : KE) (t : Operand) (i : Nat) : Prop :=
 evK tm t fun v => (match v with
  | .tup cs => getK cs i fun v => k v [] [] []
  | _ => Ybp c o tm hp k)
def Yzi (c : Cx) (o : Oper) (tm : List AV) (hp : Heap) (k kp : KE) (T : TypeId) (ps : Array (Nat × Operand)) : Prop :=
 tiK c.tt T fun ti => (match ti.zero with
  | none => Stuck 33
  | some zs => (match ti.arr with
   | some (n, sz, b) => Ys1 tm (fun i => some (i * sz, sz)) ps.toList zs fun res => k (.agg res) [] [] []
   | none => (match ti.fields with
    | [] => Ybp c o tm hp k
    | f :: fs => vcOp.placesK (f :: fs) fun pl => Ys1 tm (vcOp.nthP pl) ps.toList zs fun res => k (.agg res) [] [] [])))
def Yop (c : Cx) (o : Oper) (tm : List AV) (hp : Heap) (k kp : KE) (T : TypeId) (len : Nat) (ps : Array (Nat × Operand)) : Prop :=
 tiK c.tt T fun ti => (match ti.slice with
  | none => Stuck 34
  | some (e, sz, by_, zs) => Yc (Nat.ble (len * sz) 16777216 && Nat.ble len 16777216 && lenB ps.toList len) (Ytm tm sz 0 ps.toList fun cs => k (.sl (3 * o.dst.getD 0) 0 0 len) [] [] [(3 * o.dst.getD 0, .row e sz len cs)]))
def Ysh (c : Cx) (o : Oper) (tm : List AV) (hp : Heap) (k kp : KE) (fn : Fn) (first : Array Operand) (caught : Array Operand) : Prop :=
 evsK tm first.toList fun fs => evsK tm caught.toList fun cs => k (.fn fn fs cs) [] [] []
def Yqb (c : Cx) (o : Oper) (tm : List AV) (hp : Heap) (k kp : KE) (T : TypeId) (x : Operand) (y : Operand) : Prop :=
 evK tm x fun x => evK tm y fun y => (match x, y with
  | .v (.int kl (.ofNat n)), .v (.int kc (.ofNat m)) => tiK c.tt T fun ti => (match ti.slice with
   | none => Stuck 35
   | some (e, sz, by_, zs) => Yc (Nat.beq n m && Nat.ble (by_ * n) 281474976710656 && Nat.ble n 16777216 && lenB zs sz) (repK zs n fun cs => k (.sl (3 * o.dst.getD 0) 0 0 n) [] [] [(3 * o.dst.getD 0, .row e sz n cs)]))
  | _, _ => Ybp c o tm hp k)
def Yzf (c : Cx) (o : Oper) (tm : List AV) (hp : Heap) (k kp : KE) (T : TypeId) (x : Operand) : Prop :=
 evK tm x fun s => (match s, c.P.underlying T with
  | .v (.string s), some .string => k (.ptr (3 * o.dst.getD 0) 0) [] [] [(3 * o.dst.getD 0, .obj (.sit s 0))]
  | _, _ => Stuck 65)
def Y1a (c : Cx) (o : Oper) (tm : List AV) (hp : Heap) (k kp : KE) (x : Operand) (b : Bool) : Prop :=
 evK tm x fun p => (match p, b with
  | .ptr i 0, true => Y4 hp i fun it => (match it with
   | .obj (.sit s p) => (match Nat.blt p s.size with
    | true => Yt3 (Utf8.decode s p).1 fun ch => Y3 (p + (Utf8.decode s p).2) fun q => k (.tup [.v (.bool true), .v (.int .i64 (p : Int)), .v (.int .i32 ch)]) [(i, .obj (.sit s p))] [(i, .obj (.sit s q))] []
    | false => k (.tup [.v (.bool false)]) [(i, .obj (.sit s p))] [(i, .obj (.sit s p))] [])
   | _ => Stuck 66)
  | _, _ => Stuck 67)
def Yu7 (c : Cx) (o : Oper) (tm : List AV) (hp : Heap) (k kp : KE) (T : TypeId) (r : Option Operand) : Prop :=
 (match r with | none => k (.mp (3 * o.dst.getD 0)) [] [] [(3 * o.dst.getD 0, .obj (.mpV [] 0))] | some _ => Stuck 68)
def Ywq (c : Cx) (o : Oper) (tm : List AV) (hp : Heap) (k kp : KE) (T : TypeId) (x : Operand) (ix : Operand) (ok : Bool) : Prop :=
 evK tm x fun m => evK tm ix fun i => (match m with
  | .mp j => Y4 hp j fun it => (match it with
   | .obj (.mpV es clock) => (match c.P.underlying T with
    | some (.map key elem) => Yjj i fun i => Yu3 c.P (Yg9 T es.toArray i ok) fun v => Yt2 v fun v => k (.v v) [(j, .obj (.mpV es clock))] [] []
    | _ => Stuck 69)
   | _ => Stuck 70)
  | _ => Ybp c o tm hp k)
def Yqa (c : Cx) (o : Oper) (tm : List AV) (hp : Heap) (k kp : KE) (T : TypeId) (x : Operand) (ix : Operand) (y : Operand) : Prop :=
 evK tm x fun m => evK tm ix fun i => evK tm y fun y => (match m with
  | .mp j => Y4 hp j fun it => (match it with
   | .obj (.mpV es clock) => (match c.P.underlying T with
    | some (.map key elem) => Yjj i fun i => Yjj y fun y => Yu3 c.P (Ygw T es.toArray clock i y) fun r => k (.v undef) [(j, .obj (.mpV es clock))] [(j, .obj (.mpV r.1.toList r.2))] []
    | _ => Stuck 71)
   | _ => Stuck 72)
  | _ => Stuck 73)
def Yze (c : Cx) (o : Oper) (tm : List AV) (hp : Heap) (k kp : KE) (T : TypeId) (x : Operand) (lo : Option Operand) (hi : Option Operand) (mx : Option Operand) : Prop :=
 evK tm x fun s => (match s with
  | .sl i off lo' n => Yv6 c T (3 * o.dst.getD 0) tm i off lo' n lo hi mx hp k
  | _ => Ybp c o tm hp k)
def Y1d (c : Cx) (o : Oper) (tm : List AV) (hp : Heap) (k kp : KE) (cl : Call) : Prop :=
 (match cl.callee with
  | .value f => evK tm f fun fv => funK fv fun g fs cs => evsK tm cl.args.toList fun vs => Yc (Ye7 c.P g) (appK vs cs fun r => appK fs r fun all => c.callH g all hp (o.dst.getD 0) k kp)
  | .builtin b => (match b, cl.args.toList with
   | .len, [x] => evK tm x fun v => (match v with
    | .sl _ _ _ n => (match cl.argTypes.toList with
     | [T] => tiK c.tt T fun ti => (match ti.slice with
      | some (e, sz, by_, zs) => k (.v (.int .i64 (n : Int))) [] [] []
      | none => Stuck 36)
     | _ => Stuck 37)
    | _ => Ybp c o tm hp k)
   | .append, [s, x] => (match cl.argTypes.toList with
    | [T, T'] => Yc (Nat.beq T T') (evK tm s fun s => evK tm x fun x => Ys9 c T (3 * o.dst.getD 0) s x hp k)
    | _ => Stuck 38)
   | _, _ => Ybp c o tm hp k)
  | _ => Stuck 39)
def Yzg (c : Cx) (o : Oper) (tm : List AV) (hp : Heap) (k kp : KE) (x : Operand) : Prop :=
 evK tm x fun v => (match v with
  | .v (.iface t y) => kp (.v (.iface t y)) [] [] []
  | .ifc t y => kp (.ifc t y) [] [] []
  | _ => Stuck 40)
def Ydf (c : Cx) (o : Oper) (tm : List AV) (hp : Heap) (k kp : KE) : Prop :=
 match o.op with
 | .move x => Y1b c o tm hp k kp x
 | .assign x => Ywr c o tm hp k kp x
 | .pick b x y => Y09 c o tm hp k kp b x y
 | .alloc T => Yzj c o tm hp k kp T
 | .box T x => Y2h c o tm hp k kp T x
 | .load T x => Y1c c o tm hp k kp T x
 | .store T x y => Yzd c o tm hp k kp T x y
 | .nilCheck x => Ysg c o tm hp k kp x
 | .fieldAddr T x i => Yqd c o tm hp k kp T x i
 | .indexAddr T x ix => Yqc c o tm hp k kp T x ix
 | .index T x ix => Yzh c o tm hp k kp T x ix
 | .extract t i => Yu8 c o tm hp k kp t i
 | .build T ps => Yzi c o tm hp k kp T ps
 | .buildSlice T len ps => Yop c o tm hp k kp T len ps
 | .makeFunc fn first caught => Ysh c o tm hp k kp fn first caught
 | .makeSlice T x y => Yqb c o tm hp k kp T x y
 | .range T x => Yzf c o tm hp k kp T x
 | .next x b => Y1a c o tm hp k kp x b
 | .makeMap T r => Yu7 c o tm hp k kp T r
 | .lookup T x ix ok => Ywq c o tm hp k kp T x ix ok
 | .mapUpdate T x ix y => Yqa c o tm hp k kp T x ix y
 | .slice T x lo hi mx => Yze c o tm hp k kp T x lo hi mx
 | .call cl => Y1d c o tm hp k kp cl
 | .panic x => Yzg c o tm hp k kp x
 | _ => Ybp c o tm hp k
theorem Yyv (c : Cx) (o : Oper) (tm : List AV) (hp : Heap) (k kp : KE) : Ydf c o tm hp k kp = vcOp c o tm hp k kp := by
 obtain ⟨dst, op, type, pos, after, guard⟩ := o;cases op <;> rfl
end Go.Proofs.YtbhlmkgliflhaaaGreat
namespace Go.Proofs.YtbhlmkgliflhaaaGreat
open Go.RowKit
variable [InW]
variable {P : Program} {tm : List AV} {dst : Option Tmp} {type : TypeId} {pos : String} {after : Array Edge} {guard : Option (Nat × Bool)}
def getI : List (Int × Int) -> Int -> Int
 | [], _ => 0
 | p :: es, k => if p.1 = k then p.2 else getI es k
def setI : List (Int × Int) -> Int -> Int -> List (Int × Int)
 | [], k, v => [(k, v)]
 | p :: es, k, v => if p.1 = k then (k, v) :: es else p :: setI es k v
theorem Yt8 : ∀ (es : List (Int × Int)) (n : Nat) (k v : Int), entI n (es ++ [(k, v)]) = entI n es ++ [⟨.int .i64 k, .int .i64 v, n + es.length⟩]
 | [], n, k, v => rfl
 | p :: es, n, k, v => by simp [entI, Yt8 es (n + 1) k v]; omega
theorem Yt7 : ∀ (es : List (Int × Int)) (n j : Nat), (entI n es)[j]? = (es[j]?).map fun p => ⟨.int .i64 p.1, .int .i64 p.2, n + j⟩
 | [], _, _ => by simp [entI]
 | p :: es, n, 0 => by simp [entI]
 | p :: es, n, j + 1 => by simp [entI, Yt7 es (n + 1) j, show n + 1 + j = n + (j + 1) by omega]
theorem Ylq : ∀ (es : List (Int × Int)) (n j : Nat) (k v : Int), (entI n es).modify j (fun e => { e with key := .int .i64 k, val := .int .i64 v }) = entI n (es.set j (k, v))
 | [], n, j, k, v => by simp [entI]
 | p :: es, n, 0, k, v => by simp [entI]
 | p :: es, n, j + 1, k, v => by simp [entI, Ylq es (n + 1) j k v]
theorem Yln (k : Int) : ∀ (es : List (Int × Int)) (n i : Nat),
  (∃ j, j < es.length /\ Instr.findNow (.int .i64) (.int .i64 k) (entI n es) i = some (some (i + j, .int .i64 (getI es k))) /\ (es[j]?).map (·.1) = some k /\ ∀ v, setI es k v = es.set j (k, v)) \/
  (Instr.findNow (.int .i64) (.int .i64 k) (entI n es) i = some none /\ getI es k = 0 /\ ∀ v, setI es k v = es ++ [(k, v)])
 | [], n, i => .inr ⟨rfl, rfl, fun v => rfl⟩
 | p :: es, n, i => by
  by_cases e : p.1 = k
  ·refine .inl ⟨0, by simp, ?_, by simp [e], fun v => by simp [setI, e]⟩;have : Instr.sameNow (.int .i64) (.int .i64 k) (.int .i64 p.1) = some true := by simp [Instr.sameNow, e]
   simp only [e] at this;simp [entI, Instr.findNow, this, getI, e]
  ·have : Instr.sameNow (.int .i64) (.int .i64 k) (.int .i64 p.1) = some false := by simp [Instr.sameNow, Ne.symm e]
   rcases Yln k es (n + 1) (i + 1) with ⟨j, h0, h1, h2, h3⟩ | ⟨h1, h2, h3⟩
   ·exact .inl ⟨j + 1, by simpa using h0, by simp [entI, Instr.findNow, this, h1, getI, e]; omega, by simpa using h2, fun v => by simp [setI, e, h3 v]⟩
   ·exact .inr ⟨by simp [entI, Instr.findNow, this, h1], by simp [getI, e, h2], fun v => by simp [setI, e, h3 v]⟩
def Yqk (P : Program) (T : TypeId) : Bool :=
 match P.underlying T with
 | some (.map key elem) => (match P.underlying key with
  | some (.int .i64) => (match P.info? elem with
   | some i => (match i.zero with | some (.int .i64 n) => decide (n = 0) | _ => false)
   | none => false)
  | _ => false)
 | _ => false
theorem Ygd {T : TypeId} (h : Yqk P T = true) : ∃ key elem i, P.underlying T = some (.map key elem) /\ P.underlying key = some (.int .i64) /\ P.info? elem = some i /\ i.zero = some (.int .i64 0) := by
 unfold Yqk at h
 split at h
 ·rename_i key elem hu
  split at h
  ·rename_i hk
   split at h
   ·rename_i i hi
    split at h
    ·rename_i n hz;obtain rfl := of_decide_eq_true h;exact ⟨key, elem, i, hu, hk, hi, hz⟩
    ·cases h
   ·cases h
  ·cases h
 ·cases h
theorem Y1h {T : TypeId} (h : Yqk P T = true) (es : List (Int × Int)) (k : Int) (w : World) : (Yg9 T (entI 0 es).toArray (.int .i64 k) false).run P w = .ok (.int .i64 (getI es k)) w := by
 obtain ⟨key, elem, i, hu, hk, hi, hz⟩ := Ygd h;have hkey : MapKept.IsKey (.int .i64) (.int .i64 k) := by simp [MapKept.IsKey]
 have hc := MapKept.run_checkKey (w := w) hk hkey (entI 0 es).toArray.isEmpty 9999;unfold Yg9;rcases Yln k es 0 0 with ⟨j, h0, h1, h2, h3⟩ | ⟨h1, h2, h3⟩
 ·have hf := MapKept.run_findKey (w := w) hk h1;simp only [Sem.run_bind, run_underlying hu w, Result.andThen_ok, hc, hf, Sem.run_pure, Bool.false_eq_true, if_false]
 ·have hf := MapKept.run_findKey (w := w) hk h1;have hzr : (zeroValue elem).run P w = .ok (.int .i64 0) w := by simp [zeroValue, typeInfo, hi, hz]
  simp only [Sem.run_bind, run_underlying hu w, Result.andThen_ok, hc, hf, Sem.run_pure, Bool.false_eq_true, if_false, hzr, h2]
theorem Y0z {T : TypeId} (h : Yqk P T = true) (es : List (Int × Int)) (k v : Int) (w : World) : (Ygw T (entI 0 es).toArray es.length (.int .i64 k) (.int .i64 v)).run P w = .ok ((entI 0 (setI es k v)).toArray, (setI es k v).length) w := by
 obtain ⟨key, elem, i, hu, hk, hi, hz⟩ := Ygd h;have hkey : MapKept.IsKey (.int .i64) (.int .i64 k) := by simp [MapKept.IsKey]
 have hc := MapKept.run_checkKey (w := w) hk hkey false 9999;unfold Ygw;rcases Yln k es 0 0 with ⟨j, h0, h1, h2, h3⟩ | ⟨h1, h2, h3⟩
 ·have hf := MapKept.run_findKey (w := w) hk h1;rw [Nat.zero_add] at hf;have hget : ((entI 0 es).toArray[j]?.map (·.key)).getD (.int .i64 k) = .int .i64 k := by
   simp only [List.getElem?_toArray, Yt7];cases hj : es[j]? with
   | none => rfl
   | some p => rw [hj] at h2; simp at h2; simp [h2]
  have hs := MapKept.run_keyThatStays (P := P) (w := w) hkey;have hm : ((entI 0 es).toArray.modify j fun e => { e with key := .int .i64 k, val := .int .i64 v }) = (entI 0 (setI es k v)).toArray := by
   rw [h3 v, <- Ylq];apply Array.ext';simp
  have hlen : (setI es k v).length = es.length := by rw [h3 v]; simp
  simp only [Sem.run_bind, run_underlying hu w, Result.andThen_ok, hc, hf, hget, hs, Sem.run_pure, hm, hlen]
 ·have hf := MapKept.run_findKey (w := w) hk h1;have hp : (entI 0 es).toArray.push { key := .int .i64 k, val := .int .i64 v, born := es.length } = (entI 0 (setI es k v)).toArray := by
   rw [h3 v, Yt8];simp
  have hlen : (setI es k v).length = es.length + 1 := by rw [h3 v]; simp
  simp only [Sem.run_bind, run_underlying hu w, Result.andThen_ok, hc, hf, Sem.run_pure, hp, hlen]
theorem Yx1 {T : TypeId} {x ix : Operand} {id : Nat} {es : List (Int × Int)} {iv : AV} {k : Int} (h : Yqk P T = true) (hx : At tm x (.mp id)) (hi : At tm ix iv) (hj : iv.rd = true) (hk : ∀ φ, iv.conc φ = .int .i64 k) :
  Does P { dst, op := .lookup T x ix false, type, pos, after, guard } tm [(id, .obj (.mpI es))] (.si .i64 (getI es k)) [] [] := by
 obtain ⟨key, elem, i, hu, _⟩ := Ygd h;exact fun φ w0 M R a w K Q ho hn hS kk => Yub (v := .int .i64 (getI es k)) (es := entI 0 es) (clock := es.length) hu hx hi hj hk (fun w => Y1h h es k w) φ w0 M R a w K Q ho (fun j hj => ⟨(hn j hj).1, (hn j hj).2⟩) hS kk
theorem Yxt {T : TypeId} {x ix y : Operand} {id : Nat} {es : List (Int × Int)} {iv yv : AV} {k v : Int} (h : Yqk P T = true) (hx : At tm x (.mp id)) (hi : At tm ix iv) (hj : iv.rd = true) (hk : ∀ φ, iv.conc φ = .int .i64 k) (hy : At tm y yv) (hyj : yv.rd = true) (hyk : ∀ φ, yv.conc φ = .int .i64 v) :
  Does P { dst, op := .mapUpdate T x ix y, type, pos, after, guard } tm [(id, .obj (.mpI es))] (.v undef) [(id, .obj (.mpI (setI es k v)))] [] := by
 obtain ⟨key, elem, i, hu, _⟩ := Ygd h;have := Yua (P := P) (tm := tm) (dst := dst) (type := type) (pos := pos) (after := after) (guard := guard) (es := entI 0 es) (clock := es.length) (id := id) hu hx hi hj hk hy hyj hyk (r := ((entI 0 (setI es k v)).toArray, (setI es k v).length)) (fun w => Y0z h es k v w);exact fun φ w0 M R a w K Q ho hn hS kk => this φ w0 M R a w K Q ho (fun j hj => ⟨(hn j hj).1, (hn j hj).2⟩) hS (fun φ' w' hag hS' => kk φ' w' hag (by simpa [Yh, upd, Nat.beq_refl, Yb, It.conc, OI.obj] using hS'))
end Go.Proofs.YtbhlmkgliflhaaaGreat
namespace Go.Proofs.YtbhlmkgliflhaaaGreat
open Go.RowKit
variable [InW]
attribute [local irreducible] Go.Oper.wp
section
variable {P : Program} {tm : List AV} {dst : Option Tmp} {type : TypeId} {pos : String} {after : Array Edge} {guard : Option (Nat × Bool)}
def Yw4 (lit : Bool) (b : Bool) (A : Prop) : Prop := match lit with | true => Yc b A | false => Need b A
theorem Ygb {lit b : Bool} {A : Prop} (h : Yw4 lit b A) : b = true /\ A := by
 cases lit
 ·exact Y0d.1 h
 ·exact Ya h
def andI (k : IntKind) (m n : Int) : Int := k.wrap (BitVec.ofInt k.bits m &&& BitVec.ofInt k.bits n).toNat
def orI (k : IntKind) (m n : Int) : Int := k.wrap (BitVec.ofInt k.bits m ||| BitVec.ofInt k.bits n).toNat
def xorI (k : IntKind) (m n : Int) : Int := k.wrap (BitVec.ofInt k.bits m ^^^ BitVec.ofInt k.bits n).toNat
def Yym (k : IntKind) (m n : Int) : Int := k.wrap (BitVec.ofInt k.bits m &&& ~~~(BitVec.ofInt k.bits n)).toNat
abbrev K1 := AV -> Prop
def arK (k : IntKind) (n : Int) (K : K1) : Prop := Ar k n fun z => K (.si k z)
def binI (op : BinOp) (ka kb : IntKind) (m n : Int) (lit : Bool) (K : K1) : Prop :=
 match op with
 | .shl => Yw4 lit (decide (0 <= n)) (arK ka (m * 2 ^ (min n.toNat ka.bits)) K)
 | .shr => Yw4 lit (decide (0 <= n)) (K (.si ka (m.fdiv (2 ^ (min n.toNat ka.bits)))))
 | .add => Yc (decide (ka = kb)) (arK ka (m + n) K)
 | .sub => Yc (decide (ka = kb)) (arK ka (m - n) K)
 | .mul => Yc (decide (ka = kb)) (arK ka (m * n) K)
 | .quo => Yc (decide (ka = kb)) (Yw4 lit (!decide (n = 0)) (arK ka (m.tdiv n) K))
 | .rem => Yc (decide (ka = kb)) (Yw4 lit (!decide (n = 0)) (K (.si ka (m.tmod n))))
 | .and => Yc (decide (ka = kb)) (K (.si ka (andI ka m n)))
 | .or => Yc (decide (ka = kb)) (K (.si ka (orI ka m n)))
 | .xor => Yc (decide (ka = kb)) (K (.si ka (xorI ka m n)))
 | .andNot => Yc (decide (ka = kb)) (K (.si ka (Yym ka m n)))
 | .eql => Yc (decide (ka = kb)) (K (.sb (decide (m = n))))
 | .neq => Yc (decide (ka = kb)) (K (.sb (!decide (m = n))))
 | .lss => Yc (decide (ka = kb)) (K (.sb (decide (m < n))))
 | .leq => Yc (decide (ka = kb)) (K (.sb (decide (m <= n))))
 | .gtr => Yc (decide (ka = kb)) (K (.sb (decide (n < m))))
 | .geq => Yc (decide (ka = kb)) (K (.sb (decide (n <= m))))
def Yin (P : Program) (op : BinOp) (T : TypeId) (x y : Operand) (u v r : Value) : Prop := ∀ w, (do eqGuard op T x y u v; binOp op T u v : Sem Value).run P w = .ok r w
theorem d_bin {op : BinOp} {T T' : TypeId} {x y : Operand} {a b r : AV} (hx : At tm x a) (hy : At tm y b) (ja : a.rd = true) (jb : b.rd = true) (h : ∀ φ, Yin P op T x y (a.conc φ) (b.conc φ) (r.conc φ)) : Does P { dst, op := .binOp op T x y T', type, pos, after, guard } tm [] r [] [] :=
 fun φ w0 M R ac w K Q ho _ hS kk => Y0i (ho.ev (by simp [Op.operands]) hx ja) (ho.ev (by simp [Op.operands]) hy jb) (h φ w) (kk φ w (Agree.refl _ _) hS)
theorem Yl0 {op : BinOp} {ka kb : IntKind} {m n : Int} {lit : Bool} {K : K1} (h : binI op ka kb m n lit K) (T : TypeId) (x y : Operand) : ∃ r, K r /\ ∀ φ, Yin P op T x y (.int ka m) (.int kb n) (r.conc φ) := by
 cases op <;> dsimp only [binI] at h
 case shl =>
  obtain ⟨h1, ⟨h2⟩⟩ := Ygb h;refine ⟨_, h2, fun φ w => ?_⟩;have : ¬ n < 0 := by simpa using h1
  simp [eqGuard, binOp, Op.shift, this, AV.conc]
 case shr =>
  obtain ⟨h1, h2⟩ := Ygb h;refine ⟨_, h2, fun φ w => ?_⟩;have : ¬ n < 0 := by simpa using h1
  simp [eqGuard, binOp, Op.shift, this, AV.conc]
 case quo =>
  obtain ⟨h0, h⟩ := Ya h;obtain ⟨h1, ⟨h2⟩⟩ := Ygb h;obtain rfl := of_decide_eq_true h0;refine ⟨_, h2, fun φ w => ?_⟩;have : ¬ n = 0 := by simpa using h1
  simp [eqGuard, binOp, Op.intDiv, this, AV.conc]
 case rem =>
  obtain ⟨h0, h⟩ := Ya h;obtain ⟨h1, h2⟩ := Ygb h;obtain rfl := of_decide_eq_true h0;refine ⟨_, h2, fun φ w => ?_⟩;have : ¬ n = 0 := by simpa using h1
  simp [eqGuard, binOp, Op.intDiv, this, AV.conc]
 case add | sub | mul =>
  obtain ⟨h0, ⟨h1⟩⟩ := Ya h;obtain rfl := of_decide_eq_true h0;exact ⟨_, h1, fun φ w => by simp [eqGuard, binOp, Op.intArith, AV.conc]⟩
 all_goals
  obtain ⟨h0, h1⟩ := Ya h;obtain rfl := of_decide_eq_true h0;refine ⟨_, h1, fun φ w => ?_⟩
 case and | or | xor | andNot => simp [eqGuard, binOp, Op.intBits, AV.conc, andI, orI, xorI, Yym]
 case lss | leq | gtr | geq => simp [eqGuard, binOp, Op.intCmp, AV.conc]
 case eql | neq => simp [eqGuard, binOp, Op.intCmp, AV.conc]; rfl
theorem Yjx {d : Nat} {T : TypeId} (hu : P.underlying T = some .bool) (p q : Bool) (w : World) : (Op.equalIn (d + 1) T (.bool p) (.bool q)).run P w = .ok (p == q) w := by
 simp [Op.equalIn, Sem.run_bind, run_underlying hu w]
theorem Ygl {T : TypeId} (hu : P.underlying T = some .bool) (p q : Bool) (w : World) : (Op.equal T (.bool p) (.bool q)).run P w = .ok (p == q) w := Yjx (d := 9999) hu p q w
def binB (P : Program) (op : BinOp) (T : TypeId) (p q : Bool) (K : K1) : Prop :=
 match P.underlying T with
 | some .bool => (match op with | .eql => K (.sb (p == q)) | .neq => K (.sb (!(p == q))) | _ => Stuck 301)
 | _ => Stuck 302
theorem Yl1 {op : BinOp} {T : TypeId} {p q : Bool} {K : K1} (h : binB P op T p q K) (x y : Operand) : ∃ r, K r /\ ∀ φ, Yin P op T x y (.bool p) (.bool q) (r.conc φ) := by
 unfold binB at h
 split at h
 ·rename_i hu;cases op <;> simp only at h
  case eql => exact ⟨_, h, fun φ w => by simp [eqGuard, binOp, Ygl hu, AV.conc, Sem.run_bind]⟩
  case neq => exact ⟨_, h, fun φ w => by simp [eqGuard, binOp, Ygl hu, AV.conc, Sem.run_bind]⟩
  all_goals exact h.elim
 ·exact h.elim
def eqS (s t : ByteArray) : Bool := s.toList == t.toList
def binS (op : BinOp) (s t : ByteArray) (K : K1) : Prop :=
 match op with | .eql => K (.sb (eqS s t)) | .neq => K (.sb (!eqS s t)) | _ => Stuck 303
theorem Ylz {op : BinOp} {T : TypeId} {s t : ByteArray} {K : K1} (h : binS op s t K) (x y : Operand) : ∃ r, K r /\ ∀ φ, Yin P op T x y (.string s) (.string t) (r.conc φ) := by
 unfold binS at h;cases op <;> simp only at h
 case eql => exact ⟨_, h, fun φ w => by simp [eqGuard, binOp, Op.stringOp, eqS, AV.conc]⟩
 case neq => exact ⟨_, h, fun φ w => by simp [eqGuard, binOp, Op.stringOp, eqS, AV.conc]⟩
 all_goals exact h.elim
def eq1K (P : Program) (T : TypeId) (a b : AV) (K : Bool -> Bool -> Prop) : Prop :=
 match P.underlying T with
 | some (.int k) => (match a, b with
  | .si ka m, .si kb n => Yc (decide (ka = kb)) (K false (decide (m = n)))
  | .si ka m, .v (.int kb n) => Yc (decide (ka = kb)) (K false (decide (m = n)))
  | .v (.int ka m), .si kb n => Yc (decide (ka = kb)) (K false (decide (m = n)))
  | .v (.int ka m), .v (.int kb n) => Yc (decide (ka = kb)) (K true (decide (m = n)))
  | _, _ => Stuck 360)
 | some .bool => (match a, b with
  | .sb p, .sb q => K false (p == q)
  | .sb p, .v (.bool q) => K false (p == q)
  | .v (.bool p), .sb q => K false (p == q)
  | .v (.bool p), .v (.bool q) => K true (p == q)
  | _, _ => Stuck 361)
 | some .string => (match a, b with
  | .ss s, .ss t => K false (eqS s t)
  | .ss s, .v (.string t) => K false (eqS s t)
  | .v (.string s), .ss t => K false (eqS s t)
  | .v (.string s), .v (.string t) => K true (eqS s t)
  | _, _ => Stuck 362)
 | _ => Stuck 363
def Ygi (x : AV) (K : List AV -> Prop) : Prop := match x with | .agg xs => K xs | .v (.agg cs) => K (cs.toList.map .v) | _ => Stuck 364
def Yj1 (P : Program) (T : TypeId) : Bool := match P.underlying T with | some (.struct _) => true | _ => false
def Y11 (P : Program) (T : TypeId) : Option Bool := (P.underlying T).map fun d => match d with | .struct _ | .array _ _ => true | _ => false
def subK (P : Program) (T : TypeId) (xs : List AV) (off : Nat) (K : AV -> Prop) : Prop :=
 match Y11 P T with
 | some true => (match (P.info? T).map (·.size) with | some n => K (.agg ((xs.drop off).take n)) | none => Stuck 365)
 | some false => getK xs off fun x => Ytp x K
 | none => Stuck 366
def Y1n (P : Program) (rec : TypeId -> AV -> AV -> (Bool -> Bool -> Prop) -> Prop) (xs ys : List AV) : List Field -> (Bool -> Bool -> Prop) -> Prop
 | [], K => K true true
 | f :: fs, K => Yc (f.name != "_") (subK P f.type xs f.offset fun a => subK P f.type ys f.offset fun b => rec f.type a b fun l1 r1 => Y1n P rec xs ys fs fun l2 r2 => K (l1 && l2) (r1 && r2))
def Y0b (P : Program) (T : TypeId) : Option (Nat × TypeId × Nat) := match P.underlying T with | some (.array n e) => (P.info? e).map fun _ => (n, e, P.cellsOf e) | _ => none
def Y1m (P : Program) (rec : TypeId -> AV -> AV -> (Bool -> Bool -> Prop) -> Prop) (e : TypeId) (c : Nat) (xs ys : List AV) : List Nat -> (Bool -> Bool -> Prop) -> Prop
 | [], K => K true true
 | i :: is, K => subK P e xs (i * c) fun a => subK P e ys (i * c) fun b => rec e a b fun l1 r1 => Y1m P rec e c xs ys is fun l2 r2 => K (l1 && l2) (r1 && r2)
def eqK (P : Program) : Nat -> TypeId -> AV -> AV -> (Bool -> Bool -> Prop) -> Prop
 | 0, _, _, _, _ => Stuck 367
 | d + 1, T, a, b, K => match Yj1 P T with
  | true => Ygi a fun xs => Ygi b fun ys => Yc (!P.stoodInHeld T) (Y1n P (eqK P d) xs ys (P.fieldsOf T).toList K)
  | false => (match Y0b P T with
   | some (n, e, c) => Ygi a fun xs => Ygi b fun ys => Y1m P (eqK P d) e c xs ys (List.range n) K
   | none => eq1K P T a b K)
theorem Yxo {T : TypeId} {a b : AV} {K : Bool -> Bool -> Prop} (h : eq1K P T a b K) : ∃ l r, K l r /\ ∀ φ d w, (Op.equalIn (d + 1) T (a.conc φ) (b.conc φ)).run P w = .ok r w := by
  have hb : ∀ (m n : Int), (m == n) = decide (m = n) := fun m n => by by_cases e : m = n <;> simp [e]
  unfold eq1K at h
  split at h
  · rename_i k hu
    split at h <;> first
      | exact h.elim
      | (obtain ⟨h1, h2⟩ := Ya h
         obtain rfl := of_decide_eq_true h1;exact ⟨_, _, h2, fun φ d w => by simp only [AV.conc, run_equalIn_int w d T _ _ _ _ hu, hb]⟩)
  · rename_i hu
    split at h <;> first
      | exact h.elim
      | exact ⟨_, _, h, fun φ d w => by simp only [AV.conc, run_equalIn_bool' w d T _ _ hu]⟩
  · rename_i hu
    split at h <;> first
      | exact h.elim
      | exact ⟨_, _, h, fun φ d w => by simp only [AV.conc, run_equalIn_string w d T _ _ hu, eqS]⟩
  · exact h.elim
theorem Ydg {x : AV} {K : List AV -> Prop} (h : Ygi x K) : ∃ xs, K xs /\ ∀ φ, x.conc φ = .agg (AV.concL φ xs).toArray := by
 unfold Ygi at h
 split at h
 ·exact ⟨_, h, fun φ => rfl⟩
 ·exact ⟨_, h, fun φ => by simp [AV.conc, Yy, Function.comp_def]⟩
 ·exact h.elim
theorem Yff {T : TypeId} {xs : List AV} {off : Nat} {K : AV -> Prop} (h : subK P T xs off K) : ∃ x, K x /\ ∀ φ w, (part T (AV.concL φ xs).toArray off).run P w = .ok (x.conc φ) w := by
 unfold subK at h
 split at h
 ·rename_i hw
  split at h
  ·rename_i n hn;refine ⟨_, h, fun φ w => ?_⟩;have ha : Ygk P T true := hw;have hs : Yci P T n := hn;have e : (AV.concL φ xs).toArray.extract off (off + n) = (AV.concL φ ((xs.drop off).take n)).toArray := by
    simp [Yy, List.map_take, List.map_drop]
   simp only [part, Sem.run_bind, Ydn ha, Result.andThen_ok, if_true, Ybj hs, Sem.run_pure, e, AV.conc]
  ·exact h.elim
 ·rename_i hw;obtain ⟨x, hx, h2⟩ := Ybn h;obtain ⟨_, h3⟩ := Yg6 h2;refine ⟨_, h3, fun φ w => ?_⟩;have ha : Ygk P T false := hw;have e : (AV.concL φ xs).toArray[off]? = some (x.conc φ) := by simp [Yy, hx]
  simp only [part, Sem.run_bind, Ydn ha, Result.andThen_ok, Bool.false_eq_true, if_false, e, Sem.run_pure]
 ·exact h.elim
theorem Ynv {d : Nat} {rec : TypeId -> AV -> AV -> (Bool -> Bool -> Prop) -> Prop} (hrec : ∀ T a b K, rec T a b K -> ∃ l r, K l r /\ ∀ φ D w, (Op.equalIn (D + d) T (a.conc φ) (b.conc φ)).run P w = .ok r w) {xs ys : List AV} :
  ∀ {fs : List Field} {K : Bool -> Bool -> Prop}, Y1n P rec xs ys fs K -> ∃ l r, K l r /\ ∀ φ D w, (Op.eqFields (D + d) (AV.concL φ xs).toArray (AV.concL φ ys).toArray fs).run P w = .ok r w
 | [], K, h => ⟨_, _, h, fun φ D w => rfl⟩
 | f :: fs, K, h => by
  obtain ⟨h1, h2⟩ := Ya h;obtain ⟨a, h3, h4⟩ := Yff h2;obtain ⟨b, h5, h6⟩ := Yff h3;obtain ⟨l1, r1, h7, h8⟩ := hrec _ _ _ _ h5;obtain ⟨l2, r2, h9, h10⟩ := Ynv hrec h7;refine ⟨_, _, h9, fun φ D w => ?_⟩;have hn : f.name ≠ "_" := by simpa using h1
  simp only [Op.eqFields, Sem.run_ite, hn, ne_eq, not_false_eq_true, if_true, Sem.run_bind, h4 φ w, Result.andThen_ok, h6 φ w, h8 φ D w];cases r1
  ·simp [Sem.run_pure]
  ·simpa using h10 φ D w
theorem Ynu {d : Nat} {rec : TypeId -> AV -> AV -> (Bool -> Bool -> Prop) -> Prop} (hrec : ∀ T a b K, rec T a b K -> ∃ l r, K l r /\ ∀ φ D w, (Op.equalIn (D + d) T (a.conc φ) (b.conc φ)).run P w = .ok r w) {e : TypeId} {c : Nat} {xs ys : List AV} :
  ∀ {is : List Nat} {K : Bool -> Bool -> Prop}, Y1m P rec e c xs ys is K -> ∃ l r, K l r /\ ∀ φ D w, (Op.eqItems (D + d) e c (AV.concL φ xs).toArray (AV.concL φ ys).toArray is).run P w = .ok r w
 | [], K, h => ⟨_, _, h, fun φ D w => rfl⟩
 | i :: is, K, h => by
  obtain ⟨a, h3, h4⟩ := Yff h;obtain ⟨b, h5, h6⟩ := Yff h3;obtain ⟨l1, r1, h7, h8⟩ := hrec _ _ _ _ h5;obtain ⟨l2, r2, h9, h10⟩ := Ynu hrec h7;refine ⟨_, _, h9, fun φ D w => ?_⟩;simp only [Op.eqItems, Sem.run_bind, h4 φ w, Result.andThen_ok, h6 φ w, h8 φ D w];cases r1
  ·simp [Sem.run_pure]
  ·simpa using h10 φ D w
theorem Yka : ∀ (d : Nat) (T : TypeId) (a b : AV) (K : Bool -> Bool -> Prop), eqK P d T a b K -> ∃ l r, K l r /\ ∀ φ D w, (Op.equalIn (D + d) T (a.conc φ) (b.conc φ)).run P w = .ok r w
 | 0, _, _, _, _, h => h.elim
 | d + 1, T, a, b, K, h => by
  unfold eqK at h
  split at h
  ·rename_i hs;obtain ⟨xs, h1, e1⟩ := Ydg h;obtain ⟨ys, h2, e2⟩ := Ydg h1;obtain ⟨h3, h4⟩ := Ya h2;obtain ⟨l, r, h5, h6⟩ := Ynv (d := d) (fun T a b K => Yka d T a b K) h4;refine ⟨l, r, h5, fun φ D w => ?_⟩;have hu : P.underlying T = some (.struct (P.fieldsOf T)) := by
    unfold Yj1 at hs;unfold Program.fieldsOf
    split at hs
    ·rename_i fs hu; rw [hu]
    ·cases hs
   rw [e1, e2, show D + (d + 1) = (D + d) + 1 from rfl, run_equalIn_struct w (D + d) T _ _ hu (by simpa using h3)];exact h6 φ D w
  ·split at h
   ·rename_i n e c ha;obtain ⟨xs, h1, e1⟩ := Ydg h;obtain ⟨ys, h2, e2⟩ := Ydg h1;obtain ⟨l, r, h5, h6⟩ := Ynu (d := d) (fun T a b K => Yka d T a b K) h2;refine ⟨l, r, h5, fun φ D w => ?_⟩;unfold Y0b at ha
    split at ha
    ·rename_i n' e' hu;rw [Option.map_eq_some_iff] at ha;obtain ⟨i, hi, he⟩ := ha;cases he;rw [e1, e2, show D + (d + 1) = (D + d) + 1 from rfl, run_equalIn_array w (D + d) _ _ hu hi];exact h6 φ D w
    ·cases ha
   ·obtain ⟨l, r, h1, h2⟩ := Yxo h;exact ⟨l, r, h1, fun φ D w => h2 φ (D + d) w⟩
def binA (P : Program) (op : BinOp) (T : TypeId) (a b : AV) (K : K1) : Prop :=
 match op with
 | .eql => Yc (!P.eqGuardType P.depth T && (Yj1 P T || (Y0b P T).isSome)) (eqK P 9 T a b fun l r => match l with | false => K (.sb r) | true => (match r with | true => K (.v (.bool true)) | false => K (.v (.bool false))))
 | .neq => Yc (!P.eqGuardType P.depth T && (Yj1 P T || (Y0b P T).isSome)) (eqK P 9 T a b fun l r => match l with | false => K (.sb (!r)) | true => (match r with | true => K (.v (.bool false)) | false => K (.v (.bool true))))
 | _ => Stuck 368
theorem Yl2 {op : BinOp} {T : TypeId} {a b : AV} {K : K1} (h : binA P op T a b K) (x y : Operand) (ha : ∀ φ, ∃ xs, a.conc φ = .agg xs) (hb : ∀ φ, ∃ xs, b.conc φ = .agg xs) : ∃ r, K r /\ ∀ φ, Yin P op T x y (a.conc φ) (b.conc φ) (r.conc φ) := by
 unfold binA at h
 split at h
 ·obtain ⟨h1, h2⟩ := Ya h;simp only [Bool.and_eq_true, Bool.not_eq_true'] at h1;obtain ⟨l, r, h3, h4⟩ := Yka _ _ _ _ _ h2;have fin : ∀ v : AV, (∀ φ, v.conc φ = .bool r) -> K v -> ∃ r, K r /\ ∀ φ, Yin P .eql T x y (a.conc φ) (b.conc φ) (r.conc φ) := fun v hv hk => by
   refine ⟨v, hk, fun φ w => ?_⟩;obtain ⟨xs, ea⟩ := ha φ;obtain ⟨ys, eb⟩ := hb φ;have h5 := h4 φ 9991 w;rw [ea, eb] at h5 ⊢;simp only [Sem.run_bind, run_eqGuard_agg w .eql T x y xs ys h1.1, Result.andThen_ok, run_eql_struct, h5, hv]
  cases l
  ·exact fin _ (fun φ => rfl) h3
  ·cases r
   ·exact fin _ (fun φ => rfl) h3
   ·exact fin _ (fun φ => rfl) h3
 ·obtain ⟨h1, h2⟩ := Ya h;simp only [Bool.and_eq_true, Bool.not_eq_true'] at h1;obtain ⟨l, r, h3, h4⟩ := Yka _ _ _ _ _ h2;have fin : ∀ v : AV, (∀ φ, v.conc φ = .bool (!r)) -> K v -> ∃ r, K r /\ ∀ φ, Yin P .neq T x y (a.conc φ) (b.conc φ) (r.conc φ) := fun v hv hk => by
   refine ⟨v, hk, fun φ w => ?_⟩;obtain ⟨xs, ea⟩ := ha φ;obtain ⟨ys, eb⟩ := hb φ;have h5 := h4 φ 9991 w;rw [ea, eb] at h5 ⊢;simp only [Sem.run_bind, run_eqGuard_agg w .neq T x y xs ys h1.1, Result.andThen_ok, run_neq_struct, h5, hv]
  cases l
  ·exact fin _ (fun φ => rfl) h3
  ·cases r
   ·exact fin _ (fun φ => rfl) h3
   ·exact fin _ (fun φ => rfl) h3
 ·exact h.elim
end
end Go.Proofs.YtbhlmkgliflhaaaGreat
namespace Go.Proofs.YtbhlmkgliflhaaaGreat
open Go.RowKit
variable [InW]
attribute [local irreducible] Go.Oper.wp
section
variable {P : Program} {tm : List AV} {dst : Option Tmp} {type : TypeId} {pos : String} {after : Array Edge} {guard : Option (Nat × Bool)}
noncomputable def Y0v : (t : Ty) -> (u : Value) -> (c : Cl) -> RdV t u c -> AV
 | .int k, _, c, _ => .si k c.int
 | .bool, _, c, _ => .sb c.bool
 | .str, _, c, _ => .ss c.str
 | .sl ts, u, c, h => .rs ts ⟨(u, c.lst), h.lst⟩
theorem Ys7 (φ : Phi) (t : Ty) (u : Value) (c : Cl) (h : RdV t u c) : (Y0v t u c h).conc φ = u := by
 cases t with
 | int k => exact h.isInt.symm
 | bool => exact h.isBool.symm
 | str => exact h.isStr.symm
 | sl ts => rfl
noncomputable def Ym6 {ts : List Ty} (r : Ro ts) (i k : Nat) : AV := Y0v (tyAt ts k) (r.val i k) (cel r.xs i k) (r.ok i k)
noncomputable def Yd8 {ts : List Ty} (r : Ro ts) (i : Nat) : Nat -> Nat -> List AV
 | _, 0 => []
 | k, n + 1 => Ym6 r i k :: Yd8 r i (k + 1) n
theorem Yk0 {ts : List Ty} (r : Ro ts) (i : Nat) : ∀ (n k j : Nat), (Yd8 r i k n)[j]? = if j < n then some (Ym6 r i (k + j)) else none
 | 0, k, j => by simp [Yd8]
 | n + 1, k, 0 => by simp [Yd8]
 | n + 1, k, j + 1 => by simp [Yd8, Yk0 r i n (k + 1) j, show k + 1 + j = k + (j + 1) by omega]
theorem Ygm {ts : List Ty} (r : Ro ts) (i : Nat) : ∀ (n k : Nat), (Yd8 r i k n).length = n
 | 0, _ => rfl
 | n + 1, k => by simp [Yd8, Ygm r i n]
def Yiw (t : Ty) (c : Cl) : AV :=
 match t with
 | .int k => .si k c.int
 | .bool => .sb c.bool
 | .str => .ss c.str
 | .sl _ => .v (.slice none 0 0)
theorem Yfm (φ : Phi) (t : Ty) (c : Cl) : (Yiw t c).conc φ = t.val c := by cases t <;> rfl
noncomputable def Yc2 (ts : List Ty) (xs : Dt) (i : Nat) : Nat -> Nat -> List AV
 | _, 0 => []
 | k, n + 1 => Yiw (tyAt ts k) (cel xs i k) :: Yc2 ts xs i (k + 1) n
theorem Yjm (ts : List Ty) (xs : Dt) (i : Nat) : ∀ (n k j : Nat), (Yc2 ts xs i k n)[j]? = if j < n then some (Yiw (tyAt ts (k + j)) (cel xs i (k + j))) else none
 | 0, k, j => by simp [Yc2]
 | n + 1, k, 0 => by simp [Yc2]
 | n + 1, k, j + 1 => by simp [Yc2, Yjm ts xs i n (k + 1) j, show k + 1 + j = k + (j + 1) by omega]
theorem Yfl (ts : List Ty) (xs : Dt) (i : Nat) : ∀ (n k : Nat), (Yc2 ts xs i k n).length = n
 | 0, _ => rfl
 | n + 1, k => by simp [Yc2, Yfl ts xs i n]
theorem Yxj {w0 w : World} {M : List Nat} {L : RL} (h : St w0 M L w) {p : Addr} {v : Value} (hb : p.block < InW.B) (hv : InW.w.cell? p = some v) : w.cell? p = some v := (h.belowIn.cell hb).trans hv
theorem Yx5 {T e sz by_ : Nat} {zs : List AV} {x ix : Operand} {ts : List Ty} {r : Ro ts} {iv : AV} {kd : IntKind} {i : Int} (ht : (mkTI P T).slice = some (e, sz, by_, zs)) (hsz : sz = ts.length) (hx : At tm x (.rs ts r)) (hi : At tm ix iv) (hij : iv.rd = true) (hiv : ∀ φ, iv.conc φ = .int kd i)
  (h0 : 0 <= i) (h1 : i < (r.xs.length : Int)) : Does P { dst, op := .indexAddr T x ix, type, pos, after, guard } tm [] (.rp ts r i.toNat 0) [] [] :=
 fun φ w0 M R a w K Q ho _ hS kk => by
  subst hsz;obtain ⟨A, c, hv, _, _, u, h2, _⟩ := r.inv;obtain ⟨b, off, rfl, hb, _⟩ := h2 (fun e => by rw [e] at h1; simp at h1; omega);have e1 := ho.ev (x := x) (by simp [Op.operands]) hx (by simp);have e2 := ho.ev (x := ix) (by simp [Op.operands]) hi hij;simp only [AV.conc, hv] at e1;rw [hiv φ] at e2;refine Yoo (Yj ht φ).1 e1 e2 h0 h1 rfl ?_;have := kk φ w (Agree.refl _ _) hS;simpa [AV.conc, hv, Ycp] using this
theorem Yx7 {T : TypeId} {x : Operand} {j off i k : Nat} {ts : List Ty} {r : Ro ts} (hf : Yhd P T j off) (hx : At tm x (.rp ts r i k)) : Does P { dst, op := .fieldAddr T x j, type, pos, after, guard } tm [] (.rp ts r i (k + off)) [] [] :=
 fun φ w0 M R a w K Q ho _ hS kk => by
  have e1 := ho.ev (x := x) (by simp [Op.operands]) hx (by simp);simp only [AV.conc] at e1;rw [Yl8] at e1;refine Ysf hf e1 rfl ?_;have := kk φ w (Agree.refl _ _) hS;simp only [AV.conc] at this;rw [<- Nat.add_assoc, Yjc] at this;exact this
theorem Y2a {w0 w : World} {M : List Nat} {L : RL} (h : St w0 M L w) {ts : List Ty} (r : Ro ts) {i k : Nat} (hi : i < r.xs.length) (hk : k < ts.length) (φ : Phi) : w.cell? (Ycp r.v (i * ts.length + k)) = some ((Ym6 r i k).conc φ) := by
 have := r.cell hi hk;unfold Ym6;rw [Ys7];exact Yxj h this.2 this.1
theorem Yx3 {T : TypeId} {x : Operand} {i k : Nat} {ts : List Ty} {r : Ro ts} (ha : Ygk P T false) (hx : At tm x (.rp ts r i k)) (hi : i < r.xs.length) (hk : k < ts.length) : Does P { dst, op := .load T x, type, pos, after, guard } tm [] (Ym6 r i k) [] [] :=
 fun φ w0 M R a w K Q ho _ hS kk => by
  have h2 := Yp (ho.ev (x := x) (by simp [Op.operands]) hx (by simp));simp only [AV.conc] at h2;unfold Oper.wp execOp;simp only [h2, Sem.run_bind, Yc7 ha (Y2a hS r hi hk φ), Result.andThen_ok, Sem.run_pure, Oper.upon];exact kk φ w (Agree.refl _ _) hS
theorem Yx2 {T : TypeId} {x : Operand} {i k n : Nat} {ts : List Ty} {r : Ro ts} (ha : Ygk P T true) (hs : Yci P T n) (hx : At tm x (.rp ts r i k)) (hi : i < r.xs.length) (hk : k + n <= ts.length) : Does P { dst, op := .load T x, type, pos, after, guard } tm [] (.agg (Yd8 r i k n)) [] [] :=
 fun φ w0 M R a w K Q ho _ hS kk => by
  have h2 := Yp (ho.ev (x := x) (by simp [Op.operands]) hx (by simp));simp only [AV.conc] at h2;rw [Yl8] at h2;have hcs : Ypg w (Ycp r.v (i * ts.length + k)).block (Ycp r.v (i * ts.length + k)).off (AV.concL φ (Yd8 r i k n)) := fun j u hj => by
   rw [Yb9, Yk0] at hj
   split at hj
   ·rename_i hjn;simp only [Option.map_some, Option.some.injEq] at hj;subst hj;have := Y2a hS r hi (k := k + j) (by omega) φ;rw [<- Nat.add_assoc, Yjc] at this;exact this
   ·cases hj
  unfold Oper.wp execOp;simp only [h2, Sem.run_bind, Yd5 ha hs (by rw [Ye, Ygm]) hcs, Result.andThen_ok, Sem.run_pure, Oper.upon];exact kk φ w (Agree.refl _ _) hS
theorem Yo9 {T e sz by_ : Nat} {zs : List AV} {x : Operand} {xv : AV} {n : Nat} {hs : Heap} (ht : (mkTI P T).slice = some (e, sz, by_, zs)) (hx : At tm x xv) (hj : xv.rd = true)
  (hv : ∀ (φ : Phi) (w0 : World) (M : List Nat) (R : RL) (w : World), St w0 M (Yb φ hs ++ R) w -> ∃ A c, xv.conc φ = .slice A n c) : Does P { dst, op := .call { callee := .builtin .len, args := #[x], argTypes := #[T] }, type, pos, after, guard } tm hs (.si .i64 (n : Int)) [] [] :=
 fun φ w0 M R a w K Q ho _ hS kk => by
  obtain ⟨A, c, h1⟩ := hv φ w0 M R w hS;have e1 := ho.ev (x := x) (by simp [Op.operands, Call.operands]) hx hj;rw [h1] at e1;exact Y2f (Yj ht φ).1 e1 (kk φ w (Agree.refl _ _) (by simpa [Yh] using hS))
def BoundS (tm : List AV) (x : Option Operand) (dflt k : Nat) : Prop := match x with | none => k = dflt | some x => ∃ kd v, At tm x v /\ v.rd = true /\ ∀ φ, v.conc φ = .int kd (k : Int)
theorem BoundS.is {φ : Phi} {a : Act} {x : Option Operand} {dflt k : Nat} (h : BoundS tm x dflt k) (ho : ∀ y, x = some y -> ∀ v, At tm y v -> v.rd = true -> a.eval y = v.conc φ) : Yee (x.map a.eval) dflt k := by
 cases x with
 | none => exact h
 | some y =>
  obtain ⟨kd, v, hy, hj, hv⟩ := h;simp only [Option.map_some, ho y rfl _ hy hj, hv φ, Yee]
theorem Yxw {T e sz by_ l h : Nat} {zs : List AV} {x : Operand} {hi lop : Option Operand} {ts : List Ty} {r : Ro ts} (ht : (mkTI P T).slice = some (e, sz, by_, zs)) (hsz : sz = ts.length) (hx : At tm x (.rs ts r)) (hl : BoundS tm lop 0 l) (hh : BoundS tm hi r.xs.length h) (h1 : l <= h) (h2 : h <= r.xs.length) :
  Does P { dst, op := .slice T x lop hi none, type, pos, after, guard } tm [] (.rs ts (r.cut l h)) [] [] :=
 fun φ w0 M R a w K Q ho _ hS kk => by
  subst hsz;obtain ⟨A, c, hv, hc, _⟩ := r.inv;have e1 := ho x (by simp [Op.operands]) _ hx (by simp);simp only [AV.conc, hv] at e1;have hr := Ydm (w := w) (Yj ht φ).1 A (n := r.xs.length) (c := c) (l := l) (h := h) (hl.is (φ := φ) (a := a) fun y hy => ho y (by simp [Op.operands, hy])) (hh.is (φ := φ) (a := a) fun y hy => ho y (by simp [Op.operands, hy])) h1 (by omega);rw [<- e1] at hr;unfold Oper.wp;rw [Ycx hr];have h3 := kk φ w (Agree.refl _ _) hS;simp only [AV.conc, r.cut_v l h h1 h2, hv, Ro.cutV] at h3;exact h3
theorem Yzy {T e sz by_ : Nat} {zs : List AV} {x : Operand} {hi mx : Operand} {ts : List Ty} {r : Ro ts} (ht : (mkTI P T).slice = some (e, sz, by_, zs)) (hx : At tm x (.rs ts r)) (hh : BoundS tm (some hi) 1 0) (hm : BoundS tm (some mx) 1 0) :
  Does P { dst, op := .slice T x none (some hi) (some mx), type, pos, after, guard } tm [] (.rs ts r.zero) [] [] :=
 fun φ w0 M R a w K Q ho _ hS kk => by
  obtain ⟨A, c, hv, hc, _⟩ := r.inv;have e1 := ho x (by simp [Op.operands]) _ hx (by simp);simp only [AV.conc, hv] at e1;obtain ⟨k1, v1, a1, b1, c1⟩ := hh;obtain ⟨k2, v2, a2, b2, c2⟩ := hm;have e2 := ho hi (by simp [Op.operands]) _ a1 b1;have e3 := ho mx (by simp [Op.operands]) _ a2 b2;rw [c1 φ] at e2;rw [c2 φ] at e3;have hr := Yjh (w := w) (Yj ht φ).1 A (n := r.xs.length) (c := c) (h := 0) (m := 0) e2 e3 (Nat.le_refl _) (Nat.zero_le _);rw [<- e1] at hr;unfold Oper.wp;rw [Ycx (lo := none) (hi := some hi) (mx := some mx) hr];have h3 := kk φ w (Agree.refl _ _) hS;simp only [AV.conc, r.zero_v, hv, zeroV] at h3;simp only [Oper.upon, if_true];exact h3
theorem Yja {w0 w : World} {M : List Nat} {R : RL} {φ : Phi} {id T : Nat} {ts : List Ty} {xs : Dt} (hts : 0 < ts.length) (h : St w0 M ((It.arr T ts xs).conc φ id :: R) w) : (φ id).fn = xs.length /\ w.ownsRow 0 T ts.length (.slice (if (φ id).nil then none else some ⟨(φ id).b, 0, none⟩) (φ id).fn (φ id).c) (φ id).fn (Yt ts xs) := by
 have hh : w.ownsRow 0 T ts.length (.slice (if (φ id).nil then none else some ⟨(φ id).b, 0, none⟩) (φ id).fn (φ id).c) (φ id).fn (Yt ts xs) := h.look Look.head;refine ⟨?_, hh⟩;have := hh.1;rw [Y2] at this;exact (Nat.eq_of_mul_eq_mul_right hts this).symm
theorem Yer {w0 w : World} {M : List Nat} {R : RL} {φ : Phi} {id T : Nat} {ts : List Ty} {xs : Dt} (hts : 0 < ts.length) (hn : 0 < xs.length) (h : St w0 M ((It.arr T ts xs).conc φ id :: R) w) : (φ id).nil = false := by
 obtain ⟨e, hh⟩ := Yja hts h;cases hnil : (φ id).nil with
 | false => rfl
 | true =>
  rw [hnil] at hh;rcases hh.2 with ⟨_, h0⟩ | ⟨g, cap, cur, hg, _⟩
  ·omega
  ·simp at hg
theorem Ype {w0 w : World} {M : List Nat} {R : RL} {φ : Phi} {id T : Nat} {ts : List Ty} {xs : Dt} (hts : 0 < ts.length) (h : St w0 M ((It.arr T ts xs).conc φ id :: R) w) : xs.length <= (φ id).c /\ xs.length <= maxLen := by
 obtain ⟨e, hh⟩ := Yja hts h;rcases hh.2 with ⟨_, h0⟩ | ⟨g, cap, cur, hg, _, _, hnc, hm, _⟩
 ·omega
 ·simp only [Value.slice.injEq] at hg; omega
def OwnSl (T : Nat) (ts : List Ty) (xs : Dt) (id n : Nat) (x : AV) : Prop := (x = .rw id /\ n = xs.length) \/ (x = .sl id 0 0 n /\ n <= xs.length)
theorem OwnSl.rd {T : Nat} {ts : List Ty} {xs : Dt} {id n : Nat} {x : AV} (h : OwnSl T ts xs id n x) : x.rd = true := by rcases h with ⟨rfl, _⟩ | ⟨rfl, _⟩ <;> rfl
theorem OwnSl.conc {T : Nat} {ts : List Ty} {xs : Dt} {id n : Nat} {x : AV} (h : OwnSl T ts xs id n x) (hts : 0 < ts.length) {w0 w : World} {M : List Nat} {R : RL} {φ : Phi} (hS : St w0 M ((It.arr T ts xs).conc φ id :: R) w) :
  x.conc φ = .slice (if (φ id).nil then none else some ⟨(φ id).b, 0, none⟩) n (φ id).c /\ n <= xs.length := by
 rcases h with ⟨rfl, rfl⟩ | ⟨rfl, hn⟩
 ·exact ⟨by simp only [AV.conc, (Yja hts hS).1], Nat.le_refl _⟩
 ·exact ⟨by simp [AV.conc], hn⟩
theorem Yra {T e sz by_ T' : Nat} {zs : List AV} {x ix : Operand} {ts : List Ty} {xs : Dt} {id n : Nat} {xv iv : AV} {kd : IntKind} {i : Int} (ht : (mkTI P T).slice = some (e, sz, by_, zs)) (hsz : sz = ts.length) (hts : 0 < ts.length) (hx : At tm x xv) (ho2 : OwnSl T' ts xs id n xv) (hi : At tm ix iv) (hij : iv.rd = true) (hiv : ∀ φ, iv.conc φ = .int kd i)
  (h0 : 0 <= i) (h1 : i < (n : Int)) : Does P { dst, op := .indexAddr T x ix, type, pos, after, guard } tm [(id, .arr T' ts xs)] (.ep id ts.length i.toNat 0) [] [] :=
 fun φ w0 M R a w K Q ho _ hS kk => by
  subst hsz;obtain ⟨hc, hn⟩ := ho2.conc hts hS;have hnil := Yer hts (by omega) hS;have e1 := ho.ev (x := x) (by simp [Op.operands]) hx ho2.rd;have e2 := ho.ev (x := ix) (by simp [Op.operands]) hi hij;rw [hc, hnil] at e1;rw [hiv φ] at e2;simp only [Bool.false_eq_true, if_false] at e1;refine Yoo (Yj ht φ).1 e1 e2 h0 h1 rfl ?_;have := kk φ w (Agree.refl _ _) hS;simpa [AV.conc] using this
theorem Yoi {T : Nat} {ts : List Ty} {xs : Dt} {id l n : Nat} (hts : 0 < ts.length) {w0 w : World} {M : List Nat} {R : RL} {φ : Phi} (hS : St w0 M ((It.arr T ts xs).conc φ id :: R) w) (hl : l + n <= xs.length) (hn : 0 < n) :
  (AV.rwp id ts.length l n).conc φ = .slice (some ⟨(φ id).b, l * ts.length, none⟩) n ((φ id).c - l) := by
 have hc := (Ype hts hS).1;have hnil := Yer hts (by omega) hS;simp only [AV.conc, hnil, Bool.false_eq_true, if_false];rw [if_neg (show ¬ (φ id).c = l by omega), Option.map_some, Ym, Nat.zero_add]
theorem Yvk {T e sz by_ T' : Nat} {zs : List AV} {x ix : Operand} {ts : List Ty} {xs : Dt} {id l n : Nat} {iv : AV} {kd : IntKind} {i : Int} (ht : (mkTI P T).slice = some (e, sz, by_, zs)) (hsz : sz = ts.length) (hts : 0 < ts.length) (hx : At tm x (.rwp id ts.length l n)) (hl : l + n <= xs.length) (hi : At tm ix iv) (hij : iv.rd = true) (hiv : ∀ φ, iv.conc φ = .int kd i)
  (h0 : 0 <= i) (h1 : i < (n : Int)) : Does P { dst, op := .indexAddr T x ix, type, pos, after, guard } tm [(id, .arr T' ts xs)] (.ep id ts.length (l + i.toNat) 0) [] [] :=
 fun φ w0 M R a w K Q ho _ hS kk => by
  subst hsz;have hc := Yoi hts hS hl (show 0 < n by omega);have e1 := ho.ev (x := x) (by simp [Op.operands]) hx (by simp);have e2 := ho.ev (x := ix) (by simp [Op.operands]) hi hij;rw [hc] at e1;rw [hiv φ] at e2;refine Yoo (Yj ht φ).1 e1 e2 h0 h1 rfl ?_;have := kk φ w (Agree.refl _ _) hS;simpa [AV.conc, Nat.add_mul] using this
theorem Yxv {T e sz by_ l h T' : Nat} {zs : List AV} {x : Operand} {hi lop : Option Operand} {ts : List Ty} {xs : Dt} {id : Nat} (ht : (mkTI P T).slice = some (e, sz, by_, zs)) (hsz : sz = ts.length) (hts : 0 < ts.length) (hx : At tm x (.rw id)) (hl : BoundS tm lop 0 l) (hh : BoundS tm hi xs.length h) (h1 : l <= h) (h2 : h <= xs.length) :
  Does P { dst, op := .slice T x lop hi none, type, pos, after, guard } tm [(id, .arr T' ts xs)] (.rwp id ts.length l (h - l)) [] [] :=
 fun φ w0 M R a w K Q ho _ hS kk => by
  subst hsz;have hS' : St w0 M ((It.arr T' ts xs).conc φ id :: R) w := hS;have hc := (Ype hts hS').1;have hf := (Yja hts hS').1;have e1 := ho x (by simp [Op.operands]) _ hx (by simp);simp only [AV.conc, hf] at e1;have hr := Ydm (w := w) (Yj ht φ).1 (if (φ id).nil then none else some ⟨(φ id).b, 0, none⟩) (n := xs.length) (c := (φ id).c) (l := l) (h := h) (hl.is (φ := φ) (a := a) fun y hy => ho y (by simp [Op.operands, hy])) (hh.is (φ := φ) (a := a) fun y hy => ho y (by simp [Op.operands, hy])) h1 (by omega);rw [<- e1] at hr;unfold Oper.wp;rw [Ycx hr];exact kk φ w (Agree.refl _ _) hS
theorem Yx8 {T : TypeId} {x : Operand} {j off id sz i k : Nat} (hf : Yhd P T j off) (hx : At tm x (.ep id sz i k)) : Does P { dst, op := .fieldAddr T x j, type, pos, after, guard } tm [] (.ep id sz i (k + off)) [] [] :=
 fun φ w0 M R a w K Q ho _ hS kk => Ysf hf (ho.ev (by simp [Op.operands]) hx (by simp)) (by rw [Nat.add_assoc]) (kk φ w (Agree.refl _ _) hS)
theorem Ykc {ts : List Ty} {xs : Dt} {T : Nat} {i k : Nat} (hi : i < xs.length) (hk : k < ts.length) (φ : Phi) : ((It.arr T ts xs).vals φ)[i * ts.length + k]? = some ((Yiw (tyAt ts k) (cel xs i k)).conc φ) := by
 rw [Yfm];simp only [It.vals, Yie ts xs i k hi hk, List.getElem?_eq_getElem hk, Option.map_some, Yfd, List.getD_eq_getElem?_getD, Option.getD_some]
theorem Yq8 {T : TypeId} {x : Operand} {id i k T' : Nat} {ts : List Ty} {xs : Dt} (ha : Ygk P T false) (hx : At tm x (.ep id ts.length i k)) (hi : i < xs.length) (hk : k < ts.length) : Does P { dst, op := .load T x, type, pos, after, guard } tm [(id, .arr T' ts xs)] (Yiw (tyAt ts k) (cel xs i k)) [] [] :=
 fun φ w0 M R a w K Q ho _ hS kk => by
  have h2 := Yp (ho.ev (x := x) (by simp [Op.operands]) hx (by simp));simp only [AV.conc] at h2;unfold Oper.wp execOp;simp only [h2, Sem.run_bind, Yc7 ha (Y7 hS (Ykc (T := T') hi hk φ)), Result.andThen_ok, Sem.run_pure, Oper.upon];exact kk φ w (Agree.refl _ _) hS
theorem Yx4 {T : TypeId} {x : Operand} {id i k n T' : Nat} {ts : List Ty} {xs : Dt} (ha : Ygk P T true) (hs : Yci P T n) (hx : At tm x (.ep id ts.length i k)) (hi : i < xs.length) (hk : k + n <= ts.length) : Does P { dst, op := .load T x, type, pos, after, guard } tm [(id, .arr T' ts xs)] (.agg (Yc2 ts xs i k n)) [] [] :=
 fun φ w0 M R a w K Q ho _ hS kk => by
  have h2 := Yp (ho.ev (x := x) (by simp [Op.operands]) hx (by simp));simp only [AV.conc] at h2;have hcs : Ypg w (φ id).b (i * ts.length + k) (AV.concL φ (Yc2 ts xs i k n)) := fun j u hj => by
   rw [Yb9, Yjm] at hj
   split at hj
   ·rename_i hjn;simp only [Option.map_some, Option.some.injEq] at hj;subst hj;rw [Nat.add_assoc];exact Y7 hS (Ykc (T := T') hi (by omega) φ)
   ·cases hj
  unfold Oper.wp execOp;simp only [h2, Sem.run_bind, Yd5 ha hs (by rw [Ye, Yfl]) hcs, Result.andThen_ok, Sem.run_pure, Oper.upon];exact kk φ w (Agree.refl _ _) hS
end
end Go.Proofs.YtbhlmkgliflhaaaGreat
namespace Go.Proofs.YtbhlmkgliflhaaaGreat
open Go.RowKit
variable [InW]
attribute [local irreducible] Go.Oper.wp
section
variable {P : Program} {tm : List AV} {dst : Option Tmp} {type : TypeId} {pos : String} {after : Array Edge} {guard : Option (Nat × Bool)}
def clK (t : Ty) (x : AV) (K : Cl -> Prop) : Prop :=
 match t with
 | .int k => (match x with | .si k' n => Yc (decide (k' = k)) (K (.i n)) | .v (.int k' n) => Yc (decide (k' = k)) (K (.i n)) | _ => Stuck 310)
 | .bool => (match x with | .sb b => K (.b b) | .v (.bool b) => K (.b b) | _ => Stuck 311)
 | .str => (match x with | .ss s => K (.s s) | .v (.string s) => K (.s s) | _ => Stuck 312)
 | .sl _ => Stuck 313
theorem Ykb {t : Ty} {x : AV} {K : Cl -> Prop} (h : clK t x K) : ∃ c, K c /\ (∀ φ, x.conc φ = t.val c) /\ (∀ i, x.has i = false) := by
 unfold clK at h
 split at h
 ·split at h
  ·obtain ⟨h1, h2⟩ := Ya h;obtain rfl := of_decide_eq_true h1;exact ⟨_, h2, fun φ => rfl, fun i => rfl⟩
  ·obtain ⟨h1, h2⟩ := Ya h;obtain rfl := of_decide_eq_true h1;exact ⟨_, h2, fun φ => rfl, fun i => rfl⟩
  ·exact h.elim
 ·split at h
  ·exact ⟨_, h, fun φ => rfl, fun i => rfl⟩
  ·exact ⟨_, h, fun φ => rfl, fun i => rfl⟩
  ·exact h.elim
 ·split at h
  ·exact ⟨_, h, fun φ => rfl, fun i => rfl⟩
  ·exact ⟨_, h, fun φ => rfl, fun i => rfl⟩
  ·exact h.elim
 ·exact h.elim
def clsK : List Ty -> List AV -> (List Cl -> Prop) -> Prop
 | [], [], K => K []
 | t :: ts, x :: xs, K => clK t x fun c => clsK ts xs fun cs => K (c :: cs)
 | _, _, _ => Stuck 314
theorem Yik : ∀ {ts : List Ty} {xs : List AV} {K : List Cl -> Prop}, clsK ts xs K -> ∃ cs, K cs /\ (∀ φ, AV.concL φ xs = Yx ts cs) /\ cs.length = ts.length /\ xs.length = ts.length /\ ∀ i, AV.hasL i xs = false
 | [], [], K, h => ⟨[], h, fun φ => rfl, rfl, rfl, fun i => rfl⟩
 | t :: ts, x :: xs, K, h => by
  obtain ⟨c, h1, h2, h3⟩ := Ykb h;obtain ⟨cs, h4, h5, h6, h7, h8⟩ := Yik h1;exact ⟨c :: cs, h4, fun φ => by simp [AV.concL, Yx, h2 φ, h5 φ], by simp [h6], by simp [h7], fun i => by simp [AV.hasL, h3 i, h8 i]⟩
 | [], _ :: _, _, h => h.elim
 | _ :: _, [], _, h => h.elim
def Yr6 (ts : List Ty) : Nat -> List AV -> (Dt -> Prop) -> Prop
 | 0, [], K => K []
 | 0, _ :: _, _ => Stuck 315
 | m + 1, cs, K => Yhk cs ts.length fun r => Yjz cs ts.length fun rest => clsK ts r fun l => Yr6 ts m rest fun ys => K (l :: ys)
theorem Ydi {ts : List Ty} : ∀ {m : Nat} {cs : List AV} {K : Dt -> Prop}, Yr6 ts m cs K -> ∃ ys, K ys /\ ys.length = m /\ (∀ φ, AV.concL φ cs = Yt ts ys) /\ ∀ i, AV.hasL i cs = false
 | 0, [], K, h => ⟨[], h, rfl, fun φ => rfl, fun i => rfl⟩
 | 0, _ :: _, _, h => h.elim
 | m + 1, cs, K, h => by
  obtain ⟨h1, h2⟩ := Ybr h;obtain ⟨h3, h4⟩ := Yb5 h2;obtain ⟨l, h5, h6, h7, h8, h9⟩ := Yik h4;obtain ⟨ys, k1, k2, k3, k4⟩ := Ydi h5;refine ⟨l :: ys, k1, by simp [k2], fun φ => ?_, fun i => ?_⟩
  ·conv => lhs; rw [<- List.take_append_drop ts.length cs]
   rw [Ybs, h6 φ, k3 φ];rfl
  ·rw [<- List.take_append_drop ts.length cs, Yk, List.any_append, <- Yk, <- Yk, h9 i, k4 i];rfl
def Y0h : Ty -> Cl
 | .int _ => .i 0
 | .bool => .b false
 | .str => .s ByteArray.empty
 | .sl _ => .l []
def Ygr : List Ty -> List Cl
 | [] => []
 | t :: ts => Y0h t :: Ygr ts
def tyK (x : AV) (K : Ty -> Prop) : Prop :=
 match x with
 | .v (.int k n) => Yc (decide (n = 0)) (K (.int k))
 | .v (.bool b) => (match b with | false => K .bool | true => Stuck 316)
 | .v (.string s) => Yc (Nat.beq s.size 0) (K .str)
 | .v (.slice none 0 0) => K (.sl [])
 | _ => Stuck 317
def tysK : List AV -> (List Ty -> Prop) -> Prop
 | [], K => K []
 | x :: xs, K => tyK x fun t => tysK xs fun ts => K (t :: ts)
theorem Yyw {x : AV} {K : Ty -> Prop} (h : tyK x K) : ∃ t, K t /\ ∀ φ, x.conc φ = t.val (Y0h t) := by
 unfold tyK at h
 split at h
 ·obtain ⟨h1, h2⟩ := Ya h;obtain rfl := of_decide_eq_true h1;exact ⟨_, h2, fun φ => rfl⟩
 ·split at h
  ·exact ⟨_, h, fun φ => rfl⟩
  ·exact h.elim
 ·obtain ⟨h1, h2⟩ := Ya h;refine ⟨_, h2, fun φ => ?_⟩;rename_i s;have : s = ByteArray.empty := by
   obtain ⟨d⟩ := s;have hs : d.size = 0 := Yd.1 h1;exact congrArg ByteArray.mk (Array.eq_empty_of_size_eq_zero hs)
  rw [this]; rfl
 ·exact ⟨_, h, fun φ => rfl⟩
 ·exact h.elim
theorem Yfc : ∀ {xs : List AV} {K : List Ty -> Prop}, tysK xs K -> ∃ ts, K ts /\ xs.length = ts.length /\ ∀ φ, AV.concL φ xs = Yx ts (Ygr ts)
 | [], K, h => ⟨[], h, rfl, fun φ => rfl⟩
 | x :: xs, K, h => by
  obtain ⟨t, h1, h2⟩ := Yyw h;obtain ⟨ts, h3, h4, h5⟩ := Yfc h1;exact ⟨t :: ts, h3, by simp [h4], fun φ => by simp [AV.concL, Yx, Ygr, h2 φ, h5 φ]⟩
def Ymx : List Cl -> Nat -> List Cl -> List Cl
 | l, 0, cs => cs ++ l.drop cs.length
 | l, k + 1, cs => l.headD .z :: Ymx l.tail k cs
theorem Ykj : ∀ (ts : List Ty) (l : List Cl) (n : Nat), Yx (ts.drop n) (l.drop n) = (Yx ts l).drop n
 | ts, l, 0 => by simp
 | [], l, n + 1 => by simp [Yx]
 | t :: ts, l, n + 1 => by
  have := Ykj ts l.tail n;simp only [List.drop_succ_cons, Yx];rw [<- this];cases l <;> simp
theorem Ymp : ∀ (ts : List Ty) (cs l : List Cl), cs.length <= ts.length -> Yx ts (cs ++ l) = Yx (ts.take cs.length) cs ++ Yx (ts.drop cs.length) l
 | ts, [], l, _ => by simp [Yx]
 | [], c :: cs, l, h => by simp at h
 | t :: ts, c :: cs, l, h => by simp [Yx, Ymp ts cs l (by simpa using h)]
theorem Ymn : ∀ (ts : List Ty) (l : List Cl) (k : Nat) (cs : List Cl), k + cs.length <= ts.length -> Yx ts (Ymx l k cs) = (Yx ts l).take k ++ Yx ((ts.drop k).take cs.length) cs ++ (Yx ts l).drop (k + cs.length)
 | ts, l, 0, cs, h => by
  simp only [Ymx, List.take_zero, List.nil_append, List.drop_zero, Nat.zero_add];rw [Ymp ts cs _ (by omega), Ykj]
 | [], l, k + 1, cs, h => by simp at h
 | t :: ts, l, k + 1, cs, h => by
  have := Ymn ts l.tail k cs (by simp at h; omega);simp only [Ymx, Yx, List.headD_cons, List.tail_cons, this, List.take_succ_cons, List.drop_succ_cons, show k + 1 + cs.length = k + cs.length + 1 by omega, List.cons_append]
theorem Yns (ts : List Ty) : ∀ (xs : Dt) (i : Nat), i < xs.length -> ∃ A B, A.length = i * ts.length /\ Yt ts xs = A ++ (Yx ts (xs.getD i []) ++ B) /\ ∀ row, Yt ts (xs.set i row) = A ++ (Yx ts row ++ B)
 | [], i, h => by simp at h
 | l :: xs, 0, _ => ⟨[], Yt ts xs, by simp, by simp [Yt], fun row => by simp [Yt]⟩
 | l :: xs, i + 1, h => by
  obtain ⟨A, B, h1, h2, h3⟩ := Yns ts xs i (by simpa using h);refine ⟨Yx ts l ++ A, B, by simp [Ybm, h1, Nat.succ_mul]; omega, ?_, fun row => ?_⟩
  ·simp only [Yt, h2, List.getD_cons_succ, List.append_assoc]
  ·simp only [List.set_cons_succ, Yt, h3 row, List.append_assoc]
theorem Yzt (ts : List Ty) (xs : Dt) (i k : Nat) (vs : List Value) (row : List Cl) (hi : i < xs.length) (hk : k + vs.length <= ts.length) (hr : Yx ts row = (Yx ts (xs.getD i [])).take k ++ vs ++ (Yx ts (xs.getD i [])).drop (k + vs.length)) :
  Yt ts (xs.set i row) = (Yt ts xs).take (i * ts.length + k) ++ vs ++ (Yt ts xs).drop (i * ts.length + k + vs.length) := by
 obtain ⟨A, B, h1, h2, h3⟩ := Yns ts xs i hi;rw [h3, hr, h2];have hV := Ybm ts (xs.getD i []);generalize Yx ts (xs.getD i []) = V at hV;rw [List.take_append, List.drop_append, h1, show i * ts.length + k - i * ts.length = k by omega, List.take_of_length_le (l := A) (by omega), List.take_append, hV, show k - ts.length = 0 by omega, List.take_zero, List.append_nil,
  List.drop_eq_nil_of_le (show A.length <= i * ts.length + k + vs.length by omega), List.nil_append, show i * ts.length + k + vs.length - i * ts.length = k + vs.length by omega, List.drop_append, hV, show k + vs.length - ts.length = 0 by omega, List.drop_zero]
 simp [List.append_assoc]
theorem Yxu {T T' : TypeId} {x y : Operand} {id i k n : Nat} {ts : List Ty} {xs : Dt} {vs : List AV} {v : AV} {row : List Cl} (hs : Yci P T n) (hx : At tm x (.ep id ts.length i k)) (hy : At tm y v) (hj : v.rd = true) (hc : ∀ φ, (v.conc φ).cells = (AV.concL φ vs).toArray) (hn : vs.length = n) (h0 : 0 < n) (h1 : Yg5 vs = true)
  (hi : i < xs.length) (hk : k + n <= ts.length) (hr : ∀ φ, Yx ts row = (Yx ts (xs.getD i [])).take k ++ AV.concL φ vs ++ (Yx ts (xs.getD i [])).drop (k + n)) :
  Does P { dst, op := .store T x y, type, pos, after, guard } tm [(id, .arr T' ts xs)] (.v undef) [(id, .arr T' ts (xs.set i row))] [] :=
 fun φ w0 M R a w K Q ho _ hS kk => by
  have h2 := Yp (ho.ev (x := x) (by simp [Op.operands]) hx (by simp));have h3 := Yp (ho.ev (x := y) (by simp [Op.operands]) hy hj);have hlen : i * ts.length + k + n <= (Yt ts xs).length := by
   rw [Y2];have : (i + 1) * ts.length <= xs.length * ts.length := Nat.mul_le_mul_right _ hi;rw [Nat.succ_mul] at this; omega
  refine Ymu (v := v.conc φ) hS hs h2 h3 (by rw [hc φ]; simp [Ye, hn]) h0 (fun u hu => Yct h1 φ u (by rw [hc φ] at hu; simpa using hu)) hlen fun w' hS' => ?_;have hl : (AV.concL φ vs).length = n := by rw [Ye, hn]
  have e := Yzt ts xs i k (AV.concL φ vs) row hi (by rw [hl]; exact hk) (by rw [hl]; exact hr φ);rw [hl] at e;rw [hc φ, show ((AV.concL φ vs).toArray.toList) = AV.concL φ vs from rfl, <- e] at hS';exact kk φ w' (Agree.refl _ _) (by simpa [Yh, upd, Nat.beq_refl, Yb, It.conc] using hS')
theorem Yt4 (ts : List Ty) (l : List Cl) : ∀ n, Yt ts (List.replicate n l) = (List.replicate n (Yx ts l)).flatten
 | 0 => rfl
 | n + 1 => by simp only [List.replicate_succ, Yt, List.flatten_cons, Yt4 ts l n]
theorem Yx0 {T e : TypeId} {sz by_ n : Nat} {zs : List AV} {x y : Operand} {xv yv : AV} {kl kc : IntKind} {id : Nat} {ts : List Ty} (ht : (mkTI P T).slice = some (e, sz, by_, zs)) (hz : zs.length = sz) (hts : zs.length = ts.length) (hzs : ∀ φ, AV.concL φ zs = Yx ts (Ygr ts))
  (hx : At tm x xv) (hxj : xv.rd = true) (hxv : ∀ φ, xv.conc φ = .int kl (n : Int)) (hy : At tm y yv) (hyj : yv.rd = true) (hyv : ∀ φ, yv.conc φ = .int kc (n : Int)) (hb : by_ * n <= 281474976710656) (hm : n <= maxLen) :
  Does P { dst, op := .makeSlice T x y, type, pos, after, guard } tm [] (.rw id) [] [(id, .arr e ts (List.replicate n (Ygr ts)))] :=
 fun φ w0 M R a w K Q ho _ hS kk => by
  have e1 := ho.ev (x := x) (by simp [Op.operands]) hx hxj;have e2 := ho.ev (x := y) (by simp [Op.operands]) hy hyj;rw [hxv φ] at e1;rw [hyv φ] at e2;refine Yv8 hS (Yj ht φ).1 e1 e2 hb hm fun g w' hS' => ?_;have hag := Yr φ id ⟨g, false, n, none, n, undef, fun _ => False⟩;have hc : (madeCells (AV.concL φ zs).toArray (n * sz)).toList = Yt ts (List.replicate n (Ygr ts)) := by
   rw [Yh5 φ hz, Yy, List.map_flatten, List.map_replicate, <- Yy, hzs φ, Yt4]
  rw [hc] at hS';have hsz : ts.length = sz := by omega
  have := kk _ w' hag (by simpa [Yh, Yb, It.conc, hsz] using hS');simpa [AV.conc] using this
theorem Yt5 (ts : List Ty) (xs : Dt) : ∀ u ∈ Yt ts xs, u.oneCell' = true := by
 have hv : ∀ (ts : List Ty) (l : List Cl), ∀ u ∈ Yx ts l, u.oneCell' = true := by
  intro ts
  induction ts with
  | nil => intro l u hu; simp [Yx] at hu
  | cons t ts ih =>
   intro l u hu;simp only [Yx, List.mem_cons] at hu;rcases hu with rfl | hu
   ·cases t <;> rfl
   ·exact ih _ u hu
 induction xs with
 | nil => intro u hu; simp [Yt] at hu
 | cons l xs ih =>
  intro u hu;simp only [Yt, List.mem_append] at hu;exact hu.elim (hv ts l u) (ih u)
def Yl9 (xv : AV) (hs : Heap) (ts : List Ty) (ys : Dt) : Prop :=
 ∀ (φ : Phi) (w0 : World) (M : List Nat) (R : RL) (w : World), St w0 M (Yb φ hs ++ R) w -> ∃ A c, xv.conc φ = .slice A ys.length c /\ (ys.length = 0 \/ ∃ b off, A = some ⟨b, off, none⟩ /\ ∀ j u, (Yt ts ys)[j]? = some u -> w.cell? ⟨b, off + j, none⟩ = some u)
theorem Yf6 {w0 w : World} {M : List Nat} {R : RL} {K : Act -> World -> Prop} {Q : Exit -> Act -> World -> Prop} {a : Act} {T e : TypeId} {by_ m c n : Nat} {zs : Array Value} {s x : Operand} {v : Value} {A : Option Addr} {ts : List Ty} {xs ys : Dt} (h : St w0 M (.row v e ts.length n (Yt ts xs) :: R) w) (ht : SliceOf P T e ts.length by_ zs) (hz : zs.size = ts.length) (hsz : 0 < ts.length)
  (hs : a.eval s = v) (hx : a.eval x = .slice A m c) (hm : m = ys.length) (hn : n = xs.length) (hsrc : ys.length = 0 \/ ∃ b off, A = some ⟨b, off, none⟩ /\ ∀ j u, (Yt ts ys)[j]? = some u -> w.cell? ⟨b, off + j, none⟩ = some u) (h63 : n + m <= maxLen) (hb : (n + m) * by_ <= 140737488355328)
  (kk : ∀ v' w', St w0 M (.row v' e ts.length (n + m) (Yt ts (xs ++ ys)) :: R) w' -> K (a.put dst v') w') :
  Oper.wp P { dst, op := .call { callee := .builtin .append, args := #[s, x], argTypes := #[T, T] }, type, pos, after, guard } a w K Q := by
 rcases Nat.eq_zero_or_pos ys.length with h0 | h0
 ·have hys : ys = [] := List.length_eq_zero_iff.1 h0;subst hys;simp only [List.length_nil] at hm;subst hm;have hrow := h.row .head;obtain ⟨A', c', hv, hc'⟩ : ∃ A' c', v = .slice A' n c' /\ n <= c' := by
   rcases hrow.2 with ⟨rfl, rfl⟩ | ⟨g, cap, cur, rfl, _, _, hnc, _⟩
   ·exact ⟨none, 0, rfl, Nat.le_refl _⟩
   ·exact ⟨_, _, rfl, hnc⟩
  obtain ⟨i, z, hi, hz1, hz2, his, hib⟩ := ht.parts;have hsrc : Src P i.size T (.slice A 0 c) 0 [] w := by
   cases A with
   | none => exact Src.ofNil w ht.1 c
   | some b => exact Src.ofSlice w ht.1 b 0 c [] (by simp) (by simp) (by simp)
  have hr := run_append_nothing w T T type e i ht.1 hi A' n c' hc' _ hsrc;have h4 := kk v w (by simpa using h);unfold Oper.wp execOp;simp only [resolve, invoke, builtin, Sem.run_bind, Sem.run_pure, Result.andThen_ok, List.map_toArray, List.map_cons, List.map_nil, hs, hx];rw [hv] at h4 ⊢;rw [hr];exact h4
 ·obtain ⟨b, off, rfl, hcell⟩ := hsrc.resolve_left (by omega);refine Yhn (news := Yt ts ys) h ht hz hsz (by rw [Ydl, hs]) (by rw [Ydl, hx]) .head (by rw [Y2, hm]) (fun j u hj => by rw [Ym]; exact hcell j u hj) (Yt5 ts ys) h63 hb fun v' w' _ hS' => ?_;rw [<- Ycf] at hS';exact kk v' w' hS'
theorem Yoj {w : World} {T sz n : Nat} {v : Value} {xs : List Value} (h : w.ownsRow 0 T sz v n xs) : ∃ hd : Hd, hd.fn = n /\ v = .slice (if hd.nil then none else some ⟨hd.b, 0, none⟩) n hd.c := by
 obtain ⟨hd, e⟩ := Ym5 h;exact ⟨{ hd with fn := n }, rfl, e⟩
theorem Yyc {T e : TypeId} {by_ id' : Nat} {zs : List AV} {s x : Operand} {xv : AV} {hs : Heap} {ts : List Ty} {ys : Dt} (ht : (mkTI P T).slice = some (e, ts.length, by_, zs)) (hz : zs.length = ts.length) (hsz : 0 < ts.length) (hsv : At tm s (.v (.slice none 0 0))) (hx : At tm x xv) (hxj : xv.rd = true) (hsrc : Yl9 xv hs ts ys)
  (h63 : ys.length <= maxLen) (hb : ys.length * by_ <= 140737488355328) :
  Does P { dst, op := .call { callee := .builtin .append, args := #[s, x], argTypes := #[T, T] }, type, pos, after, guard } tm hs (.rw id') [] [(id', .arr e ts ys)] :=
 fun φ w0 M R a w K Q ho hn hS kk => by
  have e1 := ho s (by simp [Op.operands, Call.operands]) _ hsv (by simp);have e2 := ho x (by simp [Op.operands, Call.operands]) _ hx hxj;obtain ⟨A, c, h1, h2⟩ := hsrc φ w0 M R w hS;rw [h1] at e2;have hS2 := hS.add (Ext.refl _) (r := .row (.slice none 0 0) e ts.length 0 (Yt ts [])) ⟨by simp [Yt], .inl ⟨rfl, rfl⟩⟩ (by simp [Res.foot, Value.ownBlock]);refine Yf6 hS2 (Yj ht φ).1 (by simp [Ye, hz]) hsz e1 e2 rfl rfl h2 (by simpa using h63) (by simpa using hb) fun v' w' hS' => ?_;rw [Nat.zero_add, List.nil_append] at hS';obtain ⟨hd, hfn, rfl⟩ := Yoj (hS'.row .head);have hag := Yr φ id' hd;have eh : Yb (fun i => if i = id' then hd else φ i) hs = Yb φ hs := Ybw hag fun i hi => by rw [List.mem_singleton.1 hi]; exact (hn id' (by simp [keys])).2
  have := kk _ w' hag (by
   rw [Yl];simp only [Yh, eh];have e3 : Yb (fun i => if i = id' then hd else φ i) [(id', It.arr e ts ys)] = [.row (.slice (if hd.nil then none else some ⟨hd.b, 0, none⟩) ys.length hd.c) e ts.length ys.length (Yt ts ys)] := by simp [Yb, It.conc, hfn]
   rw [e3];refine hS'.perm ?_;rw [List.append_assoc, List.singleton_append];exact List.perm_middle.symm)
  simpa [AV.conc, hfn] using this
theorem Yya {T e : TypeId} {by_ id' : Nat} {zs : List AV} {s x : Operand} {xv : AV} {hs : Heap} {ts ts' : List Ty} {q : Ro ts'} {ys : Dt} (ht : (mkTI P T).slice = some (e, ts.length, by_, zs)) (hz : zs.length = ts.length) (hsz : 0 < ts.length) (hsv : At tm s (.rs ts' q)) (hq : q.xs.length = 0) (hc : capV q.v = 0) (hx : At tm x xv) (hxj : xv.rd = true) (hsrc : Yl9 xv hs ts ys)
  (hpos : 0 < ys.length) (h63 : ys.length <= maxLen) (hb : ys.length * by_ <= 140737488355328) :
  Does P { dst, op := .call { callee := .builtin .append, args := #[s, x], argTypes := #[T, T] }, type, pos, after, guard } tm hs (.rw id') [] [(id', .arr e ts ys)] :=
 fun φ w0 M R a w K Q ho hn hS kk => by
  have e1 := ho s (by simp [Op.operands, Call.operands]) _ hsv (by simp);have e2 := ho x (by simp [Op.operands, Call.operands]) _ hx hxj;obtain ⟨A, c, h1, h2⟩ := hsrc φ w0 M R w hS;rw [h1] at e2;obtain ⟨B, d, h3, _⟩ := q.inv;rw [h3] at hc;have hd : d = 0 := hc;subst hd;simp only [AV.conc, h3, hq] at e1;have fin : ∀ v' w', St w0 M (.row v' e ts.length ys.length (Yt ts ys) :: (Yb φ hs ++ R)) w' -> K (a.put dst v') w' := fun v' w' hS' => by
   obtain ⟨hd, hfn, rfl⟩ := Yoj (hS'.row .head);have hag := Yr φ id' hd;have eh : Yb (fun i => if i = id' then hd else φ i) hs = Yb φ hs := Ybw hag fun i hi => by rw [List.mem_singleton.1 hi]; exact (hn id' (by simp [keys])).2
   have := kk _ w' hag (by
    rw [Yl];simp only [Yh, eh];have e3 : Yb (fun i => if i = id' then hd else φ i) [(id', It.arr e ts ys)] = [.row (.slice (if hd.nil then none else some ⟨hd.b, 0, none⟩) ys.length hd.c) e ts.length ys.length (Yt ts ys)] := by simp [Yb, It.conc, hfn]
    rw [e3];refine hS'.perm ?_;rw [List.append_assoc, List.singleton_append];exact List.perm_middle.symm)
   simpa [AV.conc, hfn] using this
  cases B with
  | none =>
   have hS2 := hS.add (Ext.refl _) (r := .row (.slice none 0 0) e ts.length 0 (Yt ts [])) ⟨by simp [Yt], .inl ⟨rfl, rfl⟩⟩ (by simp [Res.foot, Value.ownBlock]);refine Yf6 hS2 (Yj ht φ).1 (by simp [Ye, hz]) hsz e1 e2 rfl rfl h2 (by simpa using h63) (by simpa using hb) fun v' w' hS' => ?_;rw [Nat.zero_add, List.nil_append] at hS';exact fin v' w' hS'
  | some ad =>
   obtain ⟨b, off, rfl, hcell⟩ := h2.resolve_left (by omega);obtain ⟨i, z, hi, hz1, hz2, his, hib⟩ := (Yj ht φ).1.parts;obtain ⟨v', w', hr, ho', hgr⟩ := run_append_arg_grows (P := P) w T type e i z ts.length by_ (Yj ht φ).1.1 hi hz1 his hib (by rw [hz2]; simp [Ye, hz]) hsz ad 0 0 [] (by simp) (by simp)
    ⟨b, off, none⟩ ys.length c (Yt ts ys) (Y2 ts ys) (fun j u hj => by rw [Ym]; exact hcell j u hj) (by omega) (by omega) (by simpa using hb)
   rw [Nat.zero_add, List.nil_append] at ho';have hext : Ext w w' := ⟨hgr.os, hgr.tape, hgr.output, hgr.size, fun k hk => hgr.block k hk (by simp)⟩;have hS' := hS.add hext (r := .row v' e ts.length ys.length (Yt ts ys)) ⟨ho'.1, ho'.2.imp (fun h => h) fun ⟨g, cap, cur, a, _, c⟩ => ⟨g, cap, cur, a, Nat.zero_le _, c⟩⟩ (fun b hb' => by
    simp only [Res.foot, Option.mem_toList] at hb';exact (ho'.lt b hb').1)
   have h4 := fin v' w' hS';unfold Oper.wp execOp;simp only [resolve, invoke, builtin, Sem.run_bind, Sem.run_pure, Result.andThen_ok, List.map_toArray, List.map_cons, List.map_nil, e1, e2, hr, Oper.upon];exact h4
def DstOk (sv : AV) (id : Nat) (it : It) (e : Nat) (ts : List Ty) (xs : Dt) : Prop :=
 ∀ (φ : Phi) (w0 : World) (M : List Nat) (R : RL) (w : World), St w0 M (it.conc φ id :: R) w -> St w0 M (.row (sv.conc φ) e ts.length xs.length (Yt ts xs) :: R) w
theorem Yyb {T e : TypeId} {by_ id id' : Nat} {zs : List AV} {s x : Operand} {sv xv : AV} {it : It} {hs : Heap} {ts : List Ty} {xs ys : Dt} (ht : (mkTI P T).slice = some (e, ts.length, by_, zs)) (hz : zs.length = ts.length) (hsz : 0 < ts.length) (hsv : At tm s sv) (hsj : sv.rd = true) (hdst : DstOk sv id it e ts xs) (hx : At tm x xv) (hxj : xv.rd = true) (hsrc : Yl9 xv hs ts ys)
  (hne : id ∉ keys hs) (h63 : xs.length + ys.length <= maxLen) (hb : (xs.length + ys.length) * by_ <= 140737488355328) :
  Does P { dst, op := .call { callee := .builtin .append, args := #[s, x], argTypes := #[T, T] }, type, pos, after, guard } tm ((id, it) :: hs) (.rw id') [(id, .dead)] [(id', .arr e ts (xs ++ ys))] :=
 fun φ w0 M R a w K Q ho hn hS kk => by
  have e1 := ho s (by simp [Op.operands, Call.operands]) _ hsv hsj;have e2 := ho x (by simp [Op.operands, Call.operands]) _ hx hxj;have hS0 : St w0 M (Yb φ hs ++ (it.conc φ id :: R)) w := hS.perm (by simp only [Yb, List.map_cons, List.cons_append]; exact List.perm_middle.symm);obtain ⟨A, c, h1, h2⟩ := hsrc φ w0 M _ w hS0;rw [h1] at e2;have hS2 := hdst φ w0 M _ w (by simpa [Yb] using hS);refine Yf6 hS2 (Yj ht φ).1 (by simp [Ye, hz]) hsz e1 e2 rfl rfl h2 h63 hb fun v' w' hS' => ?_;obtain ⟨hd, hfn, rfl⟩ := Yoj (hS'.row .head);have hag := Yr φ id' hd;have hnx := (hn id' (by simp [keys])).2;have hhs : hasH id' hs = false := by
   unfold hasH at hnx;simp only [Bool.or_eq_false_iff] at hnx;exact hnx.2
  have eh : Yb (fun i => if i = id' then hd else φ i) hs = Yb φ hs := Ybw hag fun i hi => by rw [List.mem_singleton.1 hi]; exact hhs
  have e4 : Yh ((id, it) :: hs) [(id, .dead)] = (id, .dead) :: hs := by simp [Yh, upd, Nat.beq_refl]
  have := kk _ w' hag (by
   rw [e4, Yl];have e5 : Yb (fun i => if i = id' then hd else φ i) ((id, .dead) :: hs) = Res.row (.slice none 0 0) 0 0 0 [] :: Yb φ hs := by rw [<- eh]; rfl
   have e3 : Yb (fun i => if i = id' then hd else φ i) [(id', It.arr e ts (xs ++ ys))] = [.row (.slice (if hd.nil then none else some ⟨hd.b, 0, none⟩) (xs.length + ys.length) hd.c) e ts.length (xs.length + ys.length) (Yt ts (xs ++ ys))] := by simp [Yb, It.conc, hfn]
   rw [e3, e5];have hS3 := hS'.dead;refine hS3.perm ?_;rw [List.append_assoc, List.cons_append];exact (List.perm_middle.symm).cons _)
  simpa [AV.conc, hfn] using this
theorem Yup {w0 w : World} {M : List Nat} {R : RL} {K : Act -> World -> Prop} {Q : Exit -> Act -> World -> Prop} {a : Act} {T e : TypeId} {by_ m c n : Nat} {zs : Array Value} {s x : Operand} {v : Value} {A : Option Addr} {ts : List Ty} {xs ys : Dt} (h : St w0 M (.row v e ts.length n (Yt ts xs) :: R) w) (ht : SliceOf P T e ts.length by_ zs) (hz : zs.size = ts.length) (hsz : 0 < ts.length)
  (hs : a.eval s = v) (hx : a.eval x = .slice A m c) (hm : m = ys.length) (hn : n = xs.length) (hsrc : ys.length = 0 \/ ∃ b off, A = some ⟨b, off, none⟩ /\ ∀ j u, (Yt ts ys)[j]? = some u -> w.cell? ⟨b, off + j, none⟩ = some u) (h63 : n + m <= maxLen) (hb : (n + m) * by_ <= 140737488355328)
  (kk : ∀ v' w', (∃ g cap, v = .slice (some ⟨g, 0, none⟩) n cap /\ v' = .slice (some ⟨g, 0, none⟩) (n + m) cap /\ n <= cap /\ St w0 M (.row v' e ts.length (n + m) (Yt ts (xs ++ ys)) :: R) w') \/ ((v = .slice none 0 0 \/ v'.ownBlock ≠ v.ownBlock) /\ St w0 M (.row v' e ts.length (n + m) (Yt ts (xs ++ ys)) :: .row v e ts.length n (Yt ts xs) :: R) w') -> K (a.put dst v') w') :
  Oper.wp P { dst, op := .call { callee := .builtin .append, args := #[s, x], argTypes := #[T, T] }, type, pos, after, guard } a w K Q := by
 have hrow := h.row .head;rcases hrow.2 with ⟨rfl, rfl⟩ | ⟨g, cap, cur, rfl, hbg, hg, hnc, hcm, hcs, htake⟩
 ·refine Yf6 h ht hz hsz hs hx hm hn hsrc h63 hb fun v' w' hS' => kk v' w' (.inr ⟨.inl rfl, ?_⟩);have := hS'.add (Ext.refl _) (r := .row (.slice none 0 0) e ts.length 0 (Yt ts xs)) ⟨hrow.1, .inl ⟨rfl, rfl⟩⟩ (by simp [Res.foot, Value.ownBlock]);exact this.perm (List.Perm.swap _ _ _)
 ·obtain ⟨i, z, hi, hz1, hz2, his, hib⟩ := ht.parts
  by_cases h0 : ys.length = 0
  ·have hys : ys = [] := List.length_eq_zero_iff.1 h0;subst hys;simp only [List.length_nil] at hm;subst hm;have hsrc : Src P i.size T (.slice A 0 c) 0 [] w := by
    cases A with
    | none => exact Src.ofNil w ht.1 c
    | some b => exact Src.ofSlice w ht.1 b 0 c [] (by simp) (by simp) (by simp)
   have hr := run_append_nothing w T T type e i ht.1 hi (some ⟨g, 0, none⟩) n cap hnc _ hsrc;have h4 := kk (.slice (some ⟨g, 0, none⟩) n cap) w (.inl ⟨g, cap, rfl, rfl, hnc, by simpa using h⟩);unfold Oper.wp execOp;simp only [resolve, invoke, builtin, Sem.run_bind, Sem.run_pure, Result.andThen_ok, List.map_toArray, List.map_cons, List.map_nil, hs, hx];rw [hr];exact h4
  ·obtain ⟨b, off, rfl, hcell⟩ := hsrc.resolve_left h0;have hl : (Yt ts ys).length = m * ts.length := by rw [Y2, hm]
   have hnews : ∀ j u, (Yt ts ys)[j]? = some u -> w.cell? ((⟨b, off, none⟩ : Addr).add j) = some u := fun j u hj => by rw [Ym]; exact hcell j u hj
   by_cases hroom : n + m <= cap
   ·have hfit : n * i.size + (Yt ts ys).length <= cur.size := by rw [hl, hcs, his, <- Nat.add_mul]; exact Nat.mul_le_mul_right _ hroom
    have hr := run_append_room (P := P) w T type e i ht.1 hi g n cap cur hg ⟨b, off, none⟩ m c (Yt ts ys) (by rw [hl, his]) hnews (Yt5 ts ys) hroom hfit;have hlen : (Yt ts (xs ++ ys)).length = (n + m) * ts.length := by rw [Y2, List.length_append, <- hn, <- hm]
    have hS' := h.upd (w' := w.setRow g (cur.toList.take (n * i.size) ++ Yt ts ys ++ cur.toList.drop (n * i.size + (Yt ts ys).length)).toArray) (r' := .row (.slice (some ⟨g, 0, none⟩) (n + m) cap) e ts.length (n + m) (Yt ts (xs ++ ys))) .head
     ⟨rfl, rfl, rfl, by simp, fun k _ hk => setRow_other w g k _ (fun e => hk (by simp [Res.foot, Value.ownBlock, e]))⟩
     ⟨hlen, .inr ⟨g, cap, _, rfl, hbg, setRow_heap w g cur _ e _ hg, hroom, hcm, by
      simp only [List.size_toArray, List.length_append, List.length_take, List.length_drop, Array.length_toList];omega, by
      rw [his, htake, <- Ycf];simp only [];rw [<- hlen];exact List.take_left⟩⟩ (fun b' hb' => .inl (by simpa [Res.foot, Value.ownBlock] using hb'))
    have h4 := kk _ _ (.inl ⟨g, cap, rfl, rfl, hnc, hS'⟩);unfold Oper.wp execOp;simp only [resolve, invoke, builtin, Sem.run_bind, Sem.run_pure, Result.andThen_ok, List.map_toArray, List.map_cons, List.map_nil, hs, hx, hr, Oper.upon];exact h4
   ·obtain ⟨v', w', hr, ho', hgr⟩ := run_append_arg_grows (P := P) w T type e i z ts.length by_ ht.1 hi hz1 his hib (by rw [hz2, hz]) hsz ⟨g, 0, none⟩ n cap (Yt ts xs) hrow.1 (hrow.cells rfl)
     ⟨b, off, none⟩ m c (Yt ts ys) hl hnews (by omega) h63 hb
    rw [<- Ycf] at ho';have hext : Ext w w' := ⟨hgr.os, hgr.tape, hgr.output, hgr.size, fun k hk => hgr.block k hk (by simp)⟩;have hS' := h.add hext (r := .row v' e ts.length (n + m) (Yt ts (xs ++ ys))) ⟨ho'.1, ho'.2.imp (fun h => h) fun ⟨g, cap, cur, a, _, c⟩ => ⟨g, cap, cur, a, Nat.zero_le _, c⟩⟩ (fun b hb' => by
     simp only [Res.foot, Option.mem_toList] at hb';exact (ho'.lt b hb').1)
    have h4 := kk v' w' (.inr ⟨.inr (fun e => by
     have h5 := (ho'.lt g e).1;have h6 := (hrow.lt g rfl).2;omega), hS'⟩)
    unfold Oper.wp execOp;simp only [resolve, invoke, builtin, Sem.run_bind, Sem.run_pure, Result.andThen_ok, List.map_toArray, List.map_cons, List.map_nil, hs, hx, hr, Oper.upon];exact h4
theorem Yyd {T e : TypeId} {by_ id id' : Nat} {zs : List AV} {s x : Operand} {xv : AV} {hs : Heap} {ts : List Ty} {xs ys : Dt} (ht : (mkTI P T).slice = some (e, ts.length, by_, zs)) (hz : zs.length = ts.length) (hsz : 0 < ts.length) (hsv : At tm s (.rw id)) (hx : At tm x xv) (hxj : xv.rd = true) (hsrc : Yl9 xv hs ts ys)
  (hne : id ∉ keys hs) (h63 : xs.length + ys.length <= maxLen) (hb : (xs.length + ys.length) * by_ <= 140737488355328) :
  Does P { dst, op := .call { callee := .builtin .append, args := #[s, x], argTypes := #[T, T] }, type, pos, after, guard } tm ((id, .arr e ts xs) :: hs) (.rw id') [(id, .bk e ts xs id')] [(id', .arr e ts (xs ++ ys))] :=
 fun φ w0 M R a w K Q ho hn hS kk => by
  have e1 := ho s (by simp [Op.operands, Call.operands]) _ hsv rfl;have e2 := ho x (by simp [Op.operands, Call.operands]) _ hx hxj;have hS0 : St w0 M (Yb φ hs ++ ((It.arr e ts xs).conc φ id :: R)) w := hS.perm (by simp only [Yb, List.map_cons, List.cons_append]; exact List.perm_middle.symm);obtain ⟨A, c, h1, h2⟩ := hsrc φ w0 M _ w hS0;rw [h1] at e2;have hS2 : St w0 M ((It.arr e ts xs).conc φ id :: (Yb φ hs ++ R)) w := by simpa [Yb] using hS
  have ef := (Yja hsz hS2).1;have hnx := (hn id' (by simp [keys])).2;unfold hasH at hnx;simp only [Bool.or_eq_false_iff] at hnx;have hid : id ≠ id' := Yz.1 hnx.1.1;refine Yup hS2 (Yj ht φ).1 (by simp [Ye, hz]) hsz e1 e2 rfl ef h2 (by rw [ef]; exact h63) (by rw [ef]; exact hb) fun v' w' hS' => ?_;obtain ⟨hd, hfn, rfl⟩ : ∃ hd : Hd, hd.fn = (φ id).fn + ys.length /\ v' = .slice (if hd.nil then none else some ⟨hd.b, 0, none⟩) ((φ id).fn + ys.length) hd.c := by
   rcases hS' with ⟨g, cap, _, _, _, h⟩ | ⟨_, h⟩ <;> exact Yoj (h.row .head)
  have hag := Yr φ id' hd;have eh : Yb (fun i => if i = id' then hd else φ i) hs = Yb φ hs := Ybw hag fun i hi => by rw [List.mem_singleton.1 hi]; exact hnx.2
  have e4 : Yh ((id, It.arr e ts xs) :: hs) [(id, .bk e ts xs id')] = (id, .bk e ts xs id') :: hs := by simp [Yh, upd, Nat.beq_refl]
  have e3 : Yb (fun i => if i = id' then hd else φ i) [(id', It.arr e ts (xs ++ ys))] = [.row (.slice (if hd.nil then none else some ⟨hd.b, 0, none⟩) ((φ id).fn + ys.length) hd.c) e ts.length ((φ id).fn + ys.length) (Yt ts (xs ++ ys))] := by simp [Yb, It.conc, hfn]
  have e5 : Yb (fun i => if i = id' then hd else φ i) ((id, .bk e ts xs id') :: hs) = Ysr (φ id) hd e ts xs :: Yb φ hs := by rw [<- eh]; simp [Yb, It.conc, hid]
  have := kk _ w' hag (by
   rw [e4, Yl, e3, e5];rcases hS' with ⟨g, cap, q1, q2, q3, hS'⟩ | ⟨q, hS'⟩
   ·have p1 : (φ id).nil = false /\ (φ id).b = g /\ (φ id).c = cap := by
     cases hnl : (φ id).nil <;> simp_all
    have p2 : hd.nil = false /\ hd.b = g /\ hd.c = cap := by
     cases hnl : hd.nil <;> simp_all
    have e6 : Ysr (φ id) hd e ts xs = .row (.slice none 0 0) 0 0 0 [] := by
     unfold Ysr;rw [if_pos ⟨p1.1, p2.1, by rw [p1.2.1, p2.2.1]⟩, if_pos ⟨by rw [p1.2.2, p2.2.2], ef, by rw [p1.2.2]; exact q3⟩]
    rw [e6];refine hS'.dead.perm ?_;rw [List.append_assoc, List.cons_append];exact (List.perm_middle.symm).cons _
   ·have e6 : Ysr (φ id) hd e ts xs = .row (.slice (if (φ id).nil then none else some ⟨(φ id).b, 0, none⟩) (φ id).fn (φ id).c) e ts.length (φ id).fn (Yt ts xs) := by
     unfold Ysr;rw [if_neg];rintro ⟨c1, c2, c3⟩;rcases q with q | q
     ·simp [c1] at q
     ·exact q (by simp [c1, c2, c3, Value.ownBlock])
    rw [e6];refine hS'.perm ?_;rw [List.append_assoc, List.cons_append];refine (List.Perm.swap _ _ _).trans ?_;exact (List.perm_middle.symm).cons _)
  simpa [AV.conc, hfn] using this
theorem St.lentBack {w0 w : World} {M : List Nat} {R : RL} {φ : Phi} {T id j : Nat} {ts : List Ty} {xs zs : Dt} (hz : zs.take xs.length = xs) (h : St w0 M ((It.bk T ts xs j).conc φ id :: (It.arr T ts zs).conc φ j :: R) w) : St w0 M ((It.arr T ts xs).conc φ id :: It.dead.conc φ j :: R) w := by
 simp only [It.conc] at h ⊢;unfold Ysr at h
 split at h
 ·rename_i hc
  split at h
  ·rename_i hd;have h1 := h.drop;have hrow := h1.row .head;have h2 := h1.upd (w' := w) (r' := .row (.slice (if (φ id).nil then none else some ⟨(φ id).b, 0, none⟩) (φ id).fn (φ id).c) T ts.length (φ id).fn (Yt ts xs)) .head (Kept.of (Below.refl _ _)) (by
    refine ⟨by rw [Y2, hd.2.1], .inr ?_⟩;rcases hrow.2 with ⟨e, _⟩ | ⟨g, cap, cur, hv, hbg, hg, hnc, hcm, hcs, htake⟩
    ·simp [hc.2.1] at e
    ·have hv' : (φ j).b = g /\ (φ j).c = cap := by simpa [hc.2.1] using hv
     refine ⟨g, cap, cur, by simp [hc.1, hc.2.2, hd.1, hv'.1, hv'.2], hbg, hg, by rw [<- hv'.2, <- hd.1]; exact hd.2.2, hcm, hcs, ?_⟩;have hl : xs.length <= zs.length := by rw [<- hz]; simp; omega
     have h3 : Yt ts zs = Yt ts xs ++ Yt ts (zs.drop xs.length) := by
      rw [<- Ycf]; conv => lhs; rw [<- List.take_append_drop xs.length zs, hz]
     have h4 := hrow.1;rw [h3, List.length_append, Y2] at h4;have h5 : xs.length * ts.length <= (φ j).fn * ts.length := by omega
     have h6 : cur.toList.take (xs.length * ts.length) = (cur.toList.take ((φ j).fn * ts.length)).take (xs.length * ts.length) := by rw [List.take_take, Nat.min_eq_left h5]
     rw [hd.2.1, h6, htake, h3, <- Y2 ts xs];exact List.take_left) (fun b hb => .inl (by
      simp only [Res.foot, hc.1, hc.2.1, Value.ownBlock, Bool.false_eq_true, if_false, Option.toList, hc.2.2] at hb ⊢;exact hb))
   exact h2.dead.perm (List.Perm.swap _ _ _)
  ·have := (h.row .head).2;rcases this with ⟨_, e⟩ | ⟨_, _, _, e, _⟩ <;> cases e
 ·exact (h.perm (List.Perm.swap _ _ _)).drop.dead.perm (List.Perm.swap _ _ _)
end
end Go.Proofs.YtbhlmkgliflhaaaGreat
namespace Go.Proofs.YtbhlmkgliflhaaaGreat
open Go.RowKit
variable [InW]
attribute [local irreducible] Go.Oper.wp
def intK (x : AV) (K : IntKind -> Int -> Prop) (D : Prop) : Prop := match x with | .si k n => K k n | .v (.int k n) => K k n | _ => D
theorem Yb8 {x : AV} {K : IntKind -> Int -> Prop} {D : Prop} (h : intK x K D) : (∃ k n, K k n /\ (∀ φ, x.conc φ = .int k n) /\ x.rd = true) \/ D := by
 unfold intK at h
 split at h
 ·exact .inl ⟨_, _, h, fun φ => rfl, rfl⟩
 ·exact .inl ⟨_, _, h, fun φ => rfl, rfl⟩
 ·exact .inr h
def Yv3 (P : Program) (op : BinOp) (T : TypeId) (a b : AV) (K : K1) (D : Prop) : Prop :=
 match a, b with
 | .si ka m, .si kb n => binI op ka kb m n false K
 | .si ka m, .v (.int kb n) => binI op ka kb m n true K
 | .v (.int ka m), .si kb n => binI op ka kb m n false K
 | .sb p, .sb q => binB P op T p q K
 | .sb p, .v (.bool q) => binB P op T p q K
 | .v (.bool p), .sb q => binB P op T p q K
 | .ss s, .ss t => binS op s t K
 | .ss s, .v (.string t) => binS op s t K
 | .v (.string s), .ss t => binS op s t K
 | .agg xs, .agg ys => binA P op T (.agg xs) (.agg ys) K
 | .agg xs, .v (.agg ys) => binA P op T (.agg xs) (.v (.agg ys)) K
 | .v (.agg xs), .agg ys => binA P op T (.v (.agg xs)) (.agg ys) K
 | _, _ => D
def Yxh (v : Value) : Bool := match v with | .slice none _ _ => true | _ => false
def Yku (P : Program) (T : TypeId) : Bool := match P.underlying T with | some (.slice _) => true | _ => false
def Ytq (c : Cx) (neq : Bool) (T : TypeId) (a b : AV) (hp : Heap) (k : KE) (D : Prop) : Prop :=
 match b with
 | .v (.slice none 0 0) => (match Yku c.P T with
  | false => D
  | true => (match a with
   | .sl id off lo n => Y4 hp id fun it => (match Yle it with | true => k (.v (.bool neq)) [(id, it)] [] [] | false => D)
   | .rs ts r => (match neq with | true => k (.sb (!(Yxh r.v))) [] [] [] | false => k (.sb (Yxh r.v)) [] [] [])
   | .rw id => Y4 hp id fun it => (match it with
    | .arr T' ts xs => Yc (Nat.ble 1 ts.length) (Need (decide (0 < xs.length)) (k (.v (.bool neq)) [(id, .arr T' ts xs)] [] []))
    | _ => D)
   | _ => D))
 | _ => D
def Ywy (c : Cx) (op : BinOp) (T : TypeId) (a b : AV) (hp : Heap) (k : KE) (D : Prop) : Prop :=
 match op with | .eql => Ytq c false T a b hp k D | .neq => Ytq c true T a b hp k D | _ => D
theorem Y2m {ts : List Ty} {r : Ro ts} (h : Yxh r.v = true) : r.xs = [] := by
 obtain ⟨A, c, hv, _, _, u, h1, _⟩ := r.inv;rcases Classical.em (r.xs = []) with e | e
 ·exact e
 ·obtain ⟨b, off, rfl, _⟩ := h1 e;rw [hv] at h;cases h
def Y00 (op : UnOp) (a : AV) (K : K1) (D : Prop) : Prop :=
 match a with
 | .si k n => (match op with | .neg => arK k (0 - n) K | _ => Stuck 320)
 | .sb b => (match op with | .not => K (.sb (!b)) | _ => Stuck 321)
 | _ => D
def Yry (P : Program) (src dst : TypeId) (a : AV) (K : K1) (D : Prop) : Prop :=
 match a with
 | .si k n => (match P.underlying src, P.underlying dst with | some (.int _), some (.int k') => arK k' n K | _, _ => Stuck 322)
 | _ => D
def Yvz (tm : List AV) (cnd x y : Operand) (K : K1) (D : Prop) : Prop :=
 evK tm cnd fun a => match a with
  | .sb b => evK tm x fun u => evK tm y fun v => (match u, v with
   | .sb p, .sb q => K (.sb (bif b then p else q))
   | .v (.bool p), .sb q => (match p with | true => K (.sb (b || q)) | false => K (.sb (!b && q)))
   | .sb p, .v (.bool q) => (match q with | true => K (.sb (!b || p)) | false => K (.sb (b && p)))
   | _, _ => Vif b (K u) (K v))
  | _ => D
def Ytf (i : Int) (sz : Nat) : Nat -> Nat -> Nat -> (Nat -> Prop) -> Prop
 | 0, _, _, _ => Stuck 380
 | 1, _, a, K => K a
 | r + 2, j, a, K => Vif (decide (i = (j : Int))) (K a) (Y3 (j + 1) fun j => Y3 (a + sz) fun a => Ytf i sz (r + 1) j a K)
theorem Ykt {i : Int} {sz : Nat} {K : Nat -> Prop} : ∀ {r j a : Nat}, Ytf i sz r j a K -> (j : Int) <= i -> i < (j : Int) + r -> K (a + (i - j).toNat * sz)
 | 0, _, _, h, _, _ => h.elim
 | 1, j, a, h, h1, h2 => by
  have e : (i - j).toNat = 0 := by omega
  rw [e, Nat.zero_mul, Nat.add_zero];exact h
 | r + 2, j, a, h, h1, h2 => by
  unfold Ytf at h
  by_cases e : i = (j : Int)
  ·have := h.1 (by simp [e]);rw [show (i - j).toNat = 0 by omega, Nat.zero_mul, Nat.add_zero];exact this
  ·have h3 := Yi.1 (Yi.1 (h.2 (by simp [e])));have := Ykt h3 (by omega) (by omega);rw [show (i - j).toNat = (i - ((j + 1 : Nat) : Int)).toNat + 1 by omega, Nat.succ_mul];rwa [show a + ((i - ((j + 1 : Nat) : Int)).toNat * sz + sz) = a + sz + (i - ((j + 1 : Nat) : Int)).toNat * sz by omega]
def uniB (k : IntKind) : List Ty -> Bool
 | [] => true
 | .int k' :: ts => (match decide (k' = k) with | true => uniB k ts | false => false)
 | _ => false
def uniK (ts : List Ty) : Option IntKind := match ts with | .int k :: us => (match Nat.ble 8 ts.length && uniB k us with | true => some k | false => none) | _ => none
theorem Ypm {k : IntKind} : ∀ {ts : List Ty}, uniB k ts = true -> ∀ t ∈ ts, t = .int k
 | [], _, _, ht => by cases ht
 | .int k' :: ts, h, t, ht => by
  unfold uniB at h
  split at h
  ·rename_i e;rcases List.mem_cons.1 ht with rfl | ht
   ·rw [of_decide_eq_true e]
   ·exact Ypm h t ht
  ·cases h
 | .bool :: _, h, _, _ => by cases h
 | .str :: _, h, _, _ => by cases h
 | .sl _ :: _, h, _, _ => by cases h
theorem Yvw {k : IntKind} {ts : List Ty} (h : uniK ts = some k) (j : Nat) (hj : j < ts.length) : tyAt ts j = .int k := by
 unfold uniK at h
 split at h
 ·split at h
  ·rename_i k' us e;cases h;simp only [Bool.and_eq_true] at e;rw [Yfd, List.getD_eq_getElem?_getD, List.getElem?_eq_getElem hj, Option.getD_some];rcases List.mem_cons.1 (List.getElem_mem hj) with h | h
   ·exact h
   ·exact Ypm e.2 _ h
  ·cases h
 ·cases h
def Yuw (k : IntKind) : List AV -> (List Int -> Prop) -> Prop
 | [], K => K []
 | .si k' n :: xs, K => Yc (decide (k' = k)) (Yuw k xs fun ns => K (n :: ns))
 | .v (.int k' n) :: xs, K => Yc (decide (k' = k)) (Yuw k xs fun ns => K (n :: ns))
 | _, _ => Stuck 391
def Ywt (xs : List AV) (K : IntKind -> List Int -> Prop) : Prop := match xs with | .si k _ :: _ => Yuw k xs (K k) | .v (.int k _) :: _ => Yuw k xs (K k) | _ => Stuck 390
theorem Yf9 {k : IntKind} : ∀ {xs : List AV} {K : List Int -> Prop}, Yuw k xs K -> ∃ ns, K ns /\ ns.length = xs.length /\ ∀ φ, AV.concL φ xs = ns.map (Value.int k)
 | [], K, h => ⟨[], h, rfl, fun φ => rfl⟩
 | x :: xs, K, h => by
  unfold Yuw at h
  split at h
  ·rename_i e; cases e
  ·rename_i k' n xs' e;cases e;obtain ⟨h1, h2⟩ := Ya h;obtain rfl := of_decide_eq_true h1;obtain ⟨ns, h3, h4, h5⟩ := Yf9 h2;exact ⟨_, h3, by simp [h4], fun φ => by simp [AV.concL, AV.conc, h5 φ]⟩
  ·rename_i k' n xs' e;cases e;obtain ⟨h1, h2⟩ := Ya h;obtain rfl := of_decide_eq_true h1;obtain ⟨ns, h3, h4, h5⟩ := Yf9 h2;exact ⟨_, h3, by simp [h4], fun φ => by simp [AV.concL, AV.conc, h5 φ]⟩
  ·exact h.elim
theorem Yix {xs : List AV} {K : IntKind -> List Int -> Prop} (h : Ywt xs K) : ∃ k ns, K k ns /\ ns.length = xs.length /\ ∀ φ, AV.concL φ xs = ns.map (Value.int k) := by
 unfold Ywt at h
 split at h
 ·obtain ⟨ns, h1, h2, h3⟩ := Yf9 h; exact ⟨_, ns, h1, h2, h3⟩
 ·obtain ⟨ns, h1, h2, h3⟩ := Yf9 h; exact ⟨_, ns, h1, h2, h3⟩
 ·exact h.elim
def selU (p j : Nat) (v o : Int) : Int := if p = j then v else o
def Yy2 (kd : IntKind) (p : Nat) (v : Int) : Nat -> List Int -> (List AV -> Prop) -> Prop
 | _, [], K => K []
 | j, n :: ns, K => Y3 (j + 1) fun j' => Yy2 kd p v j' ns fun r => K (.si kd (selU p j v n) :: r)
theorem Ymw {kd : IntKind} {p : Nat} {v : Int} : ∀ {ns : List Int} {j : Nat} {K : List AV -> Prop}, Yy2 kd p v j ns K -> ∃ cs, K cs /\ cs.length = ns.length /\ (∀ i, AV.hasL i cs = false) /\ Yg5 cs = true /\ ∀ φ, AV.concL φ cs = if p < j then ns.map (Value.int kd) else (ns.map (Value.int kd)).set (p - j) (.int kd v)
 | [], j, K, h => ⟨[], h, rfl, fun _ => rfl, rfl, fun φ => by simp [AV.concL]⟩
 | n :: ns, j, K, h => by
  unfold Yy2 at h;obtain ⟨cs, h1, h2, h3, h4, h5⟩ := Ymw (Yi.1 h);refine ⟨_, h1, by simp [h2], fun i => by simp [AV.hasL, AV.has, h3 i], by simpa [Yg5, AV.one] using h4, fun φ => ?_⟩;simp only [AV.concL, AV.conc, h5 φ, selU];rcases Nat.lt_trichotomy p j with e | e | e
  ·simp [show p < j + 1 by omega, e, show p ≠ j by omega]
  ·subst e; simp
  ·obtain ⟨q, hq⟩ : ∃ q, p - j = q + 1 := ⟨p - j - 1, by omega⟩;rw [show p - (j + 1) = q by omega, hq];simp [show ¬ p < j + 1 by omega, show ¬ p < j by omega, show p ≠ j by omega]
def Yv2 (c : Cx) (T : TypeId) (s j : AV) (hp : Heap) (k : KE) (D : Prop) : Prop :=
 match s with
 | .rs ts r => intK j (fun kd i => tiK c.tt T fun ti => match ti.slice with
   | some (e, sz, by_, zs) => Yc (Nat.beq sz ts.length) (Need (decide (0 <= i) && decide (i < (r.xs.length : Int))) (k (.rp ts r i.toNat 0) [] [] []))
   | none => Stuck 323) (Stuck 324)
 | .rw id => intK j (fun kd i => Y4 hp id fun it => match it with
   | .arr T' ts xs => tiK c.tt T fun ti => (match ti.slice with
    | some (e, sz, by_, zs) => Yc (Nat.beq sz ts.length && Nat.ble 1 sz) (Need (decide (0 <= i) && decide (i < (xs.length : Int))) (k (.ep id ts.length i.toNat 0) [(id, .arr T' ts xs)] [] []))
    | none => Stuck 325)
   | _ => Stuck 326) (Stuck 327)
 | .sl id off lo n => Y4 hp id fun it => (match it with
   | .arr T' ts xs => intK j (fun kd i => tiK c.tt T fun ti => match ti.slice with
    | some (e, sz, by_, zs) => Yc (Nat.beq sz ts.length && Nat.ble 1 sz && Nat.beq off 0 && Nat.beq lo 0) (Need (decide (0 <= i) && decide (i < (n : Int)) && decide (n <= xs.length)) (k (.ep id ts.length i.toNat 0) [(id, .arr T' ts xs)] [] []))
    | none => Stuck 328) (Stuck 329)
   | _ => D)
 | .rwp id sz' l n => Y4 hp id fun it => (match it with
   | .arr T' ts xs => intK j (fun kd i => tiK c.tt T fun ti => match ti.slice with
    | some (e, sz, by_, zs) => Yc (Nat.beq sz ts.length && Nat.beq sz' ts.length && Nat.ble 1 sz) (Need (decide (0 <= i) && decide (i < (n : Int)) && decide (l + n <= xs.length)) (k (.ep id ts.length (l + i.toNat) 0) [(id, .arr T' ts xs)] [] []))
    | none => Stuck 328) (Stuck 329)
   | _ => D)
 | .ptr id m => (match j with
  | .v (.int kd i) => tiK c.tt T fun ti => (match ti.arr with
   | some (n, sz, b) => Yuj false i n m sz fun a => k (.ptr id a) [] [] []
   | none => Stuck 369)
  | .si kd i => tiK c.tt T fun ti => (match ti.arr with
   | some (n, sz, b) => Need (decide (0 <= i) && decide (i < (n : Int))) (match Nat.ble 8 n && (Nat.beq sz 1 && Nat.beq m 0) with
    | true => k (.ep id 1 i.toNat 0) [] [] []
    | false => Ytf i sz n 0 m fun a => k (.ptr id a) [] [] [])
   | none => Stuck 384)
  | _ => Stuck 370)
 | .ep id sz r o => intK j (fun kd i => tiK c.tt T fun ti => (match ti.arr with
   | some (n, sz', b) => Yc (Nat.beq sz' 1 && Nat.beq o 0) (Need (decide (0 <= i) && decide (i < (n : Int))) (k (.ep id sz r i.toNat) [] [] []))
   | none => Stuck 385)) (Stuck 386)
 | _ => D
def Yrv (c : Cx) (T : TypeId) (p : AV) (hp : Heap) (k : KE) (D : Prop) : Prop :=
 match p with
 | .rp ts r i j => tiK c.tt T fun ti => (match ti.agg with
   | some false => Yc (Nat.blt j ts.length) (Need (decide (i < r.xs.length)) (k (Ym6 r i j) [] [] []))
   | some true => (match ti.size with | some n => Yc (Nat.ble (j + n) ts.length) (Need (decide (i < r.xs.length)) (k (.agg (Yd8 r i j n)) [] [] [])) | none => Stuck 330)
   | none => Stuck 331)
 | .ep id sz i j => Y4 hp id fun it => (match it with
   | .blk T' cs => Yc (Nat.beq sz 1 && Nat.beq j 0) (tiK c.tt T fun ti => match ti.agg with
    | some false => Ywt cs fun kd ns => Need (decide (i < ns.length)) (k (.si kd (ns.getD i 0)) [(id, .blk T' cs)] [] [])
    | _ => Stuck 387)
   | .arr T' ts xs => Yc (Nat.beq sz ts.length) (tiK c.tt T fun ti => match ti.agg with
    | some false => match uniK ts with
     | some kd => Need (decide (j < ts.length) && decide (i < xs.length)) (k (.si kd (cel xs i j).int) [(id, .arr T' ts xs)] [] [])
     | none => Yc (Nat.blt j ts.length) (Need (decide (i < xs.length)) (k (Yiw (tyAt ts j) (cel xs i j)) [(id, .arr T' ts xs)] [] []))
    | some true => (match ti.size with | some n => Yc (Nat.ble (j + n) ts.length) (Need (decide (i < xs.length)) (k (.agg (Yc2 ts xs i j n)) [(id, .arr T' ts xs)] [] [])) | none => Stuck 332)
    | none => Stuck 333)
   | _ => Stuck 334)
 | _ => D
def Yvy (ts : List Ty) (xs : Dt) (i j n : Nat) (vs : List AV) (K : List Cl -> Prop) : Prop :=
 match j, Nat.beq n ts.length with
 | 0, true => clsK ts vs K
 | _, _ => Yjz ts j fun t1 => Yhk t1 n fun t2 => clsK t2 vs fun cs => K (Ymx (xs.getD i []) j cs)
def Yob (c : Cx) (T : TypeId) (p v : AV) (hp : Heap) (k : KE) (D : Prop) : Prop :=
 match p with
 | .ep id sz i j => Y4 hp id fun it => (match it with
   | .blk T' cs => Yc (Nat.beq sz 1 && Nat.beq j 0) (tiK c.tt T fun ti => (match ti.size with
    | some n => intK v (fun kv u => Ywt cs fun kd ns => Yc (decide (kv = kd) && Nat.beq n 1) (Need (decide (i < ns.length)) (Yy2 kd i u 0 ns fun cs' => k (.v undef) [(id, .blk T' cs)] [(id, .blk T' cs')] []))) (Stuck 388)
    | none => Stuck 389))
   | .arr T' ts xs => Yc (Nat.beq sz ts.length) (tiK c.tt T fun ti => match ti.size with
    | some n => Yjr v fun vs => Yc (lenB vs n && Yg5 vs && Nat.ble 1 n && Nat.ble (j + n) ts.length) (Yvy ts xs i j n vs fun row =>
      Need (decide (i < xs.length)) (k (.v undef) [(id, .arr T' ts xs)] [(id, .arr T' ts (xs.set i row))] []))
    | none => Stuck 335)
   | _ => Stuck 336)
 | _ => D
def Yof (c : Cx) (T : TypeId) (i : Nat) (p : AV) (k : KE) (D : Prop) : Prop :=
 match p with
 | .rp ts r j o => tiK c.tt T fun ti => getK ti.fields i fun f => (match f with | some (off, n + 1) => fN false (o + off) fun o => k (.rp ts r j o) [] [] [] | _ => Stuck 337)
 | .ep id sz j o => tiK c.tt T fun ti => getK ti.fields i fun f => (match f with | some (off, n + 1) => fN false (o + off) fun o => k (.ep id sz j o) [] [] [] | _ => Stuck 338)
 | _ => D
def Yv1 (c : Cx) (tys : List TypeId) (v : AV) (hp : Heap) (k : KE) (D : Prop) : Prop :=
 match v with
 | .rs ts r => (match tys with | [T] => tiK c.tt T fun ti => (match ti.slice with | some _ => k (.si .i64 (r.xs.length : Int)) [] [] [] | none => Stuck 339) | _ => Stuck 340)
 | .rw id => Y4 hp id fun it => (match it with
   | .arr T' ts xs => (match tys with | [T] => tiK c.tt T fun ti => (match ti.slice with | some _ => Yc (Nat.ble 1 ts.length) (k (.si .i64 (xs.length : Int)) [(id, .arr T' ts xs)] [] []) | none => Stuck 341) | _ => Stuck 342)
   | _ => Stuck 343)
 | .sl id off lo n => Y4 hp id fun it => (match it with
   | .arr T' ts xs => (match tys with | [T] => tiK c.tt T fun ti => (match ti.slice with | some _ => k (.si .i64 (n : Int)) [] [] [] | none => Stuck 344) | _ => Stuck 345)
   | _ => D)
 | .rwp id sz' l n => (match tys with | [T] => tiK c.tt T fun ti => (match ti.slice with | some _ => k (.si .i64 (n : Int)) [] [] [] | none => Stuck 344) | _ => Stuck 345)
 | _ => D
def Yyx (mx : Bool) (a b : AV) (K : K1) (D : Prop) : Prop :=
 match a, b with
 | .si ka m, .si kb n => Yc (decide (ka = kb)) (match mx with | true => K (.si ka (max m n)) | false => K (.si ka (min m n)))
 | .si ka m, .v (.int kb n) => Yc (decide (ka = kb)) (match mx with | true => K (.si ka (max m n)) | false => K (.si ka (min m n)))
 | .v (.int ka m), .si kb n => Yc (decide (ka = kb)) (match mx with | true => K (.si ka (max m n)) | false => K (.si ka (min m n)))
 | _, _ => D
def Yjs (tm : List AV) (x : Option Operand) (dflt : Nat) (K : Nat -> Prop) : Prop :=
 match x with
 | none => K dflt
 | some x => evK tm x fun v => (match v with | .v (.int _ (.ofNat n)) => K n | .si _ i => Need (decide (0 <= i)) (K i.toNat) | _ => Stuck 346)
def Yod (c : Cx) (T : TypeId) (tm : List AV) (s : AV) (lo hi mx : Option Operand) (hp : Heap) (k : KE) (D : Prop) : Prop :=
 match s with
 | .rs ts r => (match mx with
   | none => tiK c.tt T fun ti => (match ti.slice with
    | some (e, sz, by_, zs) => Yc (Nat.beq sz ts.length) (Yjs tm lo 0 fun l => Yjs tm hi r.xs.length fun h => Need (decide (l <= h) && decide (h <= r.xs.length)) (k (.rs ts (r.cut l h)) [] [] []))
    | none => Stuck 347)
   | some m => (match lo with
    | none => tiK c.tt T fun ti => (match ti.slice with
     | some (e, sz, by_, zs) => Yc (Nat.beq sz ts.length) (Yjs tm hi 1 fun h => Yjs tm (some m) 1 fun m => Yc (Nat.beq h 0 && Nat.beq m 0) (k (.rs ts r.zero) [] [] []))
     | none => Stuck 347)
    | some _ => Stuck 348))
 | .rw id => Y4 hp id fun it => (match it with
   | .arr T' ts xs => (match mx with
    | none => tiK c.tt T fun ti => (match ti.slice with
     | some (e, sz, by_, zs) => Yc (Nat.beq sz ts.length && Nat.ble 1 sz) (Yjs tm lo 0 fun l => Yjs tm hi xs.length fun h => Need (decide (l <= h) && decide (h <= xs.length)) (k (.rwp id ts.length l (h - l)) [(id, .arr T' ts xs)] [] []))
     | none => Stuck 347)
    | some _ => Stuck 348)
   | _ => D)
 | _ => D
def Ych (ts : List Ty) (x : AV) (hp : Heap) (K : Heap -> Dt -> Prop) : Prop :=
 match x with
 | .v (.slice _ n _) => Yc (Nat.beq n 0) (K [] [])
 | .emp _ => K [] []
 | .rs ts' r => Yc (sameTs ts' ts) (K [] r.xs)
 | .rw id => Y4 hp id fun it => (match it with | .arr T' ts' xs => Yc (sameTs ts' ts) (K [(id, .arr T' ts' xs)] xs) | _ => Stuck 349)
 | .sl id off lo m => Y4 hp id fun it => (match it with
   | .row T' sz n cs => (match Nat.beq m 0 with
    | true => K [] []
    | false => Ysl (.row T' sz n cs) off m ts.length fun news => Yr6 ts m news fun ys => K [(id, .row T' sz n cs)] ys)
   | .arr T' ts' xs => Yc (sameTs ts' ts && Nat.beq off 0 && Nat.beq lo 0) (Need (decide (m <= xs.length)) (K [(id, .arr T' ts' xs)] (xs.take m)))
   | _ => Stuck 350)
 | .rwp id sz' l m => Y4 hp id fun it => (match it with
   | .arr T' ts' xs => Yc (sameTs ts' ts && Nat.beq sz' ts.length) (Need (decide (l + m <= xs.length)) (K [(id, .arr T' ts' xs)] ((xs.drop l).take m)))
   | _ => Stuck 350)
 | _ => Stuck 351
where
 sameTy : Ty -> Ty -> Bool
  | .int k, .int k' => decide (k = k')
  | .bool, .bool => true
  | .str, .str => true
  | _, _ => false
 sameTs : List Ty -> List Ty -> Bool
  | [], [] => true
  | t :: ts, u :: us => match sameTy t u with | true => sameTs ts us | false => false
  | _, _ => false
def Y17 (s x : AV) (hp : Heap) : Bool :=
 match s, x with
 | .rw _, _ => true
 | _, .rw _ => true
 | _, .rwp _ _ _ _ => true
 | _, .rs _ _ => true
 | _, .sl id _ _ _ => (match look hp id with | some (.row _ _ _ cs) => anySym cs | some (.arr _ _ _) => true | _ => false)
 | _, _ => false
where
 anySym : List AV -> Bool
  | [] => false
  | .si _ _ :: _ => true
  | .sb _ :: _ => true
  | .ss _ :: _ => true
  | _ :: xs => anySym xs
def Yfe (c : Cx) (T : TypeId) (id' : Nat) (s x : AV) (hp : Heap) (k : KE) : Prop :=
 tiK c.tt T fun ti => match ti.slice with
  | none => Stuck 352
  | some (e, sz, by_, zs) => Yc (lenB zs sz && Nat.ble 1 sz && Nat.ble 1 by_) (match s with
   | .v (.slice none 0 0) => tysK zs fun ts => Ych ts x hp fun hs ys => Need (decide (ys.length * by_ <= 140737488355328)) (k (.rw id') hs [] [(id', .arr e ts ys)])
   | .rs _ q => tysK zs fun ts => Ych ts x hp fun hs ys => Need (decide (q.xs.length = 0) && decide (capV q.v = 0) && decide (0 < ys.length) && decide (ys.length * by_ <= 140737488355328)) (k (.rw id') hs [] [(id', .arr e ts ys)])
   | .rw id => Y4 hp id fun it => (match it with
    | .arr T' ts xs => Yc (Nat.beq T' e && Nat.beq ts.length sz) (Ych ts x hp fun hs ys => Yc (disjB hs [(id, it)]) (Need (decide ((xs.length + ys.length) * by_ <= 140737488355328)) (k (.rw id') ((id, .arr T' ts xs) :: hs) [(id, .bk e ts xs id')] [(id', .arr e ts (xs ++ ys))])))
    | _ => Stuck 353)
   | .sl id off lo n => Y4 hp id fun it => (match it with
    | .row T' sz' n' cs => Yc (Nat.beq T' e && Nat.beq sz' sz && Nat.beq n' n && Nat.beq off 0 && Nat.beq lo 0) (tysK zs fun ts => Yr6 ts n cs fun xs => Ych ts x hp fun hs ys => Yc (disjB hs [(id, it)]) (Need (decide ((xs.length + ys.length) * by_ <= 140737488355328)) (k (.rw id') ((id, .row T' sz' n' cs) :: hs) [(id, .dead)] [(id', .arr e ts (xs ++ ys))])))
    | _ => Stuck 354)
   | _ => Stuck 355)
where
 disjB : Heap -> Heap -> Bool
  | [], _ => true
  | p :: a, b => match look b p.1 with | none => disjB a b | some _ => false
def Yru (c : Cx) (T : TypeId) (id : Nat) (x y : AV) (k : KE) (D : Prop) : Prop :=
 match x with
 | .si kl n => intK y (fun kc m => tiK c.tt T fun ti => match ti.slice with
   | none => Stuck 356
   | some (e, sz, by_, zs) => Yc (lenB zs sz && Nat.ble 1 by_) (tysK zs fun ts => Need (decide (n = m) && decide (0 <= n) && decide (by_ * n.toNat <= 281474976710656)) (k (.rw id) [] [] [(id, .arr e ts (List.replicate n.toNat (Ygr ts)))]))) (Stuck 357)
 | _ => D
def Ykp (c : Cx) (T : TypeId) (ok : Bool) (m i : AV) (hp : Heap) (k : KE) (D : Prop) : Prop :=
 match m with
 | .mp id => Y4 hp id fun it => (match it with
  | .obj (.mpI es) => (match ok with
   | false => intK i (fun kd n => Yc (decide (kd = .i64) && Yqk c.P T) (k (.si .i64 (getI es n)) [(id, .obj (.mpI es))] [] [])) (Stuck 371)
   | true => Stuck 372)
  | _ => D)
 | _ => D
def Yko (c : Cx) (T : TypeId) (m i v : AV) (hp : Heap) (k : KE) (D : Prop) : Prop :=
 match m with
 | .mp id => Y4 hp id fun it => (match it with
  | .obj (.mpI es) => intK i (fun kd n => intK v (fun ke u => Yc (decide (kd = .i64) && decide (ke = .i64) && Yqk c.P T) (k (.v undef) [(id, .obj (.mpI es))] [(id, .obj (.mpI (setI es n u)))] [])) (Stuck 373)) (Stuck 374)
  | _ => D)
 | _ => D
def Yv0 (p : AV) (k : KE) (D : Prop) : Prop :=
 match p with
 | .ep id sz i j => k (.ep id sz i j) [] [] []
 | .rp ts r i j => k (.rp ts r i j) [] [] []
 | _ => D
def Ykq (c : Cx) (T : TypeId) (s j : AV) (k : KE) (D : Prop) : Prop :=
 match s, j with
 | .agg cs, .si kd i => tiK c.tt T fun ti => (match ti.arr with
  | some (n, sz, false) => Ywt cs fun kn ns => Yc (Nat.beq sz 1 && Nat.beq ns.length n) (Need (decide (0 <= i) && decide (i < (n : Int))) (k (.si kn (ns.getD i.toNat 0)) [] [] []))
  | _ => Stuck 392)
 | _, _ => D
def Ykr (P : Program) (T : TypeId) (i : Nat) (s : AV) (k : KE) (D : Prop) : Prop :=
 match s with
 | .agg cs => (match P.underlying T with
  | some (.struct fs) => (match fs[i]? with | some f => subK P f.type cs f.offset fun x => k x [] [] [] | none => Stuck 393)
  | _ => Stuck 394)
 | _ => D
def Yvs (c : Cx) (o : Oper) (tm : List AV) (hp : Heap) (k kp : KE) : Prop :=
 match o.op with
 | .binOp op T x y _ => evK tm x fun a => evK tm y fun b => Yv3 c.P op T a b (fun v => k v [] [] []) (Ywy c op T a b hp k (Ydf c o tm hp k kp))
 | .unOp op _ x => evK tm x fun a => Y00 op a (fun v => k v [] [] []) (Ydf c o tm hp k kp)
 | .convert s d x => evK tm x fun a => Yry c.P s d a (fun v => k v [] [] []) (Ydf c o tm hp k kp)
 | .pick b x y => Yvz tm b x y (fun v => k v [] [] []) (Ydf c o tm hp k kp)
 | .indexAddr T x ix => evK tm x fun s => evK tm ix fun j => Yv2 c T s j hp k (Ydf c o tm hp k kp)
 | .index T x ix => evK tm x fun s => evK tm ix fun j => Ykq c T s j k (Ydf c o tm hp k kp)
 | .field T x i => evK tm x fun s => Ykr c.P T i s k (Ydf c o tm hp k kp)
 | .load T x => evK tm x fun p => Yrv c T p hp k (Ydf c o tm hp k kp)
 | .store T x y => evK tm x fun p => evK tm y fun v => Yob c T p v hp k (Ydf c o tm hp k kp)
 | .fieldAddr T x i => evK tm x fun p => Yof c T i p k (Ydf c o tm hp k kp)
 | .slice T x lo hi mx => evK tm x fun s => Yod c T tm s lo hi mx hp k (Ydf c o tm hp k kp)
 | .makeSlice T x y => evK tm x fun x => evK tm y fun y => Yru c T (3 * o.dst.getD 0) x y k (Ydf c o tm hp k kp)
 | .nilCheck x => evK tm x fun p => Yv0 p k (Ydf c o tm hp k kp)
 | .lookup T x ix ok => evK tm x fun m => evK tm ix fun i => Ykp c T ok m i hp k (Ydf c o tm hp k kp)
 | .mapUpdate T x ix y => evK tm x fun m => evK tm ix fun i => evK tm y fun v => Yko c T m i v hp k (Ydf c o tm hp k kp)
 | .call cl => (match cl.callee with
  | .builtin b => (match b, cl.args.toList with
   | .len, [x] => evK tm x fun v => Yv1 c cl.argTypes.toList v hp k (Ydf c o tm hp k kp)
   | .min, [x, y] => evK tm x fun a => evK tm y fun b => Yyx false a b (fun v => k v [] [] []) (Ydf c o tm hp k kp)
   | .max, [x, y] => evK tm x fun a => evK tm y fun b => Yyx true a b (fun v => k v [] [] []) (Ydf c o tm hp k kp)
   | .append, [s, x] => evK tm s fun s => evK tm x fun x => (match Y17 s x hp with
    | true => (match cl.argTypes.toList with | [T, T'] => Yc (Nat.beq T T') (Yfe c T (3 * o.dst.getD 0) s x hp k) | _ => Stuck 358)
    | false => Ydf c o tm hp k kp)
   | _, _ => Ydf c o tm hp k kp)
  | _ => Ydf c o tm hp k kp)
 | _ => Ydf c o tm hp k kp
end Go.Proofs.YtbhlmkgliflhaaaGreat
namespace Go.Proofs.YtbhlmkgliflhaaaGreat
open Go.RowKit
variable [InW]
attribute [local irreducible] Go.Oper.wp
section
variable {P : Program} {tm : List AV} {dst : Option Tmp} {type : TypeId} {pos : String} {after : Array Edge} {guard : Option (Nat × Bool)}
theorem Yrz {op : BinOp} {T : TypeId} {a b : AV} {K : K1} {D : Prop} (h : Yv3 P op T a b K D) (x y : Operand) : (∃ r, K r /\ ∀ φ, Yin P op T x y (a.conc φ) (b.conc φ) (r.conc φ)) \/ D := by
 unfold Yv3 at h
 split at h
 ·exact .inl (Yl0 h T x y)
 ·exact .inl (Yl0 h T x y)
 ·exact .inl (Yl0 h T x y)
 ·exact .inl (Yl1 h x y)
 ·exact .inl (Yl1 h x y)
 ·exact .inl (Yl1 h x y)
 ·exact .inl (Ylz h x y)
 ·exact .inl (Ylz h x y)
 ·exact .inl (Ylz h x y)
 ·exact .inl (Yl2 h x y (fun φ => ⟨_, rfl⟩) (fun φ => ⟨_, rfl⟩))
 ·exact .inl (Yl2 h x y (fun φ => ⟨_, rfl⟩) (fun φ => ⟨_, rfl⟩))
 ·exact .inl (Yl2 h x y (fun φ => ⟨_, rfl⟩) (fun φ => ⟨_, rfl⟩))
 ·exact .inr h
theorem Y19 {op : UnOp} {T : TypeId} {x : Operand} {a r : AV} (hx : At tm x a) (ja : a.rd = true) (h : ∀ φ w, (Op.unary op (a.conc φ)).run P w = .ok (r.conc φ) w) : Does P { dst, op := .unOp op T x, type, pos, after, guard } tm [] r [] [] :=
 Does.pure fun φ ac ho w => by
  have e := ho x (by simp [Op.operands]) _ hx ja;unfold execOp;simp only [e, Sem.run_bind, h φ w, Result.andThen_ok, Sem.run_pure]
theorem Yum {op : UnOp} {a : AV} {K : K1} {D : Prop} (h : Y00 op a K D) : (∃ r, K r /\ a.rd = true /\ ∀ φ w, (Op.unary op (a.conc φ)).run P w = .ok (r.conc φ) w) \/ D := by
 unfold Y00 at h
 split at h
 ·split at h
  ·obtain ⟨h⟩ := h;exact .inl ⟨_, h, rfl, fun φ w => by simp [AV.conc, Op.unary, Op.intArith]⟩
  ·exact h.elim
 ·split at h
  ·exact .inl ⟨_, h, rfl, fun φ w => by simp [AV.conc, Op.unary]⟩
  ·exact h.elim
 ·exact .inr h
theorem Ypt {src dst' : TypeId} {a : AV} {K : K1} {D : Prop} (h : Yry P src dst' a K D) : (∃ r, K r /\ a.rd = true /\ ∀ φ w, (convert src dst' (a.conc φ)).run P w = .ok (r.conc φ) w) \/ D := by
 unfold Yry at h
 split at h
 ·split at h
  ·rename_i k1 k2 h1 h2;obtain ⟨h⟩ := h;exact .inl ⟨_, h, rfl, fun φ w => by simp [AV.conc, convert, Sem.run_bind, run_underlying h1 w, run_underlying h2 w, Conv.intToInt]⟩
  ·exact h.elim
 ·exact .inr h
theorem Y1p {c x y : Operand} {cv u v r : AV} {b : Bool} (hc : At tm c cv) (hcj : cv.rd = true) (hcv : ∀ φ, cv.conc φ = .bool b) (hx : At tm x u) (hxj : u.rd = true) (hy : At tm y v) (hyj : v.rd = true) (hr : ∀ φ, r.conc φ = if b then u.conc φ else v.conc φ) : Does P { dst, op := .pick c x y, type, pos, after, guard } tm [] r [] [] :=
 fun φ w0 M R a w K Q ho _ hS kk => by
  have e1 := ho.ev (x := c) (by simp [Op.operands]) hc hcj;rw [hcv φ] at e1;refine Y0o e1 (v := r.conc φ) ?_ (kk φ w (Agree.refl _ _) hS);rw [hr φ];cases b
  ·exact ho.ev (x := y) (by simp [Op.operands]) hy hyj
  ·exact ho.ev (x := x) (by simp [Op.operands]) hx hxj
theorem Ypq {cnd x y : Operand} {K : K1} {D : Prop} (h : Yvz tm cnd x y K D) : (∃ r, K r /\ Does P { dst, op := .pick cnd x y, type, pos, after, guard } tm [] r [] []) \/ D := by
 obtain ⟨cv, hcj, hc, h1⟩ := Yf h
 split at h1
 ·rename_i b;obtain ⟨u, hxj, hx, h2⟩ := Yf h1;obtain ⟨v, hyj, hy, h3⟩ := Yf h2;have fin : ∀ r : AV, K r -> (∀ φ, r.conc φ = if b then u.conc φ else v.conc φ) -> (∃ r, K r /\ Does P { dst, op := .pick cnd x y, type, pos, after, guard } tm [] r [] []) \/ D := fun r hk hr =>
   .inl ⟨r, hk, Y1p hc hcj (fun φ => rfl) hx hxj hy hyj hr⟩
  split at h3
  ·exact fin _ h3 fun φ => by cases b <;> rfl
  ·split at h3
   ·exact fin _ h3 fun φ => by cases b <;> rfl
   ·exact fin _ h3 fun φ => by cases b <;> rfl
  ·split at h3
   ·exact fin _ h3 fun φ => by cases b <;> rfl
   ·exact fin _ h3 fun φ => by cases b <;> rfl
  ·rcases h3.spec with ⟨rfl, h4⟩ | ⟨rfl, h4⟩
   ·exact fin _ h4 fun φ => rfl
   ·exact fin _ h4 fun φ => rfl
 ·exact .inr h1
def Res1 (P : Program) (o : Oper) (tm : List AV) (hp : Heap) (k : KE) : Prop := ∃ val hs us nw, k val hs us nw /\ PartOf hs hp /\ (∀ i ∈ keys us, i ∈ keys hs) /\ Does P o tm hs val us nw
theorem Ybc {hs : Heap} : ∀ i ∈ keys ([] : Heap), i ∈ keys hs := by intro i hi; simp [keys] at hi
theorem Yvl {T : TypeId} {n sz m : Nat} {b : Bool} {x ix : Operand} {id : Nat} {kd : IntKind} {i : Int} (ht : (mkTI P T).arr = some (n, sz, b)) (hx : At tm x (.ptr id m)) (hi : At tm ix (.v (.int kd i))) (h0 : 0 <= i) (h1 : i < (n : Int)) :
  Does P { dst, op := .indexAddr T x ix, type, pos, after, guard } tm [] (.ptr id (m + i.toNat * sz)) [] [] :=
 Does.pure fun φ ac ho w => by
  obtain ⟨e, hu, hs, _⟩ := Ygc ht;have e1 := ho x (by simp [Op.operands]) _ hx (by simp);have e2 := ho ix (by simp [Op.operands]) _ hi (by simp);unfold execOp;simp only [Instr.indexAt, Instr.sureAddr, e1, e2, AV.conc, asIntOf, Sem.run_bind, Sem.run_pure, Result.andThen_ok, run_underlying hu w, h0, h1, and_self, if_true, Ybj hs, Ym]
theorem Ylr {T : TypeId} {n sz m : Nat} {b : Bool} {x ix : Operand} {id : Nat} {kd : IntKind} {i : Int} (ht : (mkTI P T).arr = some (n, sz, b)) (hx : At tm x (.ptr id m)) (hi : At tm ix (.si kd i)) (h0 : 0 <= i) (h1 : i < (n : Int)) :
  Does P { dst, op := .indexAddr T x ix, type, pos, after, guard } tm [] (.ptr id (m + i.toNat * sz)) [] [] :=
 Does.pure fun φ ac ho w => by
  obtain ⟨e, hu, hs, _⟩ := Ygc ht;have e1 := ho x (by simp [Op.operands]) _ hx (by simp);have e2 := ho ix (by simp [Op.operands]) _ hi (by simp);unfold execOp;simp only [Instr.indexAt, Instr.sureAddr, e1, e2, AV.conc, asIntOf, Sem.run_bind, Sem.run_pure, Result.andThen_ok, run_underlying hu w, h0, h1, and_self, if_true, Ybj hs, Ym]
theorem Yx6 {T : TypeId} {n sz r : Nat} {b : Bool} {x ix : Operand} {id : Nat} {kd : IntKind} {i : Int} {j : AV} (ht : (mkTI P T).arr = some (n, 1, b)) (hx : At tm x (.ep id sz r 0)) (hi : At tm ix j) (hr : j.rd = true) (hc : ∀ φ, j.conc φ = .int kd i) (h0 : 0 <= i) (h1 : i < (n : Int)) :
  Does P { dst, op := .indexAddr T x ix, type, pos, after, guard } tm [] (.ep id sz r i.toNat) [] [] :=
 Does.pure fun φ ac ho w => by
  obtain ⟨e, hu, hs, _⟩ := Ygc ht;have e1 := ho x (by simp [Op.operands]) _ hx (by simp);have e2 := ho ix (by simp [Op.operands]) _ hi hr;rw [hc φ] at e2;unfold execOp;simp only [Instr.indexAt, Instr.sureAddr, e1, e2, AV.conc, asIntOf, Sem.run_bind, Sem.run_pure, Result.andThen_ok, run_underlying hu w, h0, h1, and_self, if_true, Ybj hs, Ym, Nat.add_zero, Nat.mul_one]
theorem Y1r {T T' : TypeId} {x : Operand} {id i : Nat} {cs : List AV} {kd : IntKind} {ns : List Int} (ha : Ygk P T false) (hx : At tm x (.ep id 1 i 0)) (hc : ∀ φ, AV.concL φ cs = ns.map (Value.int kd)) (hi : i < ns.length) : Does P { dst, op := .load T x, type, pos, after, guard } tm [(id, .blk T' cs)] (.si kd (ns.getD i 0)) [] [] :=
 fun φ w0 M R a w K Q ho _ hS kk => by
  have h2 := Yp (ho.ev (x := x) (by simp [Op.operands]) hx (by simp));simp only [AV.conc, Nat.mul_one, Nat.add_zero] at h2;have hv : ((It.blk T' cs).vals φ)[i]? = some (.int kd (ns.getD i 0)) := by
   simp [It.vals, hc φ, hi, List.getD_eq_getElem?_getD]
  unfold Oper.wp execOp;simp only [h2, Sem.run_bind, Yc7 ha (Y7 hS hv), Result.andThen_ok, Sem.run_pure, Oper.upon];exact kk φ w (Agree.refl _ _) hS
theorem Yzv {T T' : TypeId} {x y : Operand} {id i : Nat} {cs cs' : List AV} {v : AV} {kd : IntKind} {u : Int} {ns : List Int} (hs : Yci P T 1) (hx : At tm x (.ep id 1 i 0)) (hy : At tm y v) (hj : v.rd = true) (hv : ∀ φ, v.conc φ = .int kd u) (hc : ∀ φ, AV.concL φ cs = ns.map (Value.int kd)) (hi : i < ns.length) (hc' : ∀ φ, AV.concL φ cs' = (ns.map (Value.int kd)).set i (.int kd u)) :
  Does P { dst, op := .store T x y, type, pos, after, guard } tm [(id, .blk T' cs)] (.v undef) [(id, .blk T' cs')] [] :=
 fun φ w0 M R a w K Q ho _ hS kk => by
  have h2 := Yp (ho.ev (x := x) (by simp [Op.operands]) hx (by simp));have h3 := Yp (ho.ev (x := y) (by simp [Op.operands]) hy hj);simp only [AV.conc, Nat.mul_one, Nat.add_zero] at h2;rw [hv φ] at h3;refine Ypw (v := .int kd u) hS hs h2 h3 (by simp [Value.cells]) (fun w hw => by simp [Value.cells] at hw; subst hw; rfl) (by rw [hc φ]; simp; omega) fun w' hS' => ?_;have e : Ycc (AV.concL φ cs).toArray i (Value.int kd u).cells.toList = (AV.concL φ cs').toArray := by
   apply Array.ext';rw [Yc1 _ _ _ (by rw [hc φ]; simp [Value.cells]; omega), hc φ, hc' φ];rw [List.set_eq_take_append_cons_drop, if_pos (by simpa using hi)];simp [Value.cells]
  rw [e] at hS';exact kk φ w' (Agree.refl _ _) (by simpa [Yh, upd, Nat.beq_refl, Yb, It.conc] using hS')
theorem Yrx {c : Cx} (ht : TabOk c.P c.tt) {T : TypeId} {s j : AV} {x ix : Operand} {hp : Heap} {k : KE} {D : Prop} (hx : At tm x s) (hj : At tm ix j) (h : Yv2 c T s j hp k D) : Res1 c.P { dst, op := .indexAddr T x ix, type, pos, after, guard } tm hp k \/ D := by
 unfold Yv2 at h
 split at h
 ·rename_i ts r;rcases Yb8 h with ⟨kd, i, h1, hc, hr⟩ | h1
  ·have h2 := Yo ht h1
   split at h2
   ·rename_i e sz by_ zs hs;obtain ⟨h3, h4⟩ := Ya h2;obtain ⟨h5, h6⟩ := h4;simp only [Bool.and_eq_true, decide_eq_true_eq] at h5;exact .inl ⟨_, _, _, _, h6, .nil _, Ybc, Yx5 hs (Yd.1 h3) hx hj hr hc h5.1 h5.2⟩
   ·exact h2.elim
  ·exact h1.elim
 ·rename_i id;rcases Yb8 h with ⟨kd, i, h1, hc, hr⟩ | h1
  ·obtain ⟨it, hl, h2⟩ := Yg h1
   split at h2
   ·have h3 := Yo ht h2
    split at h3
    ·rename_i e sz by_ zs hs;obtain ⟨h4, h5⟩ := Ya h3;obtain ⟨h6, h7⟩ := h5;simp only [Bool.and_eq_true, decide_eq_true_eq, Nat.ble_eq, Yd] at h4 h6;exact .inl ⟨_, _, _, _, h7, .one hl, Ybc, Yra hs h4.1 (by omega) hx (.inl ⟨rfl, rfl⟩) hj hr hc h6.1 h6.2⟩
    ·exact h3.elim
   ·exact h2.elim
  ·exact h1.elim
 ·rename_i id off lo n;obtain ⟨it, hl, h2⟩ := Yg h
  split at h2
  ·rcases Yb8 h2 with ⟨kd, i, h1, hc, hr⟩ | h1
   ·have h3 := Yo ht h1
    split at h3
    ·rename_i e sz by_ zs hs;obtain ⟨h4, h5⟩ := Ya h3;obtain ⟨h6, h7⟩ := h5;simp only [Bool.and_eq_true, decide_eq_true_eq, Nat.ble_eq, Yd] at h4 h6;obtain ⟨⟨⟨h41, h42⟩, rfl⟩, rfl⟩ := h4;exact .inl ⟨_, _, _, _, h7, .one hl, Ybc, Yra hs h41 (by omega) hx (.inr ⟨rfl, h6.2⟩) hj hr hc h6.1.1 h6.1.2⟩
    ·exact h3.elim
   ·exact h1.elim
  ·exact .inr h2
 ·rename_i id sz' l n;obtain ⟨it, hl, h2⟩ := Yg h
  split at h2
  ·rcases Yb8 h2 with ⟨kd, i, h1, hc, hr⟩ | h1
   ·have h3 := Yo ht h1
    split at h3
    ·rename_i e sz by_ zs hs;obtain ⟨h4, h5⟩ := Ya h3;obtain ⟨h6, h7⟩ := h5;simp only [Bool.and_eq_true, decide_eq_true_eq, Nat.ble_eq, Yd] at h4 h6;obtain ⟨⟨h41, rfl⟩, h42⟩ := h4;exact .inl ⟨_, _, _, _, h7, .one hl, Ybc, Yvk hs h41 (by omega) hx h6.2 hj hr hc h6.1.1 h6.1.2⟩
    ·exact h3.elim
   ·exact h1.elim
  ·exact .inr h2
 ·rename_i id m
  split at h
  ·have h2 := Yo ht h
   split at h2
   ·rename_i n sz b hq;obtain ⟨h3, h4, h5⟩ := Yf4 h2;exact .inl ⟨_, _, _, _, h5, .nil _, Ybc, Yvl hq hx hj h3 h4⟩
   ·exact h2.elim
  ·have h2 := Yo ht h
   split at h2
   ·rename_i n sz b hq;obtain ⟨h3, h4⟩ := h2;simp only [Bool.and_eq_true, decide_eq_true_eq] at h3
    split at h4
    ·rename_i hb;simp only [Bool.and_eq_true, Yd] at hb;obtain ⟨_, rfl, rfl⟩ := hb;have hd := Ylr (dst := dst) (type := type) (pos := pos) (after := after) (guard := guard) hq hx hj h3.1 h3.2;refine .inl ⟨_, _, _, _, h4, .nil _, Ybc, fun φ w0 M R ac w K Q ho hn hS kk => hd φ w0 M R ac w K Q ho hn hS fun φ' w' ha hS' => ?_⟩;have := kk φ' w' ha hS';simpa [AV.conc] using this
    ·have h5 := Ykt h4 (by omega) (by omega);rw [Int.natCast_zero, Int.sub_zero] at h5;exact .inl ⟨_, _, _, _, h5, .nil _, Ybc, Ylr hq hx hj h3.1 h3.2⟩
   ·exact h2.elim
  ·exact h.elim
 ·rename_i id sz r o;rcases Yb8 h with ⟨kd, i, h1, hc, hr⟩ | h1
  ·have h2 := Yo ht h1
   split at h2
   ·rename_i n sz' b hq;obtain ⟨h3, h4⟩ := Ya h2;obtain ⟨h5, h6⟩ := h4;simp only [Bool.and_eq_true, Yd] at h3;obtain ⟨rfl, rfl⟩ := h3;simp only [Bool.and_eq_true, decide_eq_true_eq] at h5;exact .inl ⟨_, _, _, _, h6, .nil _, Ybc, Yx6 hq hx hj hr hc h5.1 h5.2⟩
   ·exact h2.elim
  ·exact h1.elim
 ·exact .inr h
theorem Yps {c : Cx} (ht : TabOk c.P c.tt) {T : TypeId} {p : AV} {x : Operand} {hp : Heap} {k : KE} {D : Prop} (hx : At tm x p) (h : Yrv c T p hp k D) : Res1 c.P { dst, op := .load T x, type, pos, after, guard } tm hp k \/ D := by
 unfold Yrv at h
 split at h
 ·have h1 := Yo ht h
  split at h1
  ·rename_i ha;obtain ⟨h2, h3⟩ := Ya h1;obtain ⟨h4, h5⟩ := h3;exact .inl ⟨_, _, _, _, h5, .nil _, Ybc, Yx3 (Yc4 ha) hx (of_decide_eq_true h4) (by simpa [Nat.blt_eq] using h2)⟩
  ·rename_i ha
   split at h1
   ·rename_i n hn;obtain ⟨h2, h3⟩ := Ya h1;obtain ⟨h4, h5⟩ := h3;exact .inl ⟨_, _, _, _, h5, .nil _, Ybc, Yx2 (Yc4 ha) (Ydb hn) hx (of_decide_eq_true h4) (by simpa [Nat.ble_eq] using h2)⟩
   ·exact h1.elim
  ·exact h1.elim
 ·obtain ⟨it, hl, h0⟩ := Yg h
  split at h0
  ·obtain ⟨hz, h00⟩ := Ya h0;simp only [Bool.and_eq_true, Yd] at hz;obtain ⟨rfl, rfl⟩ := hz;have h1 := Yo ht h00
   split at h1
   ·rename_i ha;obtain ⟨kd, ns, h2, h3, h4⟩ := Yix h1;obtain ⟨h5, h6⟩ := h2;exact .inl ⟨_, _, _, _, h6, .one hl, Ybc, Y1r (Yc4 ha) hx h4 (of_decide_eq_true h5)⟩
   ·exact h1.elim
  ·obtain ⟨hz, h00⟩ := Ya h0;obtain rfl := Yd.1 hz;have h1 := Yo ht h00
   split at h1
   ·rename_i ha
    split at h1
    ·rename_i kd hk;obtain ⟨h2, h3⟩ := h1;simp only [Bool.and_eq_true, decide_eq_true_eq] at h2;have hd := fun T'' => Yq8 (T' := T'') (dst := dst) (type := type) (pos := pos) (after := after) (guard := guard) (Yc4 ha) hx h2.2 h2.1;rw [Yvw hk _ h2.1] at hd;exact .inl ⟨_, _, _, _, h3, .one hl, Ybc, hd _⟩
    obtain ⟨h2, h3⟩ := Ya h1;obtain ⟨h4, h5⟩ := h3;exact .inl ⟨_, _, _, _, h5, .one hl, Ybc, Yq8 (Yc4 ha) hx (of_decide_eq_true h4) (by simpa [Nat.blt_eq] using h2)⟩
   ·rename_i ha
    split at h1
    ·rename_i n hn;obtain ⟨h2, h3⟩ := Ya h1;obtain ⟨h4, h5⟩ := h3;exact .inl ⟨_, _, _, _, h5, .one hl, Ybc, Yx4 (Yc4 ha) (Ydb hn) hx (of_decide_eq_true h4) (by simpa [Nat.ble_eq] using h2)⟩
    ·exact h1.elim
   ·exact h1.elim
  ·exact h0.elim
 ·exact .inr h
theorem Yrs {ts : List Ty} {xs : Dt} {i j n : Nat} {vs : List AV} {K : List Cl -> Prop} (hn : vs.length = n) (hj : j + n <= ts.length) (h : Yvy ts xs i j n vs K) :
  ∃ row, K row /\ ∀ φ, Yx ts row = (Yx ts (xs.getD i [])).take j ++ AV.concL φ vs ++ (Yx ts (xs.getD i [])).drop (j + n) := by
 have key : (Yjz ts j fun t1 => Yhk t1 n fun t2 => clsK t2 vs fun cs => K (Ymx (xs.getD i []) j cs)) -> ∃ row, K row /\ ∀ φ, Yx ts row = (Yx ts (xs.getD i [])).take j ++ AV.concL φ vs ++ (Yx ts (xs.getD i [])).drop (j + n) := fun h => by
  obtain ⟨h1, h2⟩ := Yb5 h;obtain ⟨h3, h4⟩ := Ybr h2;obtain ⟨cs, h5, h6, h7, h8, _⟩ := Yik h4;have hl : ((ts.drop j).take n).length = n := by simp; omega
  refine ⟨_, h5, fun φ => ?_⟩;rw [Ymn ts _ j cs (by omega), h7, hl, h6 φ]
 unfold Yvy at h;cases j with
 | zero =>
  cases hb : Nat.beq n ts.length with
  | true =>
   rw [hb] at h;have e := Yd.1 hb;obtain ⟨cs, h1, h2, h3, h4, _⟩ := Yik h;refine ⟨cs, h1, fun φ => ?_⟩;rw [h2 φ, Nat.zero_add, List.drop_eq_nil_of_le (by rw [Ybm]; omega)];simp
  | false => rw [hb] at h; exact key h
 | succ j => exact key h
theorem Yoa {c : Cx} (ht : TabOk c.P c.tt) {T : TypeId} {p v : AV} {x y : Operand} {hp : Heap} {k : KE} {D : Prop} (hx : At tm x p) (hy : At tm y v) (hj : v.rd = true) (h : Yob c T p v hp k D) : Res1 c.P { dst, op := .store T x y, type, pos, after, guard } tm hp k \/ D := by
 unfold Yob at h
 split at h
 ·obtain ⟨it, hl, h0⟩ := Yg h
  split at h0
  ·obtain ⟨hz, h00⟩ := Ya h0;simp only [Bool.and_eq_true, Yd] at hz;obtain ⟨rfl, rfl⟩ := hz;have h1 := Yo ht h00
   split at h1
   ·rename_i n hn;rcases Yb8 h1 with ⟨kv, u, h2, hc, hr⟩ | h2
    ·obtain ⟨kd, ns, h3, h4, h5⟩ := Yix h2;obtain ⟨h6, h7⟩ := Ya h3;simp only [Bool.and_eq_true, Yd, decide_eq_true_eq] at h6;obtain ⟨rfl, rfl⟩ := h6;obtain ⟨h8, h9⟩ := h7;obtain ⟨cs', g1, g2, g3, g4, g5⟩ := Ymw h9;exact .inl ⟨_, _, _, _, g1, .one hl, fun i hi => by simpa [keys] using hi, Yzv (Ydb hn) hx hy hj hc h5 (of_decide_eq_true h8) fun φ => by have := g5 φ; simpa using this⟩
    ·exact h2.elim
   ·exact h1.elim
  ·obtain ⟨hz, h00⟩ := Ya h0;obtain rfl := Yd.1 hz;have h1 := Yo ht h00
   split at h1
   ·rename_i n hn;obtain ⟨vs, h2, hc, _⟩ := Ydv h1;obtain ⟨h3, h4⟩ := Ya h2;simp only [Bool.and_eq_true, Nat.ble_eq] at h3;obtain ⟨⟨⟨h31, h32⟩, h33⟩, h34⟩ := h3;obtain ⟨row, h5, h6⟩ := Yrs (Y6 h31) h34 h4;obtain ⟨h7, h8⟩ := h5;exact .inl ⟨_, _, _, _, h8, .one hl, fun i hi => by simpa [keys] using hi, Yxu (Ydb hn) hx hy hj hc (Y6 h31) (by omega) h32 (of_decide_eq_true h7) h34 h6⟩
   ·exact h1.elim
  ·exact h0.elim
 ·exact .inr h
theorem Yme {c : Cx} (ht : TabOk c.P c.tt) {T : TypeId} {s j : AV} {x ix : Operand} {hp : Heap} {k : KE} {D : Prop} (hx : At tm x s) (hj : At tm ix j) (h : Ykq c T s j k D) : Res1 c.P { dst, op := .index T x ix, type, pos, after, guard } tm hp k \/ D := by
 unfold Ykq at h
 split at h
 ·rename_i cs kd i;have h1 := Yo ht h
  split at h1
  ·rename_i n sz hq;obtain ⟨kn, ns, h2, h3, h4⟩ := Yix h1;obtain ⟨h5, h6⟩ := Ya h2;simp only [Bool.and_eq_true, Yd] at h5;obtain ⟨rfl, h5⟩ := h5;obtain ⟨h7, h8⟩ := h6;simp only [Bool.and_eq_true, decide_eq_true_eq] at h7;refine .inl ⟨_, _, _, _, h8, .nil _, Ybc, Does.pure fun φ a ho w => ?_⟩;obtain ⟨e, hu, hs, hb⟩ := Ygc hq;have e1 := ho x (by simp [Op.operands]) _ hx (by simp);have e2 := ho ix (by simp [Op.operands]) _ hj (by simp);simp only [AV.conc] at e1 e2;have hv : (AV.concL φ cs).toArray[i.toNat * 1]? = some (.int kn (ns.getD i.toNat 0)) := by
    have hi : i.toNat < ns.length := by omega
    simp [h4 φ, hi, List.getD_eq_getElem?_getD]
   simp only [execOp, Instr.index, e1, e2, asIntOf, Sem.run_bind, Sem.run_pure, Result.andThen_ok, run_underlying hu w, h7.1, h7.2, and_self, if_true, Ybj hs, part, Ydn hb, Bool.false_eq_true, if_false, hv, AV.conc]
  ·exact h1.elim
 ·exact .inr h
theorem Ymf {P : Program} {T : TypeId} {i : Nat} {s : AV} {x : Operand} {hp : Heap} {k : KE} {D : Prop} (hx : At tm x s) (h : Ykr P T i s k D) : Res1 P { dst, op := .field T x i, type, pos, after, guard } tm hp k \/ D := by
 unfold Ykr at h
 split at h
 ·rename_i cs
  split at h
  ·rename_i fs hu
   split at h
   ·rename_i f hf;obtain ⟨v, h1, h2⟩ := Yff h;refine .inl ⟨_, _, _, _, h1, .nil _, Ybc, Does.pure fun φ a ho w => ?_⟩;have e1 := ho x (by simp [Op.operands]) _ hx (by simp);simp only [AV.conc] at e1;simp only [execOp, Instr.field, e1, Sem.run_bind, Sem.run_pure, Result.andThen_ok, run_underlying hu w, hf, asAgg, h2 φ w]
   ·exact h.elim
  ·exact h.elim
 ·exact .inr h
theorem Yoe {c : Cx} (ht : TabOk c.P c.tt) {T : TypeId} {i : Nat} {p : AV} {x : Operand} {hp : Heap} {k : KE} {D : Prop} (hx : At tm x p) (h : Yof c T i p k D) : Res1 c.P { dst, op := .fieldAddr T x i, type, pos, after, guard } tm hp k \/ D := by
 unfold Yof at h
 split at h
 ·have h1 := Yo ht h;obtain ⟨f, h2, h3⟩ := Ybn h1
  split at h3
  ·exact .inl ⟨_, _, _, _, Ygo.1 h3, .nil _, Ybc, Yx7 (Yiz h2) hx⟩
  ·exact h3.elim
 ·have h1 := Yo ht h;obtain ⟨f, h2, h3⟩ := Ybn h1
  split at h3
  ·exact .inl ⟨_, _, _, _, Ygo.1 h3, .nil _, Ybc, Yx8 (Yiz h2) hx⟩
  ·exact h3.elim
 ·exact .inr h
theorem Yrw {c : Cx} (ht : TabOk c.P c.tt) {tys : Array TypeId} {v : AV} {x : Operand} {hp : Heap} {k : KE} {D : Prop} (hx : At tm x v) (hj : v.rd = true) (h : Yv1 c tys.toList v hp k D) :
  Res1 c.P { dst, op := .call { callee := .builtin .len, args := #[x], argTypes := tys }, type, pos, after, guard } tm hp k \/ D := by
 obtain ⟨tys⟩ := tys;unfold Yv1 at h
 split at h
 ·rename_i ts r
  split at h
  ·rename_i T hT;have hT : tys = [T] := hT;subst hT;have h1 := Yo ht h
   split at h1
   ·rename_i q hq;obtain ⟨e, sz, by_, zs⟩ := q;refine .inl ⟨_, _, _, _, h1, .nil _, Ybc, Yo9 hq hx hj fun φ w0 M R w hS => ?_⟩;obtain ⟨A, c, hv, _⟩ := r.inv;exact ⟨A, c, hv⟩
   ·exact h1.elim
  ·exact h.elim
 ·rename_i id;obtain ⟨it, hl, h0⟩ := Yg h
  split at h0
  ·split at h0
   ·rename_i T hT;have hT : tys = [T] := hT;subst hT;have h1 := Yo ht h0
    split at h1
    ·rename_i q hq;obtain ⟨e, sz, by_, zs⟩ := q;obtain ⟨h2, h3⟩ := Ya h1;refine .inl ⟨_, _, _, _, h3, .one hl, Ybc, Yo9 hq hx hj fun φ w0 M R w hS => ?_⟩;have := (Yja (Nat.le_of_ble_eq_true h2) (by simpa [Yb] using hS)).1;exact ⟨_, _, by simp only [AV.conc, this]; rfl⟩
    ·exact h1.elim
   ·exact h0.elim
  ·exact h0.elim
 ·rename_i id off lo n;obtain ⟨it, hl, h0⟩ := Yg h
  split at h0
  ·split at h0
   ·rename_i T hT;have hT : tys = [T] := hT;subst hT;have h1 := Yo ht h0
    split at h1
    ·rename_i q hq;obtain ⟨e, sz, by_, zs⟩ := q;exact .inl ⟨_, _, _, _, h1, .nil _, Ybc, Yo9 hq hx hj fun φ w0 M R w hS => ⟨_, _, rfl⟩⟩
    ·exact h1.elim
   ·exact h0.elim
  ·exact .inr h0
 ·split at h
  ·rename_i T hT;have hT : tys = [T] := hT;subst hT;have h1 := Yo ht h
   split at h1
   ·rename_i q hq;obtain ⟨e, sz, by_, zs⟩ := q;exact .inl ⟨_, _, _, _, h1, .nil _, Ybc, Yo9 hq hx hj fun φ w0 M R w hS => ⟨_, _, rfl⟩⟩
   ·exact h1.elim
  ·exact h.elim
 ·exact .inr h
def mmB : Bool -> Builtin
 | true => .max
 | false => .min
theorem d_mm {mx : Bool} {x y : Operand} {a b : AV} {k : IntKind} {m n : Int} (hx : At tm x a) (hxj : a.rd = true) (hy : At tm y b) (hyj : b.rd = true) (ha : ∀ φ, a.conc φ = .int k m) (hb : ∀ φ, b.conc φ = .int k n) (tys : Array TypeId) :
  Does P { dst, op := .call { callee := .builtin (mmB mx), args := #[x, y], argTypes := tys }, type, pos, after, guard } tm [] (.si k (match mx with | true => max m n | false => min m n)) [] [] :=
 Does.pure fun φ ac ho w => by
  have e1 := ho x (by simp [Op.operands, Call.operands]) _ hx hxj;have e2 := ho y (by simp [Op.operands, Call.operands]) _ hy hyj;rw [ha φ] at e1;rw [hb φ] at e2;unfold execOp;cases mx with
  | true =>
   have e : (if m < n then n else m) = max m n := by rw [Int.max_def]; split <;> split <;> omega
   simp only [mmB, resolve, invoke, builtin, Sem.run_bind, Sem.run_pure, Result.andThen_ok, List.map_toArray, List.map_cons, List.map_nil, e1, e2, run_max_int2, AV.conc, e]
  | false =>
   have e : (if n < m then n else m) = min m n := by rw [Int.min_def]; split <;> split <;> omega
   simp only [resolve, invoke, builtin, Sem.run_bind, Sem.run_pure, Result.andThen_ok, List.map_toArray, List.map_cons, List.map_nil, e1, e2, run_min_int2, AV.conc, e, mmB]
theorem Ymq {mx : Bool} {a b : AV} {x y : Operand} {K : K1} {D : Prop} (hx : At tm x a) (hxj : a.rd = true) (hy : At tm y b) (hyj : b.rd = true) (tys : Array TypeId) (h : Yyx mx a b K D) :
  (∃ r, K r /\ Does P { dst, op := .call { callee := .builtin (mmB mx), args := #[x, y], argTypes := tys }, type, pos, after, guard } tm [] r [] []) \/ D := by
 unfold Yyx at h
 split at h
 ·obtain ⟨h1, h2⟩ := Ya h;obtain rfl := of_decide_eq_true h1;exact .inl (by cases mx <;> exact ⟨_, h2, d_mm hx hxj hy hyj (fun φ => rfl) (fun φ => rfl) tys⟩)
 ·obtain ⟨h1, h2⟩ := Ya h;obtain rfl := of_decide_eq_true h1;exact .inl (by cases mx <;> exact ⟨_, h2, d_mm hx hxj hy hyj (fun φ => rfl) (fun φ => rfl) tys⟩)
 ·obtain ⟨h1, h2⟩ := Ya h;obtain rfl := of_decide_eq_true h1;exact .inl (by cases mx <;> exact ⟨_, h2, d_mm hx hxj hy hyj (fun φ => rfl) (fun φ => rfl) tys⟩)
 ·exact .inr h
theorem Yc0 {x : Option Operand} {dflt : Nat} {K : Nat -> Prop} (h : Yjs tm x dflt K) : ∃ n, K n /\ BoundS tm x dflt n := by
 unfold Yjs at h
 split at h
 ·exact ⟨_, h, rfl⟩
 ·rename_i x;obtain ⟨v, hj, hx, h1⟩ := Yf h
  split at h1
  ·exact ⟨_, h1, _, _, hx, hj, fun φ => rfl⟩
  ·rename_i k i;obtain ⟨h2, h3⟩ := h1;have := of_decide_eq_true h2;exact ⟨_, h3, _, _, hx, hj, fun φ => show Value.int k i = .int k ((i.toNat : Nat) : Int) by rw [Int.toNat_of_nonneg this]⟩
  ·exact h1.elim
theorem Yoc {c : Cx} (ht : TabOk c.P c.tt) {T : TypeId} {s : AV} {x : Operand} {lo hi mx : Option Operand} {hp : Heap} {k : KE} {D : Prop} (hx : At tm x s) (h : Yod c T tm s lo hi mx hp k D) : Res1 c.P { dst, op := .slice T x lo hi mx, type, pos, after, guard } tm hp k \/ D := by
 unfold Yod at h
 split at h
 ·split at h
  ·have h1 := Yo ht h
   split at h1
   ·rename_i e sz by_ zs hs;obtain ⟨h2, h3⟩ := Ya h1;obtain ⟨l, h4, hl⟩ := Yc0 h3;obtain ⟨hh, h5, hhi⟩ := Yc0 h4;obtain ⟨h6, h7⟩ := h5;simp only [Bool.and_eq_true, decide_eq_true_eq] at h6;exact .inl ⟨_, _, _, _, h7, .nil _, Ybc, Yxw hs (Yd.1 h2) hx hl hhi h6.1 h6.2⟩
   ·exact h1.elim
  ·rename_i m
   split at h
   ·have h1 := Yo ht h
    split at h1
    ·rename_i e sz by_ zs hs;obtain ⟨h2, h3⟩ := Ya h1;obtain ⟨l, h4, hl⟩ := Yc0 h3;obtain ⟨hh, h5, hhi⟩ := Yc0 h4;obtain ⟨h6, h7⟩ := Ya h5;simp only [Bool.and_eq_true, Yd] at h6;obtain ⟨rfl, rfl⟩ := h6;cases hi with
     | none => exact absurd hl (by simp [BoundS])
     | some hi => exact .inl ⟨_, _, _, _, h7, .nil _, Ybc, Yzy hs hx hl hhi⟩
    ·exact h1.elim
   ·exact h.elim
 ·rename_i id;obtain ⟨it, hl, h0⟩ := Yg h
  split at h0
  ·split at h0
   ·have h1 := Yo ht h0
    split at h1
    ·rename_i e sz by_ zs hs;obtain ⟨h2, h3⟩ := Ya h1;simp only [Bool.and_eq_true, Nat.ble_eq, Yd] at h2;obtain ⟨l, h4, hlo⟩ := Yc0 h3;obtain ⟨hh, h5, hhi⟩ := Yc0 h4;obtain ⟨h6, h7⟩ := h5;simp only [Bool.and_eq_true, decide_eq_true_eq] at h6;exact .inl ⟨_, _, _, _, h7, .one hl, Ybc, Yxv hs h2.1 (by omega) hx hlo hhi h6.1 h6.2⟩
    ·exact h1.elim
   ·exact h0.elim
  ·exact .inr h0
 ·exact .inr h
theorem Y8 : ∀ {ts us : List Ty}, Ych.sameTs ts us = true -> ts = us /\ ∀ k, ∀ ts', tyAt ts k ≠ .sl ts'
 | [], [], _ => ⟨rfl, fun k ts' h => by cases h⟩
 | t :: ts, u :: us, h => by
  unfold Ych.sameTs at h
  split at h
  ·rename_i h1;obtain ⟨h2, h3⟩ := Y8 h;have e : t = u /\ ∀ ts', t ≠ .sl ts' := by
    cases t <;> cases u <;> simp_all [Ych.sameTy]
   refine ⟨by rw [e.1, h2], fun k ts' => ?_⟩;cases k with
   | zero => exact e.2 ts'
   | succ k => exact h3 k ts'
  ·cases h
 | [], _ :: _, h => by simp [Ych.sameTs] at h
 | _ :: _, [], h => by simp [Ych.sameTs] at h
theorem Yi4 {ts : List Ty} {xs : Dt} (hts : 0 < ts.length) {j : Nat} {u : Value} (h : (Yt ts xs)[j]? = some u) : ∃ i k, i < xs.length /\ k < ts.length /\ j = i * ts.length + k /\ u = (tyAt ts k).val (cel xs i k) := by
 have hj : j < xs.length * ts.length := by rw [<- Y2]; exact (List.getElem?_eq_some_iff.1 h).1
 have hi : j / ts.length < xs.length := (Nat.div_lt_iff_lt_mul hts).2 hj;have hk : j % ts.length < ts.length := Nat.mod_lt _ hts;have e : j = j / ts.length * ts.length + j % ts.length := by rw [Nat.mul_comm]; exact (Nat.div_add_mod j ts.length).symm
 refine ⟨_, _, hi, hk, e, ?_⟩;rw [e, Yie ts xs _ _ hi hk, List.getElem?_eq_getElem hk, Option.map_some, Option.some.injEq] at h;rw [<- h, Yfd, List.getD_eq_getElem?_getD, List.getElem?_eq_getElem hk, Option.getD_some]
theorem RdV.scalar {t : Ty} {u : Value} {c : Cl} (h : RdV t u c) (ht : ∀ ts, t ≠ .sl ts) : u = t.val c := by
 cases t with
 | int k => exact h.isInt
 | bool => exact h.isBool
 | str => exact h.isStr
 | sl ts => exact absurd rfl (ht ts)
theorem srcRo {ts : List Ty} (hts : 0 < ts.length) (hsc : ∀ k ts', tyAt ts k ≠ .sl ts') (r : Ro ts) (hs : Heap) : Yl9 (.rs ts r) hs ts r.xs := fun φ w0 M R w hS => by
 obtain ⟨A, c, hv, _, _, u, h1, _⟩ := r.inv;refine ⟨A, c, hv, ?_⟩;rcases Nat.eq_zero_or_pos r.xs.length with h0 | h0
 ·exact .inl h0
 ·obtain ⟨b, off, rfl, hb, _⟩ := h1 (fun e => by rw [e] at h0; simp at h0);refine .inr ⟨b, off, rfl, fun j u hu => ?_⟩;obtain ⟨i, k, hi, hk, rfl, rfl⟩ := Yi4 hts hu;have h2 := r.cell hi hk;rw [<- (r.ok i k).scalar (hsc k)];have := Yxj hS h2.2 h2.1;rwa [hv] at this
theorem Yv5 {ts : List Ty} (hts : 0 < ts.length) {T id n : Nat} {xs : Dt} {x : AV} (h : OwnSl T ts xs id n x) : Yl9 x [(id, .arr T ts xs)] ts (xs.take n) := fun φ w0 M R w hS => by
 have hS' : St w0 M ((It.arr T ts xs).conc φ id :: R) w := by simpa [Yb] using hS
 obtain ⟨hc, hn⟩ := h.conc hts hS';have hl : (xs.take n).length = n := by simp; omega
 refine ⟨_, _, by rw [hc, hl], ?_⟩;rcases Nat.eq_zero_or_pos n with h0 | h0
 ·exact .inl (by rw [hl, h0])
 ·rw [Yer hts (by omega) hS'];refine .inr ⟨_, _, rfl, fun j u hu => ?_⟩;obtain ⟨i, k, hi, hk, rfl, rfl⟩ := Yi4 hts hu;rw [hl] at hi;have e : cel (xs.take n) i k = cel xs i k := by
   have : (xs.take n).getD i [] = xs.getD i [] := by simp only [List.getD_eq_getElem?_getD, List.getElem?_take, if_pos hi]
   unfold cel; rw [this]
  rw [Nat.zero_add, e, <- Yfm φ];exact Y7 hS' (Ykc (T := T) (by omega) hk φ)
theorem Y0k {ts : List Ty} (hts : 0 < ts.length) {T id l n : Nat} {xs : Dt} (hl : l + n <= xs.length) : Yl9 (.rwp id ts.length l n) [(id, .arr T ts xs)] ts ((xs.drop l).take n) := fun φ w0 M R w hS => by
 have hS' : St w0 M ((It.arr T ts xs).conc φ id :: R) w := by simpa [Yb] using hS
 have hlen : ((xs.drop l).take n).length = n := by simp; omega
 rcases Nat.eq_zero_or_pos n with h0 | h0
 ·refine ⟨_, _, by rw [hlen]; rfl, .inl (by rw [hlen, h0])⟩
 ·refine ⟨_, _, by rw [Yoi hts hS' hl h0, hlen], .inr ⟨_, _, rfl, fun j u hu => ?_⟩⟩;obtain ⟨i, k, hi, hk, rfl, rfl⟩ := Yi4 hts hu;rw [hlen] at hi;have e : cel ((xs.drop l).take n) i k = cel xs (l + i) k := by
   have : ((xs.drop l).take n).getD i [] = xs.getD (l + i) [] := by simp only [List.getD_eq_getElem?_getD, List.getElem?_take, if_pos hi, List.getElem?_drop]
   unfold cel; rw [this]
  rw [e, <- Yfm φ, <- Nat.add_assoc, <- Nat.add_mul];exact Y7 hS' (Ykc (T := T) (by omega) hk φ)
theorem Yr1 {x : AV} {hs : Heap} {ts : List Ty} (h : ∀ φ, ∃ A c, x.conc φ = .slice A 0 c) : Yl9 x hs ts [] := fun φ w0 M R w hS => by
 obtain ⟨A, c, e⟩ := h φ;exact ⟨A, c, e, .inl rfl⟩
theorem Yev {ts : List Ty} (hts : 0 < ts.length) {x : AV} {hp : Heap} {K : Heap -> Dt -> Prop} (h : Ych ts x hp K) : ∃ hs ys, K hs ys /\ PartOf hs hp /\ Yl9 x hs ts ys := by
 unfold Ych at h
 split at h
 ·rename_i A n c;obtain ⟨h1, h2⟩ := Ya h;obtain rfl := Yd.1 h1;exact ⟨_, _, h2, .nil _, Yr1 fun φ => ⟨_, _, rfl⟩⟩
 ·exact ⟨_, _, h, .nil _, Yr1 fun φ => ⟨_, _, rfl⟩⟩
 ·obtain ⟨h1, h2⟩ := Ya h;obtain ⟨rfl, h3⟩ := Y8 h1;exact ⟨_, _, h2, .nil _, srcRo hts h3 _ _⟩
 ·obtain ⟨it, hl, h0⟩ := Yg h
  split at h0
  ·rename_i xs;obtain ⟨h1, h2⟩ := Ya h0;obtain ⟨e, h3⟩ := Y8 h1;subst e;refine ⟨_, _, h2, .one hl, ?_⟩;have key : ∀ (T id : Nat) (ts : List Ty), 0 < ts.length -> Yl9 (.rw id) [(id, .arr T ts xs)] ts xs := fun T id ts hts => by
    have := Yv5 hts (T := T) (id := id) (n := List.length xs) (xs := xs) (x := .rw id) (.inl ⟨rfl, rfl⟩);rwa [List.take_length] at this
   exact key _ _ _ hts
  ·exact h0.elim
 ·rename_i id off lo m;obtain ⟨it, hl, h0⟩ := Yg h
  split at h0
  ·split at h0
   ·rename_i hm;obtain rfl := Yd.1 hm;exact ⟨_, _, h0, .nil _, Yr1 fun φ => ⟨_, _, rfl⟩⟩
   ·obtain ⟨news, h1, h2, h3, h4⟩ := Ydk h0;obtain ⟨ys, h5, h6, h7, _⟩ := Ydi h1;refine ⟨_, _, h5, .one hl, fun φ w0 M R w hS => ?_⟩;have hS' := (by simpa [Yb] using hS : St w0 M ((It.row _ _ _ _).conc φ id :: R) w);have hnil := Ybf h2 φ id w0 M R w hS';refine ⟨_, _, by simp only [AV.conc, hnil, Bool.false_eq_true, if_false, h6]; rfl, .inr ⟨_, _, rfl, fun j u hu => ?_⟩⟩;exact Y7 hS' (h3 φ j u (by rw [h7 φ]; exact hu))
  ·obtain ⟨h1, h2⟩ := Ya h0;simp only [Bool.and_eq_true, Yd] at h1;obtain ⟨⟨h11, rfl⟩, rfl⟩ := h1;obtain ⟨rfl, h3⟩ := Y8 h11;obtain ⟨h4, h5⟩ := h2;exact ⟨_, _, h5, .one hl, Yv5 hts (.inr ⟨rfl, of_decide_eq_true h4⟩)⟩
  ·exact h0.elim
 ·rename_i id sz' l m;obtain ⟨it, hl, h0⟩ := Yg h
  split at h0
  ·obtain ⟨h1, h2⟩ := Ya h0;simp only [Bool.and_eq_true, Yd] at h1;obtain ⟨h11, rfl⟩ := h1;obtain ⟨rfl, h3⟩ := Y8 h11;obtain ⟨h4, h5⟩ := h2;exact ⟨_, _, h5, .one hl, Y0k hts (of_decide_eq_true h4)⟩
  ·exact h0.elim
 ·exact h.elim
theorem Ygg {id : Nat} {it : It} : ∀ {hs : Heap}, Yfe.disjB hs [(id, it)] = true -> id ∉ keys hs
 | [], _ => by simp [keys]
 | p :: hs, h => by
  unfold Yfe.disjB at h
  split at h
  ·rename_i h1;have h2 := Ygg h;simp only [keys, List.map_cons, List.mem_cons, not_or];refine ⟨fun e => ?_, h2⟩;rw [Yn] at h1;simp [e] at h1
  ·cases h
theorem PartOf.cons {hs hp : Heap} {id : Nat} {it : It} (h : PartOf hs hp) (hl : look hp id = some it) (hn : id ∉ keys hs) : PartOf ((id, it) :: hs) hp :=
 ⟨by simp only [keys, List.map_cons, List.nodup_cons]; exact ⟨hn, h.nd⟩, fun p hp => by
  rcases List.mem_cons.1 hp with rfl | hp
  ·exact hl
  ·exact h.all p hp⟩
theorem Yh3 {n b : Nat} (h : n * b <= 140737488355328) (hb : 1 <= b) : n <= maxLen := by
 have : n * 1 <= n * b := Nat.mul_le_mul_left _ hb;unfold maxLen;omega
theorem Ymg {c : Cx} (ht : TabOk c.P c.tt) {T : TypeId} {sv xv : AV} {s x : Operand} {hp : Heap} {k : KE} {id' : Nat} (hsv : At tm s sv) (hsj : sv.rd = true) (hx : At tm x xv) (hxj : xv.rd = true) (h : Yfe c T id' sv xv hp k) :
  Res1 c.P { dst, op := .call { callee := .builtin .append, args := #[s, x], argTypes := #[T, T] }, type, pos, after, guard } tm hp k := by
 have h1 := Yo ht h
 split at h1
 ·exact h1.elim
 ·rename_i e sz by_ zs hs;obtain ⟨h2, h3⟩ := Ya h1;simp only [Bool.and_eq_true, Nat.ble_eq] at h2;obtain ⟨⟨h21, h22⟩, h23⟩ := h2;have hz := Y6 h21
  split at h3
  ·obtain ⟨ts, h4, h5, _⟩ := Yfc h3;have hsz : sz = ts.length := by omega
   subst hsz;obtain ⟨hs', ys, h6, h7, h8⟩ := Yev h22 h4;obtain ⟨h9, h10⟩ := h6;have h9 := of_decide_eq_true h9;exact ⟨_, _, _, _, h10, h7, Ybc, Yyc hs hz h22 hsv hx hxj h8 (Yh3 h9 h23) h9⟩
  ·rename_i ts' q;obtain ⟨ts, h4, h5, _⟩ := Yfc h3;have hsz : sz = ts.length := by omega
   subst hsz;obtain ⟨hs', ys, h6, h7, h8⟩ := Yev h22 h4;obtain ⟨h9, h10⟩ := h6;simp only [Bool.and_eq_true, decide_eq_true_eq] at h9;exact ⟨_, _, _, _, h10, h7, Ybc, Yya hs hz h22 hsv h9.1.1.1 h9.1.1.2 hx hxj h8 h9.1.2 (Yh3 h9.2 h23) h9.2⟩
  ·rename_i id;obtain ⟨it, hl, h4⟩ := Yg h3
   split at h4
   ·rename_i T' ts xs;obtain ⟨h5, h6⟩ := Ya h4;simp only [Bool.and_eq_true, Yd] at h5;obtain ⟨rfl, rfl⟩ := h5;obtain ⟨hs', ys, h7, h8, h9⟩ := Yev h22 h6;obtain ⟨h10, h11⟩ := Ya h7;obtain ⟨h12, h13⟩ := h11;have h12 := of_decide_eq_true h12;have hne := Ygg h10;exact ⟨_, _, _, _, h13, h8.cons hl hne, fun i hi => by simp [keys] at hi ⊢; exact .inl hi, Yyd hs hz h22 hsv hx hxj h9 hne (Yh3 h12 h23) h12⟩
   ·exact h4.elim
  ·rename_i id off lo n;obtain ⟨it, hl, h4⟩ := Yg h3
   split at h4
   ·rename_i T' sz' n' cs;obtain ⟨h5, h6⟩ := Ya h4;simp only [Bool.and_eq_true, Yd] at h5;obtain ⟨⟨⟨⟨rfl, rfl⟩, rfl⟩, rfl⟩, rfl⟩ := h5;obtain ⟨ts, h7, h8, _⟩ := Yfc h6;have hsz : sz' = ts.length := by omega
    subst hsz;obtain ⟨xs, h9, h10, h11, _⟩ := Ydi h7;obtain ⟨hs', ys, h12, h13, h14⟩ := Yev h22 h9;obtain ⟨h15, h16⟩ := Ya h12;obtain ⟨h17, h18⟩ := h16;have h17 := of_decide_eq_true h17;have hne := Ygg h15;refine ⟨_, _, _, _, h18, h13.cons hl hne, fun i hi => by simp [keys] at hi ⊢; exact .inl hi, Yyb hs hz h22 hsv hsj (fun φ w0 M R w hS => ?_) hx hxj h14 hne (Yh3 h17 h23) h17⟩;simp only [It.conc, AV.conc, h11 φ, h10, Nat.sub_zero] at hS ⊢;exact hS
   ·exact h4.elim
  ·exact h3.elim
theorem Yrt {p : AV} {x : Operand} {hp : Heap} {k : KE} {D : Prop} (hx : At tm x p) (hj : p.rd = true) (h : Yv0 p k D) : Res1 P { dst, op := .nilCheck x, type, pos, after, guard } tm hp k \/ D := by
 unfold Yv0 at h
 split at h
 ·refine .inl ⟨_, _, _, _, h, .nil _, Ybc, Does.pure fun φ a ho w => ?_⟩;have e := ho x (by simp [Op.operands]) _ hx hj;simp only [AV.conc] at e;simp [execOp, e, AV.conc]
 ·refine .inl ⟨_, _, _, _, h, .nil _, Ybc, Does.pure fun φ a ho w => ?_⟩;have e := ho x (by simp [Op.operands]) _ hx hj;simp only [AV.conc] at e;simp [execOp, e, AV.conc]
 ·exact .inr h
theorem Ymd {c : Cx} (ht : TabOk c.P c.tt) {T : TypeId} {ok : Bool} {m i : AV} {x ix : Operand} {hp : Heap} {k : KE} {D : Prop} (hx : At tm x m) (hi : At tm ix i) (h : Ykp c T ok m i hp k D) : Res1 c.P { dst, op := .lookup T x ix ok, type, pos, after, guard } tm hp k \/ D := by
 unfold Ykp at h
 split at h
 ·obtain ⟨it, hl, h1⟩ := Yg h
  split at h1
  ·split at h1
   ·rcases Yb8 h1 with ⟨kd, n, h2, hc, hr⟩ | h2
    ·obtain ⟨h3, h4⟩ := Ya h2;simp only [Bool.and_eq_true, decide_eq_true_eq] at h3;obtain ⟨rfl, h3⟩ := h3;exact .inl ⟨_, _, _, _, h4, .one hl, Ybc, Yx1 h3 hx hi hr hc⟩
    ·exact h2.elim
   ·exact h1.elim
  ·exact .inr h1
 ·exact .inr h
theorem Ymc {c : Cx} (ht : TabOk c.P c.tt) {T : TypeId} {m i v : AV} {x ix y : Operand} {hp : Heap} {k : KE} {D : Prop} (hx : At tm x m) (hi : At tm ix i) (hy : At tm y v) (h : Yko c T m i v hp k D) : Res1 c.P { dst, op := .mapUpdate T x ix y, type, pos, after, guard } tm hp k \/ D := by
 unfold Yko at h
 split at h
 ·obtain ⟨it, hl, h1⟩ := Yg h
  split at h1
  ·rcases Yb8 h1 with ⟨kd, n, h2, hc, hr⟩ | h2
   ·rcases Yb8 h2 with ⟨ke, u, h5, hc2, hr2⟩ | h5
    ·obtain ⟨h3, h4⟩ := Ya h5;simp only [Bool.and_eq_true, decide_eq_true_eq] at h3;obtain ⟨⟨rfl, rfl⟩, h3⟩ := h3;exact .inl ⟨_, _, _, _, h4, .one hl, by intro j hj; simpa [keys] using hj, Yxt h3 hx hi hr hc hy hr2 hc2⟩
    ·exact h5.elim
   ·exact h2.elim
  ·exact .inr h1
 ·exact .inr h
theorem Ywd {d : Nat} {T e : TypeId} (hu : P.underlying T = some (.slice e)) (A : Option Addr) (n c : Nat) (w : World) : (Op.equalIn (d + 1) T (.slice A n c) (.slice none 0 0)).run P w = .ok A.isNone w := by
 cases A <;> simp [Op.equalIn, Sem.run_bind, run_underlying hu w]
theorem Ypv {T : TypeId} (h : Yku P T = true) : ∃ e, P.underlying T = some (.slice e) := by
 unfold Yku at h
 split at h
 ·rename_i e he; exact ⟨e, he⟩
 ·cases h
def Yzm : Bool -> BinOp
 | true => .neq
 | false => .eql
theorem Yut {T : TypeId} {neq : Bool} (h : Yku P T = true) (x y : Operand) (A : Option Addr) (n c : Nat) : Yin P (Yzm neq) T x y (.slice A n c) (.slice none 0 0) (.bool (match neq with | true => !A.isNone | false => A.isNone)) := fun w => by
 obtain ⟨e, hu⟩ := Ypv h;have e1 : (Op.equal T (.slice A n c) (.slice none 0 0)).run P w = .ok A.isNone w := Ywd (d := 9999) hu A n c w;cases neq <;> simp [Yzm, eqGuard, binOp, e1, Sem.run_bind]
theorem Yo8 {T T' : TypeId} {neq : Bool} {x y : Operand} {a : AV} {hs : Heap} {val : AV} (hT : Yku P T = true) (hx : At tm x a) (ja : a.rd = true) (hy : At tm y (.v (.slice none 0 0)))
  (hv : ∀ (φ : Phi) (w0 : World) (M : List Nat) (R : RL) (w : World), St w0 M (Yb φ hs ++ R) w -> ∃ A n c, a.conc φ = .slice A n c /\ val.conc φ = .bool (match neq with | true => !A.isNone | false => A.isNone)) :
  Does P { dst, op := .binOp (Yzm neq) T x y T', type, pos, after, guard } tm hs val [] [] :=
 fun φ w0 M R ac w K Q ho _ hS kk => by
  obtain ⟨A, n, c, h1, h2⟩ := hv φ w0 M R w hS;have e1 := ho.ev (x := x) (by simp [Op.operands]) hx ja;have e2 := ho.ev (x := y) (by simp [Op.operands]) hy (by simp);rw [h1] at e1;have h4 := kk φ w (Agree.refl _ _) (by simpa [Yh] using hS);rw [h2] at h4;exact Y0i e1 e2 (Yut hT x y A n c w) h4
theorem Yk8 {c : Cx} {T T' : TypeId} {neq : Bool} {a b : AV} {x y : Operand} {hp : Heap} {k : KE} {D : Prop} (hx : At tm x a) (ja : a.rd = true) (hy : At tm y b) (h : Ytq c neq T a b hp k D) :
  Res1 c.P { dst, op := .binOp (Yzm neq) T x y T', type, pos, after, guard } tm hp k \/ D := by
 unfold Ytq at h
 split at h
 ·split at h
  ·exact .inr h
  ·rename_i hT
   split at h
   ·rename_i id off lo n;obtain ⟨it, hl, h1⟩ := Yg h
    split at h1
    ·rename_i hlive;refine .inl ⟨_, _, _, _, h1, .one hl, Ybc, Yo8 hT hx ja hy fun φ w0 M R w hS => ?_⟩;have hn := Ybf hlive φ id w0 M R w hS;simp only [AV.conc, hn, Bool.false_eq_true, if_false];exact ⟨_, _, _, rfl, by cases neq <;> rfl⟩
    ·exact .inr h1
   ·rename_i ts r
    split at h
    ·refine .inl ⟨_, _, _, _, h, .nil _, Ybc, Yo8 hT hx ja hy fun φ w0 M R w hS => ?_⟩;obtain ⟨A, c, hv, _⟩ := r.inv;simp only [AV.conc, hv];exact ⟨_, _, _, rfl, by cases A <;> rfl⟩
    ·refine .inl ⟨_, _, _, _, h, .nil _, Ybc, Yo8 hT hx ja hy fun φ w0 M R w hS => ?_⟩;obtain ⟨A, c, hv, _⟩ := r.inv;simp only [AV.conc, hv];exact ⟨_, _, _, rfl, by cases A <;> rfl⟩
   ·rename_i id;obtain ⟨it, hl, h1⟩ := Yg h
    split at h1
    ·rename_i T2 ts xs;obtain ⟨h2, h3⟩ := Ya h1;obtain ⟨h4, h5⟩ := h3;refine .inl ⟨_, _, _, _, h5, .one hl, Ybc, Yo8 hT hx ja hy fun φ w0 M R w hS => ?_⟩;have hn := Yer (Nat.le_of_ble_eq_true h2) (of_decide_eq_true h4) hS;simp only [AV.conc, hn, Bool.false_eq_true, if_false];exact ⟨_, _, _, rfl, by cases neq <;> rfl⟩
    ·exact .inr h1
   ·exact .inr h
 ·exact .inr h
theorem Ysk {c : Cx} {op : BinOp} {T T' : TypeId} {a b : AV} {x y : Operand} {hp : Heap} {k : KE} {D : Prop} (hx : At tm x a) (ja : a.rd = true) (hy : At tm y b) (h : Ywy c op T a b hp k D) :
  Res1 c.P { dst, op := .binOp op T x y T', type, pos, after, guard } tm hp k \/ D := by
 unfold Ywy at h
 split at h
 ·exact Yk8 (neq := false) hx ja hy h
 ·exact Yk8 (neq := true) hx ja hy h
 ·exact .inr h
theorem Ypr {c : Cx} (ht : TabOk c.P c.tt) {T : TypeId} {xv yv : AV} {x y : Operand} {hp : Heap} {k : KE} {id : Nat} {D : Prop} (hx : At tm x xv) (hy : At tm y yv) (h : Yru c T id xv yv k D) : Res1 c.P { dst, op := .makeSlice T x y, type, pos, after, guard } tm hp k \/ D := by
 unfold Yru at h
 split at h
 ·rename_i kl n;rcases Yb8 h with ⟨kc, m, h1, hc, hr⟩ | h1
  ·have h2 := Yo ht h1
   split at h2
   ·exact h2.elim
   ·rename_i e sz by_ zs hs;obtain ⟨h3, h4⟩ := Ya h2;simp only [Bool.and_eq_true, Nat.ble_eq] at h3;obtain ⟨ts, h5, h6, h7⟩ := Yfc h4;obtain ⟨h8, h9⟩ := h5;simp only [Bool.and_eq_true, decide_eq_true_eq] at h8;obtain ⟨⟨rfl, h82⟩, h83⟩ := h8;have e : ((n.toNat : Nat) : Int) = n := Int.toNat_of_nonneg h82;have hm : n.toNat <= maxLen := by
     have : 1 * n.toNat <= by_ * n.toNat := Nat.mul_le_mul_right _ h3.2;unfold maxLen; omega
    exact .inl ⟨_, _, _, _, h9, .nil _, Ybc, Yx0 hs (Y6 h3.1) h6 h7 hx rfl (kl := kl) (kc := kc) (fun φ => by simp only [AV.conc, e]) hy hr (fun φ => by rw [hc φ, e]) h83 hm⟩
  ·exact h1.elim
 ·exact .inr h
end
theorem Res1.op {c : Cx} {o : Oper} {tm : List AV} {hp : Heap} {k kp : KE} (h : Res1 c.P o tm hp k) : OpRes c o tm hp k kp := .inl h
theorem Ypk {c : Cx} {o : Oper} {tm : List AV} {hp : Heap} {k kp : KE} (hc : HandOk c) (h : Yvs c o tm hp k kp) : OpRes c o tm hp k kp := by
 have old : Ydf c o tm hp k kp -> OpRes c o tm hp k kp := fun h => by rw [Yyv] at h; exact Yuh hc h
 obtain ⟨dst, op, type, pos, after, guard⟩ := o;unfold Yvs at h
 split at h
 ·rename_i hop;dsimp only at hop; subst hop;obtain ⟨a, ja, hx, h1⟩ := Yf h;obtain ⟨b, jb, hy, h2⟩ := Yf h1;rcases Yrz h2 _ _ with ⟨r, h3, h4⟩ | h3
  ·exact .pure h3 (d_bin hx hy ja jb h4)
  ·exact (Ysk hx ja hy h3).elim Res1.op old
 ·rename_i hop;dsimp only at hop; subst hop;obtain ⟨a, ja, hx, h1⟩ := Yf h;rcases Yum (P := c.P) h1 with ⟨r, h3, _, h4⟩ | h3
  ·exact .pure h3 (Y19 hx ja h4)
  ·exact old h3
 ·rename_i hop;dsimp only at hop; subst hop;obtain ⟨a, ja, hx, h1⟩ := Yf h;rcases Ypt h1 with ⟨r, h3, _, h4⟩ | h3
  ·refine .pure h3 (Does.pure fun φ ac ho w => ?_);have e := ho _ (by simp [Op.operands]) _ hx ja;unfold execOp;simp only [e, Sem.run_bind, h4 φ w, Result.andThen_ok, Sem.run_pure]
  ·exact old h3
 ·rename_i hop;dsimp only at hop; subst hop;rcases Ypq (P := c.P) h with ⟨r, h3, h4⟩ | h3
  ·exact .pure h3 h4
  ·exact old h3
 ·rename_i hop;dsimp only at hop; subst hop;obtain ⟨a, ja, hx, h1⟩ := Yf h;obtain ⟨b, jb, hy, h2⟩ := Yf h1;exact (Yrx hc.tab hx hy h2).elim Res1.op old
 ·rename_i hop;dsimp only at hop; subst hop;obtain ⟨a, ja, hx, h1⟩ := Yf h;obtain ⟨b, jb, hy, h2⟩ := Yf h1;exact (Yme hc.tab hx hy h2).elim Res1.op old
 ·rename_i hop;dsimp only at hop; subst hop;obtain ⟨a, ja, hx, h1⟩ := Yf h;exact (Ymf hx h1).elim Res1.op old
 ·rename_i hop;dsimp only at hop; subst hop;obtain ⟨a, ja, hx, h1⟩ := Yf h;exact (Yps hc.tab hx h1).elim Res1.op old
 ·rename_i hop;dsimp only at hop; subst hop;obtain ⟨a, ja, hx, h1⟩ := Yf h;obtain ⟨b, jb, hy, h2⟩ := Yf h1;exact (Yoa hc.tab hx hy jb h2).elim Res1.op old
 ·rename_i hop;dsimp only at hop; subst hop;obtain ⟨a, ja, hx, h1⟩ := Yf h;exact (Yoe hc.tab hx h1).elim Res1.op old
 ·rename_i hop;dsimp only at hop; subst hop;obtain ⟨a, ja, hx, h1⟩ := Yf h;exact (Yoc hc.tab hx h1).elim Res1.op old
 ·rename_i hop;dsimp only at hop; subst hop;obtain ⟨a, ja, hx, h1⟩ := Yf h;obtain ⟨b, jb, hy, h2⟩ := Yf h1;exact (Ypr hc.tab hx hy h2).elim Res1.op old
 ·rename_i hop;dsimp only at hop; subst hop;obtain ⟨m, jm, hx, h1⟩ := Yf h;exact (Yrt hx jm h1).elim Res1.op old
 ·rename_i hop;dsimp only at hop; subst hop;obtain ⟨m, jm, hx, h1⟩ := Yf h;obtain ⟨i, ji, hi, h2⟩ := Yf h1;exact (Ymd hc.tab hx hi h2).elim Res1.op old
 ·rename_i hop;dsimp only at hop; subst hop;obtain ⟨m, jm, hx, h1⟩ := Yf h;obtain ⟨i, ji, hi, h2⟩ := Yf h1;obtain ⟨v, jv, hy, h3⟩ := Yf h2;exact (Ymc hc.tab hx hi hy h3).elim Res1.op old
 ·rename_i cl hop;dsimp only at hop; subst hop;obtain ⟨callee, ⟨args⟩, tys⟩ := cl;dsimp only at h
  split at h
  ·split at h
   ·rename_i x;obtain ⟨v, jv, hx, h1⟩ := Yf h;exact (Yrw hc.tab hx jv h1).elim Res1.op old
   ·rename_i x y;obtain ⟨a, ja, hx, h1⟩ := Yf h;obtain ⟨b, jb, hy, h2⟩ := Yf h1;rcases Ymq (P := c.P) (mx := false) hx ja hy jb tys h2 with ⟨r, h3, h4⟩ | h3
    ·exact .pure h3 h4
    ·exact old h3
   ·rename_i x y;obtain ⟨a, ja, hx, h1⟩ := Yf h;obtain ⟨b, jb, hy, h2⟩ := Yf h1;rcases Ymq (P := c.P) (mx := true) hx ja hy jb tys h2 with ⟨r, h3, h4⟩ | h3
    ·exact .pure h3 h4
    ·exact old h3
   ·rename_i s x;obtain ⟨a, ja, hx, h1⟩ := Yf h;obtain ⟨b, jb, hy, h2⟩ := Yf h1
    split at h2
    ·obtain ⟨tys⟩ := tys;dsimp only at h2
     split at h2
     ·obtain ⟨h3, h4⟩ := Ya h2;obtain rfl := Yd.1 h3;exact Res1.op (Ymg hc.tab hx ja hy jb h4)
     ·exact h2.elim
    ·exact old h2
   ·exact old h
  ·exact old h
 ·exact old h
end Go.Proofs.YtbhlmkgliflhaaaGreat
namespace Go.Proofs.YtbhlmkgliflhaaaGreat
open Go.RowKit
attribute [local irreducible] Go.Oper.wp
@[reducible] def atW (w : World) : InW := ⟨w, w.heap.size, fun b => b < w.heap.size, fun _ h => h⟩
theorem St.nowF {W : InW} {w0 w : World} {M : List Nat} {L : RL} (F : Nat -> Prop) (h : @St W w0 M L w) : @St (atF w F) w [] [] w :=
 @St.start (atF w F) w (@InOk.mk (atF w F) w [] (Nat.le_refl _) (by simp) (Below.refl _ _))
theorem RdV.nowF {W : InW} {w0 w : World} {M : List Nat} {L : RL} (h : @St W w0 M L w) {F : Nat -> Prop} (hF : ∀ b, W.F b -> F b) {t : Ty} {v : Value} {c : Cl} (hr : @RdV W t v c) : @RdV (atF w F) t v c :=
 RdV.mono2 (W1 := W) (W2 := atF w F) (fun b hb => ⟨Nat.lt_of_lt_of_le (W.lt b hb) (Nat.le_trans h.inw.base h.kept.size), hF b hb⟩) (fun b hb => h.belowIn.block b (W.lt b hb)) hr
theorem Y1l {w : World} {r : Res} (h : r.holds w) {b : Nat} (hb : b ∈ r.foot) : ¬ r.frz b := by
 cases r with
 | blk _ _ => exact fun h => h
 | row _ _ _ _ _ => exact fun h => h
 | abs own fz p => exact h.2.1 b hb
theorem St.farZ [InW] {w0 w : World} {M : List Nat} {L : RL} (h : St w0 M L w) {x r : Res} (hx : x ∈ L) (hr : r ∈ L) {b : Nat} (hb : b ∈ x.foot) : ¬ r.frz b := fun hz => by
 rcases Classical.em (x = r) with e | e
 ·subst e; exact Y1l (h.has _ hx) hb hz
 ·obtain ⟨s, t, rfl⟩ := List.append_of_mem hx;have hp := (List.perm_middle.pairwise_iff (fun h => apart.symm h)).1 h.sep;have := (List.pairwise_cons.1 hp).1 r (by
   simp only [List.mem_append, List.mem_cons] at hr ⊢;rcases hr with hr | hr | hr
   ·exact .inl hr
   ·exact absurd hr.symm e
   ·exact .inr hr)
  exact this.1 b hb (.inr hz)
theorem St.back0 [InW] {w0 w w' : World} {M : List Nat} {L1 L L2 : RL} {F' : Nat -> Prop} (h : St w0 M (L1 ++ L) w) (ck : Kept w.heap.size [] w w') (ch : ∀ r ∈ L2, r.holds w') (co : ∀ r ∈ L2, ∀ b ∈ r.foot, w.heap.size <= b) (cs : L2.Pairwise apart) (cz : ∀ r ∈ L2, ∀ b, r.frz b -> w.heap.size <= b \/ F' b)
  (hF : ∀ r ∈ L2, ∀ b, r.frz b -> F' b -> InW.F b \/ (∃ q ∈ L1, q.in_ b) \/ ∃ q ∈ L, q.frz b) : St w0 M (L2 ++ L) w' := by
 have hsep := List.pairwise_append.1 h.sep;have hL : St w0 M L w := h.sub (List.sublist_append_right _ _);refine ⟨h.kept.trans ck h.size (by simp), ?_, ?_, ?_, h.inw, ?_⟩
 ·intro x hx;rcases List.mem_append.1 hx with hx | hx
  ·exact ch x hx
  ·have hx' := hL.has x hx;exact Res.keep hx' fun b hb => ck.block b (Res.lt2 hx' b hb) (by simp)
 ·intro x hx b hb;rcases List.mem_append.1 hx with hx | hx
  ·exact .inl (Nat.le_trans h.size (co x hx b hb))
  ·exact hL.own x hx b hb
 ·refine List.pairwise_append.2 ⟨cs, hL.sep, fun x hx y hy => ⟨fun b hb hb' => ?_, fun b hb hb' => ?_⟩⟩
  ·have h1 := co x hx b hb;have := Res.lt2 (hL.has y hy) b hb';omega
  ·have hlt := Res.lt (hL.has y hy) b hb;rcases hb' with hb' | hb'
   ·have := co x hx b hb'; omega
   ·rcases cz x hx b hb' with h' | h'
    ·omega
    ·rcases hF x hx b hb' h' with h2 | ⟨q, hq, h2⟩ | ⟨q, hq, h2⟩
     ·exact hL.farF hy hb h2
     ·exact (hsep.2.2 q hq y hy).2 b hb h2
     ·exact hL.farZ hy hq hb h2
 ·intro x hx b hb;rcases List.mem_append.1 hx with hx | hx
  ·rcases cz x hx b hb with h' | h'
   ·exact .inl (Nat.le_trans h.size h')
   ·rcases hF x hx b hb h' with h2 | ⟨q, hq, h2⟩ | ⟨q, hq, h2⟩
    ·exact .inr (.inr h2)
    ·rcases h2 with h2 | h2
     ·rcases h.own q (List.mem_append_left _ hq) b h2 with h3 | h3
      ·exact .inl h3
      ·exact .inr (.inl h3)
     ·exact h.fz q (List.mem_append_left _ hq) b h2
    ·exact hL.fz q hq b h2
  ·exact hL.fz x hx b hb
theorem St.back {W W' : InW} {w0 w w' : World} {M : List Nat} {L1 L L2 : RL} (h : @St W w0 M (L1 ++ L) w) (hc : @St W' w [] L2 w') (hF : ∀ r ∈ L2, ∀ b, r.frz b -> W'.F b -> W.F b \/ (∃ q ∈ L1, q.in_ b) \/ ∃ q ∈ L, q.frz b) : @St W w0 M (L2 ++ L) w' :=
 @St.back0 W w0 w w' M L1 L L2 W'.F h (@St.kept W' _ _ _ _ hc) (@St.has W' _ _ _ _ hc) (fun r hr b hb => (@St.own W' _ _ _ _ hc r hr b hb).resolve_right (by simp)) (@St.sep W' _ _ _ _ hc)
  (fun r hr b hb => (@St.fz W' _ _ _ _ hc r hr b hb).elim .inl fun h => .inr (h.resolve_left (by simp))) hF
def Ylw (t : Ty) (c : Cl) : Prop := match t with | .int _ => ∃ n, c = .i n | .bool => ∃ b, c = .b b | .str => ∃ s, c = .s s | .sl _ => ∃ xs, c = .l xs
section
variable [W : InW]
theorem Yxa {h : Heap} {i : Nat} (hm : i ∈ keys h) : ∃ x, look h i = some x := by
 cases hl : look h i with
 | some x => exact ⟨x, rfl⟩
 | none =>
  obtain ⟨q, hq, e⟩ := List.mem_map.1 hm;exact absurd hl (by
   clear hm
   induction h with
   | nil => cases hq
   | cons p h ih =>
    rw [Yn]
    split
    ·simp
    ·rename_i hne;rcases List.mem_cons.1 hq with rfl | hq
     ·exact absurd e hne
     ·intro h2; rw [Yn, if_neg hne] at hl; exact ih hl hq h2)
def addH (hs : Heap) (id : Nat) (it : It) (K : Heap -> Prop) : Prop := match look hs id with | some _ => K hs | none => K ((id, it) :: hs)
theorem Ydc {hs hp : Heap} {id : Nat} {it : It} {K : Heap -> Prop} (h : addH hs id it K) (hpart : PartOf hs hp) (hl : look hp id = some it) : ∃ hs', K hs' /\ PartOf hs' hp /\ (∀ p ∈ hs, p ∈ hs') /\ (id, it) ∈ hs' := by
 unfold addH at h
 split at h
 ·rename_i x hx;refine ⟨hs, h, hpart, fun p hp => hp, ?_⟩;have h1 := Y5 hx;have h2 := hpart.all _ h1;rw [hl] at h2;cases h2;exact h1
 ·rename_i hx;refine ⟨_, h, hpart.cons hl fun hm => ?_, fun p hp => List.mem_cons_of_mem _ hp, List.mem_cons_self⟩;obtain ⟨x, hx2⟩ := Yxa hm;rw [hx] at hx2; cases hx2
def Yby : Nat -> Ty -> Ty -> Bool
 | 0, _, _ => false
 | n + 1, t, u => match t, u with
  | .int k, .int k' => decide (k = k')
  | .bool, .bool => true
  | .str, .str => true
  | .sl ts, .sl us => sameL n ts us
  | _, _ => false
where
 sameL (n : Nat) : List Ty -> List Ty -> Bool
  | [], [] => true
  | t :: ts, u :: us => match Yby n t u with | true => sameL n ts us | false => false
  | _, _ => false
theorem Ybb : ∀ (n : Nat) (t u : Ty), Yby n t u = true -> t = u
 | 0, _, _, h => by simp [Yby] at h
 | n + 1, t, u, h => by
  have hL : ∀ ts us : List Ty, Yby.sameL n ts us = true -> ts = us := by
   intro ts
   induction ts with
   | nil => intro us h; cases us <;> simp_all [Yby.sameL]
   | cons t ts ih =>
    intro us h;cases us with
    | nil => simp [Yby.sameL] at h
    | cons u us =>
     unfold Yby.sameL at h
     split at h
     ·rename_i h1;rw [Ybb n t u h1, ih us h]
     ·cases h
  cases t <;> cases u <;> simp only [Yby, Bool.false_eq_true, decide_eq_true_eq] at h
  ·rw [h]
  ·rfl
  ·rfl
  ·rw [hL _ _ h]
def Ys3 (t : Ty) (x : AV) (hp hs : Heap) (K : Heap -> Cl -> Prop) : Prop :=
 match t with
 | .int k => (match x with | .si k' n => Yc (decide (k' = k)) (K hs (.i n)) | .v (.int k' n) => Yc (decide (k' = k)) (K hs (.i n)) | _ => Stuck 401)
 | .bool => (match x with | .sb b => K hs (.b b) | .v (.bool b) => K hs (.b b) | _ => Stuck 402)
 | .str => (match x with | .ss s => K hs (.s s) | .v (.string s) => K hs (.s s) | _ => Stuck 403)
 | .sl ts => (match x with
  | .rs ts' r => Yc (Yby 9 (.sl ts') (.sl ts)) (K hs (.l r.xs))
  | .v (.slice _ n _) => Yc (Nat.beq n 0) (K hs (.l []))
  | .emp _ => K hs (.l [])
  | .opq id => Y4 hp id fun it => (match it with | .fro ts' xs => Yc (Yby 9 (.sl ts') (.sl ts)) (addH hs id (.fro ts' xs) fun hs => K hs (.l xs)) | _ => Stuck 404)
  | .rw id => Y4 hp id fun it => (match it with
   | .arr T ts' xs => Yc (Ych.sameTs ts' ts && Nat.ble 1 ts.length) (addH hs id (.arr T ts' xs) fun hs => K hs (.l xs))
   | .nst T ts' xs => Yc (Yby 9 (.sl ts') (.sl ts)) (addH hs id (.nst T ts' xs) fun hs => K hs (.l xs))
   | _ => Stuck 404)
  | .sl id off lo m => Y4 hp id fun it => (match it with
   | .arr T ts' xs => Yc (Ych.sameTs ts' ts && Nat.ble 1 ts.length && Nat.beq off 0 && Nat.beq lo 0) (Need (decide (m <= xs.length)) (addH hs id (.arr T ts' xs) fun hs => K hs (.l (xs.take m))))
   | .row T sz n cs => (match Nat.beq m 0 with
    | true => K hs (.l [])
    | false => Yc (Nat.ble 1 ts.length && Nat.ble m 4611686018427387904 && Nat.ble (lo + m) n && Nat.beq off (lo * sz)) (Ysl (.row T sz n cs) off m ts.length fun news => Yc (Ych.sameTs ts ts) (Yr6 ts m news fun ys => addH hs id (.row T sz n cs) fun hs => K hs (.l ys))))
   | _ => Stuck 405)
  | .rwp id sz' l m => Y4 hp id fun it => (match it with
   | .arr T ts' xs => Yc (Ych.sameTs ts' ts && Nat.ble 1 ts.length && Nat.beq sz' ts.length) (Need (decide (l + m <= xs.length)) (addH hs id (.arr T ts' xs) fun hs => K hs (.l ((xs.drop l).take m))))
   | .nst T ts' xs => Yc (Yby 9 (.sl ts') (.sl ts) && Nat.beq sz' ts.length) (Need (decide (l + m <= xs.length)) (addH hs id (.nst T ts' xs) fun hs => K hs (.l ((xs.drop l).take m))))
   | _ => Stuck 405)
  | _ => Stuck 406)
def InB (φ : Phi) (hs : Heap) (b : Nat) : Prop := InW.F b \/ ∃ p ∈ hs, (p.2.conc φ p.1).in_ b
theorem InB.mono {φ : Phi} {hs hs' : Heap} (hh : ∀ p ∈ hs, p ∈ hs') {b : Nat} (h : InB φ hs b) : InB φ hs' b := h.elim .inl fun ⟨p, hp, hb⟩ => .inr ⟨p, hh p hp, hb⟩
def ReadsIn (hs : Heap) (t : Ty) (x : AV) (c : Cl) : Prop :=
 ∀ (φ : Phi) (w0 : World) (M : List Nat) (L : RL) (w : World), St w0 M L w -> (∀ p ∈ hs, p.2.conc φ p.1 ∈ L) -> @RdV (atF w (InB φ hs)) t (x.conc φ) c
theorem ReadsIn.mono {hs hs' : Heap} {t : Ty} {x : AV} {c : Cl} (h : ReadsIn hs t x c) (hh : ∀ p ∈ hs, p ∈ hs') : ReadsIn hs' t x c := fun φ w0 M L w hS hm =>
 (h φ w0 M L w hS fun p hp => hm p (hh p hp)).grow (fun b h1 h2 => ⟨h1, h2.mono hh⟩) fun _ _ _ => rfl
theorem St.front {w0 w : World} {M : List Nat} {L : RL} (h : St w0 M L w) {r : Res} (hr : r ∈ L) : ∃ R, St w0 M (r :: R) w := by
 obtain ⟨s, t, rfl⟩ := List.append_of_mem hr;exact ⟨_, h.perm List.perm_middle⟩
theorem Yyj {w : World} {b off : Nat} {u : Value} (h : w.cell? ⟨b, off, none⟩ = some u) : b < w.heap.size := by
 unfold World.cell? at h;rcases Nat.lt_or_ge b w.heap.size with hb | hb
 ·exact hb
 ·simp [Array.getElem?_eq_none hb] at h
theorem Yks {xv : AV} {hs : Heap} {ts : List Ty} {ys : Dt} {id : Nat} {it : It} (hts : 0 < ts.length) (hsc : ∀ k ts', tyAt ts k ≠ .sl ts')
  (hlen : ∀ (φ : Phi) (w0 : World) (M : List Nat) (R : RL) (w : World), St w0 M (it.conc φ id :: R) w -> ys.length <= maxLen /\ ∀ A m c, xv.conc φ = .slice A m c -> m <= c /\ ∀ b off, 0 < ys.length -> A = some ⟨b, off, none⟩ -> (it.conc φ id).in_ b)
  (h : Yl9 xv [(id, it)] ts ys) (hm : (id, it) ∈ hs) : ReadsIn hs (.sl ts) xv (.l ys) := fun φ w0 M L w hS hall => by
 obtain ⟨R, hS'⟩ := hS.front (hall _ hm);obtain ⟨A, c, h1, h2⟩ := h φ w0 M R w (by simpa [Yb] using hS');obtain ⟨h3, h4⟩ := hlen φ w0 M R w hS';obtain ⟨hc, hin⟩ := h4 _ _ _ h1;rw [h1];refine @RdV.sl (atF w (InB φ hs)) ts A c (.l ys) (fun i k => (tyAt ts k).val (cel ys i k)) hc h3 (fun hne => ?_) (fun i k t hi ht => ?_)
 ·obtain ⟨b, off, rfl, h5⟩ := h2.resolve_left (fun e => hne (List.length_eq_zero_iff.1 e));have key : ∀ i k, i < ys.length -> k < ts.length -> w.cell? ⟨b, off + i * ts.length + k, none⟩ = some ((tyAt ts k).val (cel ys i k)) := fun i k hi hk => by
   rw [Nat.add_assoc];refine h5 _ _ ?_;rw [Yie ts ys i k hi hk, List.getElem?_eq_getElem hk, Option.map_some, Yfd, List.getD_eq_getElem?_getD, List.getElem?_eq_getElem hk, Option.getD_some]
  have hpos : 0 < ys.length := by
   cases ys with
   | nil => exact absurd rfl hne
   | cons _ _ => simp
  exact ⟨b, off, rfl, ⟨Yyj (key 0 0 hpos hts), .inr ⟨_, hm, hin b off hpos rfl⟩⟩, key⟩
 ·have e : tyAt ts k = t := by rw [Yfd, List.getD_eq_getElem?_getD, ht]; rfl
  subst e
  show @RdV (atF w (InB φ hs)) (tyAt ts k) ((tyAt ts k).val (cel ys i k)) (cel ys i k)
  have hn := hsc k;generalize cel ys i k = cc;generalize tyAt ts k = t at hn;cases t with
  | int kd => exact @RdV.int (atF w (InB φ hs)) kd cc
  | bool => exact @RdV.bool (atF w (InB φ hs)) cc
  | str => exact @RdV.str (atF w (InB φ hs)) cc
  | sl ts' => exact absurd rfl (hn ts')
theorem Yh0 {hs : Heap} {ts : List Ty} {x : AV} (h : ∀ φ, ∃ A c, x.conc φ = .slice A 0 c) : ReadsIn hs (.sl ts) x (.l []) := fun φ w0 M L w hS hall => by
 obtain ⟨A, c, e⟩ := h φ;rw [e];exact @RdV.sl (atF w (InB φ hs)) ts A c (.l []) (fun _ _ => undef) (Nat.zero_le _) (Nat.zero_le _) (fun hn => absurd rfl hn) (fun i k t hi => by simp [Cl.lst] at hi)
theorem Yp6 {hs : Heap} {ts : List Ty} {T id n : Nat} {xs : Dt} {x : AV} (hts : 0 < ts.length) (hsc : ∀ k ts', tyAt ts k ≠ .sl ts') (ho : OwnSl T ts xs id n x) (hm : (id, It.arr T ts xs) ∈ hs) : ReadsIn hs (.sl ts) x (.l (xs.take n)) :=
 Yks hts hsc (fun φ w0 M R w hS => by
  obtain ⟨h1, h2⟩ := ho.conc hts hS;obtain ⟨h3, h4⟩ := Ype hts hS;refine ⟨by rw [List.length_take]; omega, fun A m c e => ?_⟩;rw [h1] at e;cases e;refine ⟨by omega, fun b off hp he => ?_⟩;cases hn : (φ id).nil with
  | true => simp [hn] at he
  | false =>
   simp only [hn, Bool.false_eq_true, if_false, Option.some.injEq, Addr.mk.injEq] at he;exact .inl (by simp [It.conc, Res.foot, hn, Value.ownBlock, he.1])) (Yv5 hts ho) hm
theorem Ywb {hs : Heap} {ts : List Ty} {T id l n : Nat} {xs : Dt} (hts : 0 < ts.length) (hsc : ∀ k ts', tyAt ts k ≠ .sl ts') (hl : l + n <= xs.length) (hm : (id, It.arr T ts xs) ∈ hs) : ReadsIn hs (.sl ts) (.rwp id ts.length l n) (.l ((xs.drop l).take n)) :=
 Yks hts hsc (fun φ w0 M R w hS => by
  obtain ⟨h3, h4⟩ := Ype hts hS;refine ⟨by rw [List.length_take, List.length_drop]; omega, fun A m c e => ?_⟩;have e' := e;simp only [AV.conc, Value.slice.injEq] at e;refine ⟨by omega, fun b off hp he => ?_⟩;rw [List.length_take, List.length_drop] at hp;rw [Yoi hts hS hl (by omega)] at e';simp only [Value.slice.injEq] at e';rw [he] at e';simp only [Option.some.injEq, Addr.mk.injEq] at e';have hnil := Yer hts (by omega) hS;exact .inl (by simp [It.conc, Res.foot, hnil, Value.ownBlock, e'.1.1])) (Y0k hts hl) hm
theorem Yxk {hs : Heap} {ts : List Ty} {id : Nat} {xs : Dt} (hm : (id, It.fro ts xs) ∈ hs) : ReadsIn hs (.sl ts) (.opq id) (.l xs) := fun φ w0 M L w hS hall => by
 have h := Y2o (hS.has _ (hall _ hm));exact RdV.grow (w := w) h (fun b h1 h2 => ⟨h1, .inr ⟨_, hm, .inr h2⟩⟩) fun _ _ _ => rfl
theorem Ym4 {w : World} {F F' : Nat -> Prop} {ts : List Ty} {A : Option Addr} {c : Nat} {vs : List Value} {xs : Dt} (hc : xs.length <= c) (hm : xs.length <= maxLen) (hF : ∀ b, b < w.heap.size -> F b -> F' b)
  (ha : xs ≠ [] -> ∃ b off, A = some ⟨b, off, none⟩ /\ b < w.heap.size /\ F' b /\ ∀ j u, vs[j]? = some u -> w.cell? ⟨b, off + j, none⟩ = some u) (hr : RowsRd w F ts vs xs) : @RdV (atF w F') (.sl ts) (.slice A xs.length c) (.l xs) := by
 refine @RdV.sl (atF w F') ts A c (.l xs) (fun i k => vs.getD (i * ts.length + k) undef) hc hm (fun hne => ?_) (fun i k t hi ht => ?_)
 ·obtain ⟨b, off, h1, h2, h3, h4⟩ := ha hne;refine ⟨b, off, h1, ⟨h2, h3⟩, fun i k hi hk => ?_⟩;obtain ⟨u, h5, _⟩ := hr i k ts[k] hi (List.getElem?_eq_getElem hk);rw [Nat.add_assoc];refine h4 _ _ ?_;rw [List.getD_eq_getElem?_getD, h5]; rfl
 ·obtain ⟨u, h5, h6⟩ := hr i k t hi ht;rw [List.getD_eq_getElem?_getD, h5];exact h6.grow (fun b h1 h2 => ⟨h1, hF b h1 h2⟩) fun _ _ _ => rfl
theorem Yor {w0 w : World} {M : List Nat} {R : RL} {φ : Phi} {id T : Nat} {ts : List Ty} {xs : Dt} (h : St w0 M ((It.nst T ts xs).conc φ id :: R) w) : (φ id).fn = xs.length /\ ∃ vs, w.ownsRow 0 T ts.length (.slice (if (φ id).nil then none else some ⟨(φ id).b, 0, none⟩) (φ id).fn (φ id).c) (φ id).fn vs /\ RowsRd w (φ id).F ts vs xs := by
 obtain ⟨h1, vs, h2, h3⟩ := Y2i (h.look Look.head);exact ⟨h1.symm, vs, h2, h3⟩
theorem Yiy {w0 w : World} {M : List Nat} {R : RL} {φ : Phi} {id T : Nat} {ts : List Ty} {xs : Dt} (hn : 0 < xs.length) (h : St w0 M ((It.nst T ts xs).conc φ id :: R) w) : (φ id).nil = false := by
 obtain ⟨e, vs, hh, _⟩ := Yor h;cases hnil : (φ id).nil with
 | false => rfl
 | true =>
  rw [hnil] at hh;rcases hh.2 with ⟨_, h0⟩ | ⟨g, cap, cur, hg, _⟩
  ·omega
  ·simp at hg
theorem Ysj {w0 w : World} {M : List Nat} {R : RL} {φ : Phi} {id T : Nat} {ts : List Ty} {xs : Dt} (h : St w0 M ((It.nst T ts xs).conc φ id :: R) w) : xs.length <= (φ id).c /\ xs.length <= maxLen := by
 obtain ⟨e, vs, hh, _⟩ := Yor h;rcases hh.2 with ⟨_, h0⟩ | ⟨g, cap, cur, hg, _, _, hnc, hm, _⟩
 ·omega
 ·simp only [Value.slice.injEq] at hg; omega
theorem Yto {φ : Phi} {id T : Nat} {ts : List Ty} {xs : Dt} (hnil : (φ id).nil = false) : ((It.nst T ts xs).conc φ id).in_ (φ id).b := .inl (by simp [It.conc, Res.nst, Res.foot, hnil, Value.ownBlock])
theorem Yww {hs : Heap} {ts : List Ty} {T id : Nat} {xs : Dt} (hm : (id, It.nst T ts xs) ∈ hs) : ReadsIn hs (.sl ts) (.rw id) (.l xs) := fun φ w0 M L w hS hall => by
 obtain ⟨R, hS'⟩ := hS.front (hall _ hm);obtain ⟨e, vs, hrow, hr⟩ := Yor hS';obtain ⟨h1, h2⟩ := Ysj hS'
 show @RdV (atF w (InB φ hs)) (.sl ts) (.slice (if (φ id).nil then none else some ⟨(φ id).b, 0, none⟩) (φ id).fn (φ id).c) (.l xs)
 rw [e] at hrow ⊢;refine Ym4 (F := (φ id).F) (vs := vs) h1 h2 (fun b _ hb => .inr ⟨_, hm, .inr hb⟩) (fun hne => ?_) hr;have hpos : 0 < xs.length := List.length_pos_iff.2 hne;have hnil := Yiy hpos hS';have hlt := Res.lt2 (hS'.has _ List.mem_cons_self) (φ id).b (Yto hnil);exact ⟨_, _, by rw [hnil]; rfl, hlt, .inr ⟨_, hm, Yto hnil⟩, fun j u hu => by rw [Nat.zero_add]; exact Yhp hrow hu⟩
theorem Yr5 {w : World} {F : Nat -> Prop} {ts : List Ty} {vs : List Value} {xs : Dt} {l n : Nat} (h : RowsRd w F ts vs xs) (hl : l + n <= xs.length) : RowsRd w F ts (vs.drop (l * ts.length)) ((xs.drop l).take n) := fun i k t hi ht => by
 rw [List.length_take, List.length_drop] at hi;obtain ⟨u, h1, h2⟩ := h (l + i) k t (by omega) ht;refine ⟨u, by rw [List.getElem?_drop, <- h1]; congr 1; rw [Nat.add_mul]; omega, ?_⟩;have e : cel ((xs.drop l).take n) i k = cel xs (l + i) k := by
  unfold cel;have e2 : ((xs.drop l).take n).getD i [] = xs.getD (l + i) [] := by
   rw [List.getD_eq_getElem?_getD, List.getD_eq_getElem?_getD, List.getElem?_take, if_pos (by omega), List.getElem?_drop]
  rw [e2]
 rwa [e]
theorem Ywv {T : Nat} {ts : List Ty} {xs : Dt} {id l n : Nat} {w0 w : World} {M : List Nat} {R : RL} {φ : Phi} (hS : St w0 M ((It.nst T ts xs).conc φ id :: R) w) (hl : l + n <= xs.length) (hn : 0 < n) :
  (AV.rwp id ts.length l n).conc φ = .slice (some ⟨(φ id).b, l * ts.length, none⟩) n ((φ id).c - l) := by
 have hc := (Ysj hS).1;have hnil := Yiy (by omega) hS;simp only [AV.conc, hnil, Bool.false_eq_true, if_false];rw [if_neg (show ¬ (φ id).c = l by omega), Option.map_some, Ym, Nat.zero_add]
theorem Yu9 {hs : Heap} {ts : List Ty} {T id l n : Nat} {xs : Dt} (hl : l + n <= xs.length) (hm : (id, It.nst T ts xs) ∈ hs) : ReadsIn hs (.sl ts) (.rwp id ts.length l n) (.l ((xs.drop l).take n)) := fun φ w0 M L w hS hall => by
 obtain ⟨R, hS'⟩ := hS.front (hall _ hm);obtain ⟨e, vs, hrow, hr⟩ := Yor hS';obtain ⟨h1, h2⟩ := Ysj hS';rcases Nat.eq_zero_or_pos n with h0 | h0
 ·subst h0;have := Yh0 (hs := hs) (ts := ts) (x := .rwp id ts.length l 0) (fun φ => ⟨_, _, rfl⟩) φ w0 M L w hS hall;rwa [List.take_zero]
 ·rw [Ywv hS' hl h0];have hnil := Yiy (by omega) hS';have hlt := Res.lt2 (hS'.has _ List.mem_cons_self) (φ id).b (Yto hnil);have hlen : ((xs.drop l).take n).length = n := by rw [List.length_take, List.length_drop]; omega
  have := Ym4 (w := w) (F := (φ id).F) (F' := InB φ hs) (ts := ts) (A := some ⟨(φ id).b, l * ts.length, none⟩) (c := (φ id).c - l) (vs := vs.drop (l * ts.length)) (xs := (xs.drop l).take n) (by dsimp only at h1; omega) (by dsimp only at h1 h2; omega) (fun b _ hb => .inr ⟨_, hm, .inr hb⟩)
   (fun _ => ⟨_, _, rfl, hlt, .inr ⟨_, hm, Yto hnil⟩, fun j u hu => by rw [List.getElem?_drop] at hu; exact Yhp hrow hu⟩) (Yr5 hr hl)
  rwa [hlen] at this
theorem Yem {t : Ty} {x : AV} {hp hs : Heap} {K : Heap -> Cl -> Prop} (h : Ys3 t x hp hs K) (hpart : PartOf hs hp) : ∃ hs' c, K hs' c /\ PartOf hs' hp /\ (∀ p ∈ hs, p ∈ hs') /\ Ylw t c /\ ReadsIn hs' t x c := by
 have keep : ∀ p ∈ hs, p ∈ hs := fun p hp => hp;unfold Ys3 at h
 split at h
 ·split at h
  ·obtain ⟨h1, h2⟩ := Ya h;obtain rfl := of_decide_eq_true h1;exact ⟨_, _, h2, hpart, keep, ⟨_, rfl⟩, fun φ w0 M L w hS _ => @RdV.int (atF w (InB φ hs)) _ (.i _)⟩
  ·obtain ⟨h1, h2⟩ := Ya h;obtain rfl := of_decide_eq_true h1;exact ⟨_, _, h2, hpart, keep, ⟨_, rfl⟩, fun φ w0 M L w hS _ => @RdV.int (atF w (InB φ hs)) _ (.i _)⟩
  ·exact h.elim
 ·split at h
  ·exact ⟨_, _, h, hpart, keep, ⟨_, rfl⟩, fun φ w0 M L w hS _ => @RdV.bool (atF w (InB φ hs)) (.b _)⟩
  ·exact ⟨_, _, h, hpart, keep, ⟨_, rfl⟩, fun φ w0 M L w hS _ => @RdV.bool (atF w (InB φ hs)) (.b _)⟩
  ·exact h.elim
 ·split at h
  ·exact ⟨_, _, h, hpart, keep, ⟨_, rfl⟩, fun φ w0 M L w hS _ => @RdV.str (atF w (InB φ hs)) (.s _)⟩
  ·exact ⟨_, _, h, hpart, keep, ⟨_, rfl⟩, fun φ w0 M L w hS _ => @RdV.str (atF w (InB φ hs)) (.s _)⟩
  ·exact h.elim
 ·split at h
  ·rename_i ts' r;obtain ⟨h1, h2⟩ := Ya h;have e := Ybb _ _ _ h1;simp only [Ty.sl.injEq] at e;subst e;exact ⟨_, _, h2, hpart, keep, ⟨_, rfl⟩, fun φ w0 M L w hS _ => RdV.nowF hS (fun b hb => .inl hb) r.2⟩
  ·obtain ⟨h1, h2⟩ := Ya h;obtain rfl := Yd.1 h1;exact ⟨_, _, h2, hpart, keep, ⟨_, rfl⟩, Yh0 fun φ => ⟨_, _, rfl⟩⟩
  ·exact ⟨_, _, h, hpart, keep, ⟨_, rfl⟩, Yh0 fun φ => ⟨_, _, rfl⟩⟩
  ·obtain ⟨it, hl, h0⟩ := Yg h
   split at h0
   ·rename_i ts' xs;obtain ⟨h1, h2⟩ := Ya h0;have e := Ybb _ _ _ h1;simp only [Ty.sl.injEq] at e;subst e;obtain ⟨hs', h3, h4, h5, h6⟩ := Ydc h2 hpart hl;exact ⟨_, _, h3, h4, h5, ⟨_, rfl⟩, Yxk h6⟩
   ·exact h0.elim
  ·obtain ⟨it, hl, h0⟩ := Yg h
   split at h0
   ·obtain ⟨h1, h2⟩ := Ya h0;simp only [Bool.and_eq_true, Nat.ble_eq] at h1;obtain ⟨e, hsc⟩ := Y8 h1.1;subst e;obtain ⟨hs', h3, h4, h5, h6⟩ := Ydc h2 hpart hl;have hts := h1.2;refine ⟨_, _, h3, h4, h5, ⟨_, rfl⟩, ?_⟩;have key : ∀ (T id : Nat) (ts : List Ty) (xs : Dt), 0 < ts.length -> (∀ k ts', tyAt ts k ≠ .sl ts') -> (id, It.arr T ts xs) ∈ hs' -> ReadsIn hs' (.sl ts) (.rw id) (.l xs) := fun T id ts xs a b c => by
     have := Yp6 a b (T := T) (id := id) (n := List.length xs) (x := .rw id) (.inl ⟨rfl, rfl⟩) c;rwa [List.take_length] at this
    exact key _ _ _ _ hts hsc h6
   ·obtain ⟨h1, h2⟩ := Ya h0;have e := Ybb _ _ _ h1;simp only [Ty.sl.injEq] at e;subst e;obtain ⟨hs', h3, h4, h5, h6⟩ := Ydc h2 hpart hl;exact ⟨_, _, h3, h4, h5, ⟨_, rfl⟩, Yww h6⟩
   ·exact h0.elim
  ·rename_i id off lo m;obtain ⟨it, hl, h0⟩ := Yg h
   split at h0
   ·obtain ⟨h1, h2⟩ := Ya h0;simp only [Bool.and_eq_true, Nat.ble_eq, Yd] at h1;obtain ⟨⟨⟨h11, h12⟩, rfl⟩, rfl⟩ := h1;obtain ⟨e, hsc⟩ := Y8 h11;subst e;obtain ⟨h3, h4⟩ := h2;obtain ⟨hs', h5, h6, h7, h8⟩ := Ydc h4 hpart hl;exact ⟨_, _, h5, h6, h7, ⟨_, rfl⟩, Yp6 h12 hsc (.inr ⟨rfl, of_decide_eq_true h3⟩) h8⟩
   ·rename_i T sz n cs
    split at h0
    ·rename_i hm;obtain rfl := Yd.1 hm;exact ⟨_, _, h0, hpart, keep, ⟨_, rfl⟩, Yh0 fun φ => ⟨_, _, rfl⟩⟩
    ·obtain ⟨h1, h2⟩ := Ya h0;simp only [Bool.and_eq_true, Nat.ble_eq, Yd] at h1;obtain ⟨⟨⟨h11, h12⟩, h13⟩, rfl⟩ := h1;obtain ⟨news, h3, h4, h5, _⟩ := Ydk h2;obtain ⟨hsc, h3⟩ := Ya h3;obtain ⟨ys, h6, h7, h8, _⟩ := Ydi h3;obtain ⟨hs', h9, h10, h11', h12'⟩ := Ydc h6 hpart hl;refine ⟨_, _, h9, h10, h11', ⟨_, rfl⟩, Yks h11 (Y8 hsc).2 (fun φ w0 M R w hS => ⟨by unfold maxLen; omega, fun A m' c e => ?_⟩) (fun φ w0 M R w hS => ?_) h12'⟩
     ·have hc := Ygz hS;have e' := e;simp only [AV.conc, Value.slice.injEq] at e;refine ⟨by omega, fun b off' hp he => ?_⟩;have hnil := Ybf h4 φ id w0 M R w hS;rw [he, hnil] at e;simp only [Bool.false_eq_true, if_false, Option.some.injEq, Addr.mk.injEq] at e;exact .inl (by simp [It.conc, Res.foot, hnil, Value.ownBlock, e.1.1])
     ·have hS' := (by simpa [Yb] using hS : St w0 M ((It.row T sz n cs).conc φ id :: R) w);have hnil := Ybf h4 φ id w0 M R w hS';refine ⟨_, _, by simp only [AV.conc, hnil, Bool.false_eq_true, if_false, h7]; rfl, .inr ⟨_, _, rfl, fun j u hu => ?_⟩⟩;exact Y7 hS' (h5 φ j u (by rw [h8 φ]; exact hu))
   ·exact h0.elim
  ·rename_i id sz' l m;obtain ⟨it, hl, h0⟩ := Yg h
   split at h0
   ·obtain ⟨h1, h2⟩ := Ya h0;simp only [Bool.and_eq_true, Nat.ble_eq, Yd] at h1;obtain ⟨⟨h11, h12⟩, rfl⟩ := h1;obtain ⟨e, hsc⟩ := Y8 h11;subst e;obtain ⟨h3, h4⟩ := h2;obtain ⟨hs', h5, h6, h7, h8⟩ := Ydc h4 hpart hl;exact ⟨_, _, h5, h6, h7, ⟨_, rfl⟩, Ywb h12 hsc (of_decide_eq_true h3) h8⟩
   ·obtain ⟨h1, h2⟩ := Ya h0;simp only [Bool.and_eq_true, Yd] at h1;obtain ⟨h11, rfl⟩ := h1;have e := Ybb _ _ _ h11;simp only [Ty.sl.injEq] at e;subst e;obtain ⟨h3, h4⟩ := h2;obtain ⟨hs', h5, h6, h7, h8⟩ := Ydc h4 hpart hl;exact ⟨_, _, h5, h6, h7, ⟨_, rfl⟩, Yu9 (of_decide_eq_true h3) h8⟩
   ·exact h0.elim
  ·exact h.elim
def Y2n : List Ty -> Bool
 | [] => false
 | .sl _ :: _ => true
 | _ :: ts => Y2n ts
abbrev DK := Ty -> AV -> Heap -> Heap -> (Heap -> Cl -> Prop) -> Prop
def Yyi (D : DK) : List Ty -> List AV -> Heap -> Heap -> (Heap -> List Cl -> Prop) -> Prop
 | [], [], hp, hs, K => K hs []
 | t :: ts, x :: xs, hp, hs, K => D t x hp hs fun hs c => Yyi D ts xs hp hs fun hs cs => K hs (c :: cs)
 | _, _, _, _, _ => Stuck 410
def Yy4 (D : DK) (ts : List Ty) : Nat -> List AV -> Heap -> Heap -> (Heap -> Dt -> Prop) -> Prop
 | 0, cs, hp, hs, K => (match cs with | [] => K hs [] | _ => Stuck 411)
 | m + 1, cs, hp, hs, K => Yhk cs ts.length fun r => Yjz cs ts.length fun rest => Yyi D ts r hp hs fun hs l => Yy4 D ts m rest hp hs fun hs ys => K hs (l :: ys)
def Ys4 : Nat -> DK
 | 0, t, x, hp, hs, K => Ys3 t x hp hs K
 | f + 1, t, x, hp, hs, K => match t, x with
  | .sl ts, .sl id off lo m => (match Y2n ts with
   | false => Ys3 t x hp hs K
   | true => (match look hp id with
    | some (.row T sz n cs) => (match Nat.ble 1 m with
     | true => Yc (Nat.beq sz ts.length && Nat.ble 1 ts.length && Nat.ble m 4611686018427387904 && Nat.ble (lo + m) n && Nat.ble 1 n && Nat.beq off (lo * sz)) (Yjz cs off fun r => Yhk r (m * ts.length) fun news => addH hs id (.row T sz n cs) fun hs => Yy4 (Ys4 f) ts m news hp hs fun hs ys => K hs (.l ys))
     | false => Ys3 t x hp hs K)
    | _ => Ys3 t x hp hs K))
  | _, _ => Ys3 t x hp hs K
def DOk (D : DK) : Prop := ∀ (t : Ty) (x : AV) (hp hs : Heap) (K : Heap -> Cl -> Prop), D t x hp hs K -> PartOf hs hp -> ∃ hs' c, K hs' c /\ PartOf hs' hp /\ (∀ p ∈ hs, p ∈ hs') /\ Ylw t c /\ ReadsIn hs' t x c
theorem Ylv {D : DK} (hD : DOk D) : ∀ {ts : List Ty} {xs : List AV} {hp hs : Heap} {K : Heap -> List Cl -> Prop}, Yyi D ts xs hp hs K -> PartOf hs hp -> ∃ hs' cs, K hs' cs /\ PartOf hs' hp /\ (∀ p ∈ hs, p ∈ hs') /\ xs.length = ts.length /\ cs.length = ts.length /\
  ∀ (k : Nat) (t : Ty), ts[k]? = some t -> ∃ x, xs[k]? = some x /\ ReadsIn hs' t x (cs.getD k .z)
 | [], [], hp, hs, K, h, hpart => ⟨hs, [], h, hpart, fun p hp => hp, rfl, rfl, fun k t e => by simp at e⟩
 | t :: ts, x :: xs, hp, hs, K, h, hpart => by
  obtain ⟨hs1, c, h1, h2, h3, h4, h5⟩ := hD _ _ _ _ _ h hpart;obtain ⟨hs2, cs, k1, k2, k3, k4, k5, k6⟩ := Ylv hD h1 h2;refine ⟨hs2, c :: cs, k1, k2, fun p hp => k3 p (h3 p hp), by simp [k4], by simp [k5], fun k t' e => ?_⟩;cases k with
  | zero =>
   simp only [List.getElem?_cons_zero, Option.some.injEq] at e;subst e;exact ⟨x, rfl, h5.mono k3⟩
  | succ k =>
   obtain ⟨y, y1, y2⟩ := k6 k t' (by simpa using e);exact ⟨y, by simpa using y1, by simpa using y2⟩
 | [], _ :: _, _, _, _, h, _ => h.elim
 | _ :: _, [], _, _, _, h, _ => h.elim
theorem Yis {D : DK} (hD : DOk D) {ts : List Ty} : ∀ {m : Nat} {cs : List AV} {hp hs : Heap} {K : Heap -> Dt -> Prop}, Yy4 D ts m cs hp hs K -> PartOf hs hp -> ∃ hs' ys, K hs' ys /\ PartOf hs' hp /\ (∀ p ∈ hs, p ∈ hs') /\ ys.length = m /\
  ∀ (i k : Nat) (t : Ty), i < m -> ts[k]? = some t -> ∃ x, cs[i * ts.length + k]? = some x /\ ReadsIn hs' t x (cel ys i k)
 | 0, cs, hp, hs, K, h, hpart => by
  cases cs with
  | nil => exact ⟨hs, [], h, hpart, fun p hp => hp, rfl, fun i k t hi => by omega⟩
  | cons _ _ => exact h.elim
 | m + 1, cs, hp, hs, K, h, hpart => by
  obtain ⟨h1, h2⟩ := Ybr h;obtain ⟨_, h3⟩ := Yb5 h2;obtain ⟨hs1, l, h4, h5, h6, h7, h8, h9⟩ := Ylv hD h3 hpart;obtain ⟨hs2, ys, k1, k2, k3, k4, k5⟩ := Yis hD h4 h5;refine ⟨hs2, l :: ys, k1, k2, fun p hp => k3 p (h6 p hp), by simp [k4], fun i k t hi ht => ?_⟩;have hk : k < ts.length := by
   rcases Nat.lt_or_ge k ts.length with a | a
   ·exact a
   ·rw [List.getElem?_eq_none a] at ht; cases ht
  cases i with
  | zero =>
   obtain ⟨x, x1, x2⟩ := h9 k t ht;refine ⟨x, ?_, x2.mono k3⟩;rw [List.getElem?_take, if_pos hk] at x1;rw [Nat.zero_mul, Nat.zero_add];exact x1
  | succ i =>
   obtain ⟨x, x1, x2⟩ := k5 i k t (by omega) ht;refine ⟨x, ?_, x2⟩;rw [List.getElem?_drop] at x1;rw [show (i + 1) * ts.length + k = ts.length + (i * ts.length + k) by rw [Nat.add_mul]; omega];exact x1
theorem Yen : ∀ f, DOk (Ys4 f)
 | 0 => fun t x hp hs K h hpart => Yem h hpart
 | f + 1 => fun t x hp hs K h hpart => by
  unfold Ys4 at h
  split at h
  ·rename_i ts id off lo m
   split at h
   ·exact Yem h hpart
   ·split at h
    ·rename_i T sz n cs hl
     split at h
     ·rename_i hm;rw [Nat.ble_eq] at hm;obtain ⟨h1, h2⟩ := Ya h;simp only [Bool.and_eq_true, Nat.ble_eq, Yd] at h1;obtain ⟨⟨⟨⟨⟨rfl, h12⟩, h13⟩, h14⟩, h15⟩, rfl⟩ := h1;obtain ⟨h3, h4⟩ := Yb5 h2;obtain ⟨h5, h6⟩ := Ybr h4;obtain ⟨hs1, h7, h8, h9, h10⟩ := Ydc h6 hpart hl;obtain ⟨hs2, ys, k1, k2, k3, k4, k5⟩ := Yis (Yen f) h7 h8;refine ⟨_, _, k1, k2, fun p hp => k3 p (h9 p hp), ⟨_, rfl⟩, fun φ w0 M L w hS hall => ?_⟩;obtain ⟨R, hS'⟩ := hS.front (hall _ (k3 _ h10));have hnil : (φ id).nil = false := Yf8 h15 hS';have hcap : n <= (φ id).c := Ygz hS';have hcell : ∀ i k x, cs[lo * ts.length + (i * ts.length + k)]? = some x -> w.cell? ⟨(φ id).b, lo * ts.length + i * ts.length + k, none⟩ = some (x.conc φ) := fun i k x hx => by
       refine Y7 hS' (k := lo * ts.length + i * ts.length + k) (v := x.conc φ) ?_
       show (AV.concL φ cs)[_]? = _
       rw [Yb9, Nat.add_assoc, hx];rfl
      have hrow : ∀ i k t, i < m -> ts[k]? = some t -> ∃ x, cs[lo * ts.length + (i * ts.length + k)]? = some x /\ ReadsIn hs2 t x (cel ys i k) := fun i k t hi ht => by
       obtain ⟨x, x1, x2⟩ := k5 i k t hi ht;refine ⟨x, ?_, x2⟩;rw [List.getElem?_take] at x1
       split at x1
       ·rwa [List.getElem?_drop] at x1
       ·cases x1
      show @RdV (atF w (InB φ hs2)) (.sl ts) (.slice (if (φ id).nil then none else some ⟨(φ id).b, lo * ts.length, none⟩) m ((φ id).c - lo)) (.l ys)
      rw [hnil];have e := @RdV.sl (atF w (InB φ hs2)) ts (some ⟨(φ id).b, lo * ts.length, none⟩) ((φ id).c - lo) (.l ys) (fun i k => (cs.getD (lo * ts.length + (i * ts.length + k)) .junk).conc φ)
       (by show ys.length <= _; omega) (by show ys.length <= _; unfold maxLen; omega) (fun _ => ?_) (fun i k t hi ht => ?_)
      ·rw [show (Cl.l ys).lst.length = m from k4] at e;exact e
      ·have key : ∀ i k, i < ys.length -> k < ts.length -> w.cell? ⟨(φ id).b, lo * ts.length + i * ts.length + k, none⟩ = some ((cs.getD (lo * ts.length + (i * ts.length + k)) .junk).conc φ) := fun i k hi hk => by
        obtain ⟨x, x1, _⟩ := hrow i k ts[k] (by omega) (List.getElem?_eq_getElem hk);rw [hcell i k x x1, List.getD_eq_getElem?_getD, x1];rfl
       exact ⟨_, _, rfl, ⟨Yyj (key 0 0 (by omega) (by omega)), .inr ⟨_, k3 _ h10, .inl (by simp [It.conc, Res.foot, hnil, Value.ownBlock])⟩⟩, key⟩
      ·obtain ⟨x, x1, x2⟩ := hrow i k t (by have : i < ys.length := hi; omega) ht;rw [show (cs.getD (lo * ts.length + (i * ts.length + k)) AV.junk) = x by rw [List.getD_eq_getElem?_getD, x1]; rfl];exact x2 φ w0 M L w hS fun p hp => hall p hp
     ·exact Yem h hpart
    ·exact Yem h hpart
  ·exact Yem h hpart
end
end Go.Proofs.YtbhlmkgliflhaaaGreat
namespace Go.Proofs.YtbhlmkgliflhaaaGreat
open Go.RowKit
variable [InW]
attribute [local irreducible] Go.Oper.wp
def It.own : It -> Bool
 | .fro .. => false
 | .dead => false
 | _ => true
def memN (i : Nat) : List Nat -> Bool
 | [] => false
 | j :: l => match Nat.beq j i with | true => true | false => memN i l
theorem Yj6 {i : Nat} : ∀ {l : List Nat}, memN i l = true ↔ i ∈ l
 | [] => by simp [memN]
 | j :: l => by
  unfold memN;cases h : Nat.beq j i with
  | true => simp [Yd.1 h]
  | false =>
   have := Yz.1 h;simp only [List.mem_cons];exact ⟨fun h => .inr (Yj6.1 h), fun h => Yj6.2 (h.resolve_left fun e => this e.symm)⟩
def Yej : Heap -> Heap
 | [] => []
 | p :: hs => match p.2.own with | true => (p.1, .dead) :: Yej hs | false => Yej hs
def Yh9 (us : List Nat) (p : Nat × It) : Nat × It := if memN p.1 us = true then (p.1, .dead) else p
theorem Ye1 : ∀ {hs : Heap}, ∀ p ∈ Yej hs, p.2 = .dead /\ p.1 ∈ keys hs
 | [], p, hp => by cases hp
 | q :: hs, p, hp => by
  unfold Yej at hp
  split at hp
  ·rcases List.mem_cons.1 hp with rfl | hp
   ·exact ⟨rfl, by simp [keys]⟩
   ·have := Ye1 p hp;exact ⟨this.1, by simp only [keys, List.map_cons, List.mem_cons]; exact .inr this.2⟩
  ·have := Ye1 p hp;exact ⟨this.1, by simp only [keys, List.map_cons, List.mem_cons]; exact .inr this.2⟩
theorem Yvv {i : Nat} : ∀ {hs : Heap}, (keys hs).Nodup -> upd hs i .dead = hs.map fun p => if p.1 = i then (p.1, .dead) else p
 | [], _ => rfl
 | q :: hs, hn => by
  simp only [keys, List.map_cons, List.nodup_cons] at hn;unfold upd;cases hb : Nat.beq q.1 i with
  | true =>
   have e := Yd.1 hb;simp only [List.map_cons, e, if_true, List.cons.injEq, true_and];symm;refine (List.map_congr_left fun p hp => ?_).trans (List.map_id' _);rw [if_neg];intro h;exact hn.1 (by rw [e, <- h]; exact List.mem_map_of_mem hp)
  | false =>
   simp only [List.map_cons, if_neg (Yz.1 hb), Yvv hn.2]
theorem Ygy : ∀ {us hs : Heap}, (keys hs).Nodup -> (∀ p ∈ us, p.2 = .dead) -> Yh hs us = hs.map (Yh9 (keys us))
 | [], hs, _, _ => by
  have : Yh9 [] = id := by funext p; simp [Yh9, memN]
  simp [Yh, keys, this]
 | u :: us, hs, hn, hd => by
  have h1 : u.2 = .dead := hd u List.mem_cons_self;have h2 : (keys (upd hs u.1 .dead)).Nodup := by rw [Yj9]; exact hn
  rw [Yh, h1, Ygy h2 fun p hp => hd p (List.mem_cons_of_mem _ hp), Yvv hn, List.map_map];refine List.map_congr_left fun p hp => ?_;simp only [Function.comp]
  by_cases e : p.1 = u.1
  ·simp only [e, if_true, Yh9, keys, List.map_cons, memN, Nat.beq_refl]
   split <;> simp
  ·simp only [if_neg e, Yh9, keys, List.map_cons, memN, Yz.2 (Ne.symm e)]
def SetF (φ : Phi) (hs : Heap) (us : List Nat) (b : Nat) : Prop := InW.F b \/ ∃ p ∈ hs, (p.2.conc φ p.1).frz b \/ p.1 ∈ us /\ b ∈ (p.2.conc φ p.1).foot
theorem InB.set {φ : Phi} {hs : Heap} {b : Nat} (h : InB φ hs b) : SetF φ hs (keys (Yej hs)) b := by
 rcases h with h | ⟨p, hp, h⟩
 ·exact .inl h
 ·refine .inr ⟨p, hp, ?_⟩;rcases h with h | h
  ·refine .inr ⟨?_, h⟩;have ho : p.2.own = true := by
    cases hi : p.2 <;> first | rfl | (rw [hi] at h; simp [It.conc, Res.foot, Res.fro, Value.ownBlock] at h)
   clear h
   induction hs with
   | nil => cases hp
   | cons q hs ih =>
    unfold Yej;rcases List.mem_cons.1 hp with rfl | hp
    ·rw [ho]; simp [keys]
    ·split
     ·simp only [keys, List.map_cons, List.mem_cons]; exact .inr (ih hp)
     ·exact ih hp
  ·exact .inl h
theorem Yls (φ : Phi) (us : List Nat) (p : Nat × It) : ((Yh9 us p).2.conc φ (Yh9 us p).1 = Res.row (.slice none 0 0) 0 0 0 [] /\ p.1 ∈ us) \/ (Yh9 us p = p /\ p.1 ∉ us) := by
 unfold Yh9
 split
 ·rename_i h; exact .inl ⟨rfl, Yj6.1 h⟩
 ·rename_i h; exact .inr ⟨rfl, fun hm => h (Yj6.2 hm)⟩
theorem Ytn {α : Type} {R : Res -> Res -> Prop} (hsy : ∀ a b, R a b -> R b a) {f : α -> Res} : ∀ {l : List α}, (l.map f).Pairwise R -> ∀ p ∈ l, ∀ q ∈ l, p ≠ q -> R (f p) (f q)
 | [], _, p, hp, _, _, _ => by cases hp
 | a :: l, h, p, hp, q, hq, hne => by
  simp only [List.map_cons, List.pairwise_cons] at h;rcases List.mem_cons.1 hp with e | hp2
  ·rcases List.mem_cons.1 hq with e2 | hq2
   ·exact absurd (e.trans e2.symm) hne
   ·rw [e]; exact h.1 _ (List.mem_map.2 ⟨q, hq2, rfl⟩)
  ·rcases List.mem_cons.1 hq with e2 | hq2
   ·rw [e2]; exact hsy _ _ (h.1 _ (List.mem_map.2 ⟨p, hp2, rfl⟩))
   ·exact Ytn hsy h.2 p hp2 q hq2 hne
theorem Yhf {b : Nat} : ¬ (Res.row (.slice none 0 0) 0 0 0 []).in_ b := fun h => h.elim (by simp [Res.foot, Value.ownBlock]) fun h => h
theorem St.give {φ : Phi} {w0 w : World} {M : List Nat} {hs us : Heap} {A R X : RL} (h : St w0 M (Yb φ hs ++ R) w) (hn : (keys hs).Nodup) (hd : ∀ p ∈ us, p.2 = .dead) (hX : ∀ x ∈ X, x.holds w) (hXs : X.Pairwise apart)
  (hXf : ∀ x ∈ X, ∀ b ∈ x.foot, ∃ p ∈ hs, p.1 ∈ keys us /\ b ∈ (p.2.conc φ p.1).foot) (hXz : ∀ x ∈ X, ∀ b, x.frz b -> SetF φ hs (keys us) b) : St w0 M (X ++ (Yb φ (Yh hs us) ++ R)) w := by
 have hsep := List.pairwise_append.1 h.sep;have hp := Ytn (fun a b => apart.symm) (f := fun p : Nat × It => p.2.conc φ p.1) hsep.1;have hm : ∀ p ∈ hs, p.2.conc φ p.1 ∈ Yb φ hs := fun p hp => List.mem_map.2 ⟨p, hp, rfl⟩;rw [Ygy hn hd, <- List.append_assoc];have hdead : (Res.row (.slice none 0 0) 0 0 0 []).holds w := ⟨by simp, .inl ⟨rfl, rfl⟩⟩;have hmem : ∀ r ∈ Yb φ (hs.map (Yh9 (keys us))), r = Res.row (.slice none 0 0) 0 0 0 [] \/ ∃ p ∈ hs, p.1 ∉ keys us /\ r = p.2.conc φ p.1 := fun r hr => by
  obtain ⟨q, hq, rfl⟩ := List.mem_map.1 hr;obtain ⟨p, hpm, rfl⟩ := List.mem_map.1 hq;rcases Yls φ (keys us) p with ⟨e, _⟩ | ⟨e, h2⟩
  ·exact .inl e
  ·exact .inr ⟨p, hpm, h2, by rw [e]⟩
 refine St.repack h (L2 := X ++ Yb φ (hs.map (Yh9 (keys us)))) ?_ ?_ ?_ ?_
 ·intro r hr;rcases List.mem_append.1 hr with hr | hr
  ·exact hX r hr
  ·rcases hmem r hr with rfl | ⟨p, hpm, _, rfl⟩
   ·exact hdead
   ·exact h.has _ (List.mem_append_left _ (hm p hpm))
 ·intro r hr b hb;rcases List.mem_append.1 hr with hr | hr
  ·obtain ⟨p, hpm, _, hb⟩ := hXf r hr b hb;exact ⟨_, hm p hpm, hb⟩
  ·rcases hmem r hr with rfl | ⟨p, hpm, _, rfl⟩
   ·exact absurd (.inl hb) Yhf
   ·exact ⟨_, hm p hpm, hb⟩
 ·intro r hr b hb;rcases List.mem_append.1 hr with hr | hr
  ·rcases hXz r hr b hb with h1 | ⟨p, hpm, h1⟩
   ·exact .inl h1
   ·exact .inr ⟨_, hm p hpm, h1.elim .inr fun h => .inl h.2⟩
  ·rcases hmem r hr with rfl | ⟨p, hpm, _, rfl⟩
   ·exact False.elim hb
   ·exact .inr ⟨_, hm p hpm, .inr hb⟩
 ·refine List.pairwise_append.2 ⟨hXs, ?_, fun x hx r hr => ?_⟩
  ·unfold Yb;rw [List.map_map, List.pairwise_map];have h2 := List.pairwise_map.1 hsep.1;refine h2.imp fun {p q} hpq => ?_;simp only [Function.comp];rcases Yls φ (keys us) p with ⟨e, _⟩ | ⟨e, _⟩
   ·rw [e]; exact ⟨fun b hb => absurd (.inl hb) Yhf, fun b _ => Yhf⟩
   ·rw [e];rcases Yls φ (keys us) q with ⟨e, _⟩ | ⟨e, _⟩
    ·rw [e]; exact ⟨fun b _ => Yhf, fun b hb => absurd (.inl hb) Yhf⟩
    ·rw [e]; exact hpq
  ·rcases hmem r hr with rfl | ⟨p, hpm, hnp, rfl⟩
   ·exact ⟨fun b _ => Yhf, fun b hb => absurd (.inl hb) Yhf⟩
   ·refine ⟨fun b hb => ?_, fun b hb hb' => ?_⟩
    ·obtain ⟨q, hqm, hq, hb⟩ := hXf x hx b hb;exact (hp q hqm p hpm fun e => hnp (e ▸ hq)).1 b hb
    ·rcases hb' with hb' | hb'
     ·obtain ⟨q, hqm, hq, hb'⟩ := hXf x hx b hb';exact (hp q hqm p hpm fun e => hnp (e ▸ hq)).2 b hb (.inl hb')
     ·rcases hXz x hx b hb' with h1 | ⟨q, hqm, h1⟩
      ·exact h.farF (List.mem_append_left _ (hm p hpm)) hb h1
      ·rcases h1 with h1 | h1
       ·exact h.farZ (List.mem_append_left _ (hm p hpm)) (List.mem_append_left _ (hm q hqm)) hb h1
       ·exact (hp q hqm p hpm fun e => hnp (e ▸ h1.1)).2 b hb (.inl h1.2)
end Go.Proofs.YtbhlmkgliflhaaaGreat
namespace Go.Proofs.YtbhlmkgliflhaaaGreat
open Go.RowKit
variable [InW]
attribute [local irreducible] Go.Oper.wp
section
variable {P : Program} {tm : List AV} {dst : Option Tmp} {type : TypeId} {pos : String} {after : Array Edge} {guard : Option (Nat × Bool)}
def Ycv (d j : Nat) : Nat := 3 * (j * 1024 + d) + 2
theorem SetF.lt {w0 w : World} {M : List Nat} {L : RL} {φ : Phi} {hs : Heap} {us : List Nat} (hS : St w0 M L w) (hm : ∀ p ∈ hs, p.2.conc φ p.1 ∈ L) {b : Nat} (h : SetF φ hs us b) : b < w.heap.size := by
 rcases h with h | ⟨p, hp, h⟩
 ·exact Nat.lt_of_lt_of_le (InW.lt b h) (Nat.le_trans hS.inw.base hS.kept.size)
 ·exact Res.lt2 (hS.has _ (hm p hp)) b (h.elim .inr fun h => .inl h.2)
theorem SetF.nil {φ : Phi} {hs : Heap} {b : Nat} (h : SetF φ hs [] b) : InW.F b \/ ∃ q ∈ Yb φ hs, q.frz b := by
 rcases h with h | ⟨p, hp, h⟩
 ·exact .inl h
 ·exact .inr ⟨_, List.mem_map.2 ⟨p, hp, rfl⟩, h.resolve_right fun h => by cases h.1⟩
theorem Yot {φ : Phi} {hs : Heap} {R : RL} : ∀ p ∈ hs, p.2.conc φ p.1 ∈ Yb φ hs ++ R := fun p hp => List.mem_append_left _ (List.mem_map.2 ⟨p, hp, rfl⟩)
end
end Go.Proofs.YtbhlmkgliflhaaaGreat
namespace Go.Proofs.YtbhlmkgliflhaaaGreat
open Go.RowKit
variable [InW]
attribute [local irreducible] Go.Oper.wp
section
variable {P : Program} {tm : List AV} {dst : Option Tmp} {type : TypeId} {pos : String} {after : Array Edge} {guard : Option (Nat × Bool)}
theorem Yxf {φ φ' : Phi} {ks : List Nat} (hag : Agree ks φ φ') {hs : Heap} {us : List Nat} (h : ∀ i ∈ ks, hasH i hs = false) : Yb φ' (hs.map (Yh9 us)) = Yb φ (hs.map (Yh9 us)) := by
 unfold Yb;rw [List.map_map, List.map_map];refine List.map_congr_left fun p hp => ?_;simp only [Function.comp];unfold Yh9
 split
 ·rfl
 ·exact Yge hag (fun hm => (Ys (h _ hm) hp).1 rfl) _ fun i hi => (Ys (h i hi) hp).2
end
end Go.Proofs.YtbhlmkgliflhaaaGreat
namespace Go.Proofs.YtbhlmkgliflhaaaGreat
open Go.RowKit
variable [InW]
attribute [local irreducible] Go.Oper.wp
def nstB (hp : Heap) (id : Nat) : Bool := match look hp id with | some (.nst _ _ _) => true | _ => false
def froB (hp : Heap) (id : Nat) : Bool := match look hp id with | some (.fro _ _) => true | _ => false
def isN (x : AV) (hp : Heap) : Bool :=
 match x with
 | .rw id => nstB hp id
 | .ep id _ _ _ => nstB hp id
 | .rwp id _ _ _ => nstB hp id
 | .opq id => froB hp id
 | .fp id _ _ _ => froB hp id
 | _ => false
section
variable {P : Program} {tm : List AV} {dst : Option Tmp} {type : TypeId} {pos : String} {after : Array Edge} {guard : Option (Nat × Bool)}
end
end Go.Proofs.YtbhlmkgliflhaaaGreat
namespace Go.Proofs.YtbhlmkgliflhaaaGreat
open Go.RowKit
set_option maxRecDepth 100000
set_option maxHeartbeats 1600000
variable [InW]
section
variable {P : Program} {tm : List AV} {dst : Option Tmp} {type : TypeId} {pos : String} {after : Array Edge} {guard : Option (Nat × Bool)}
theorem Yvi (ts : List Ty) (xs : Dt) (n : Nat) (h : n <= xs.length) : Yt ts (xs.take n) = (Yt ts xs).take (n * ts.length) := by
 have e : Yt ts xs = Yt ts (xs.take n) ++ Yt ts (xs.drop n) := by rw [<- Ycf, List.take_append_drop]
 have hl : (Yt ts (xs.take n)).length = n * ts.length := by rw [Y2, List.length_take, Nat.min_eq_left h]
 rw [e, <- hl, List.take_left]
end
end Go.Proofs.YtbhlmkgliflhaaaGreat
namespace Go.Proofs.YtbhlmkgliflhaaaGreat
open Go.RowKit
set_option maxRecDepth 100000
set_option maxHeartbeats 1600000
variable [InW]
section
variable {P : Program} {tm : List AV} {dst : Option Tmp} {type : TypeId} {pos : String} {after : Array Edge} {guard : Option (Nat × Bool)}
theorem Y2x {T : Nat} {ts : List Ty} {xs : Dt} {id : Nat} (hts : 0 < ts.length) {w0 w : World} {M : List Nat} {R : RL} {φ : Phi} (hS : St w0 M ((It.arr T ts xs).conc φ id :: R) w) : (φ id).fn = xs.length := by
 have h : w.ownsRow 0 T ts.length _ (φ id).fn (Yt ts xs) := hS.row (v := .slice (if (φ id).nil then none else some ⟨(φ id).b, 0, none⟩) (φ id).fn (φ id).c) Look.head;have := h.1;rw [Y2] at this;exact (Nat.eq_of_mul_eq_mul_right hts this).symm
theorem Ywc {id sz n : Nat} (φ : Phi) : (AV.rwp id sz 0 n).conc φ = .slice (if (φ id).nil then none else some ⟨(φ id).b, 0, none⟩) n (φ id).c := by
 simp only [AV.conc, Nat.zero_mul, Nat.sub_zero];cases (φ id).nil <;> simp [Ym]
end
end Go.Proofs.YtbhlmkgliflhaaaGreat
namespace Go.Proofs.YtbhlmkgliflhaaaGreat
open Go.RowKit
set_option maxRecDepth 100000
set_option maxHeartbeats 1600000
variable [InW]
section
variable {P : Program} {tm : List AV} {dst : Option Tmp} {type : TypeId} {pos : String} {after : Array Edge} {guard : Option (Nat × Bool)}
end
noncomputable def Yui (c : Cx) (o : Oper) (tm : List AV) (hp : Heap) (k kp : KE) : Prop := Yvs c o tm hp k kp
theorem Ygv {c : Cx} {o : Oper} {tm : List AV} {hp : Heap} {k kp : KE} (hc : HandOk c) (h : Yui c o tm hp k kp) : OpRes c o tm hp k kp := Ypk hc h
end Go.Proofs.YtbhlmkgliflhaaaGreat
namespace Go.Proofs.YtbhlmkgliflhaaaGreat
open Go.RowKit
variable [InW]
attribute [local irreducible] Go.Oper.wp
def wF (r : Option Nat) : Fence := { Fence.wide with round := r }
theorem Yvo {r : Option Nat} {n : Nat} {P : Program} {f : FuncId} {args : Array Value} {w : World} {R : Ending -> World -> Prop} : CallsIn (wF r) n P f args w R ↔ Calls P f args w R := callsIn_wide (n := n)
theorem Ywf {r : Option Nat} {n : Nat} {P : Program} {row : String} {args : Array Value} {w : World} {R : Value -> World -> Prop} (h : Rows P row args w R) : RowsIn (wF r) n P row args w R := fun c cs _ =>
 let ⟨v, w', h1, h2⟩ := h c cs; ⟨v, w', h1, stepsIn_wide.2 h2⟩
theorem Yn5 {r : Option Nat} {n : Nat} : (wF r).depth.isSome = true -> 1 <= n := fun h => by simp [wF, Fence.wide] at h
def opW (P : Program) (o : Oper) (a : Act) (w : World) (K : Act -> World -> Prop) (Q : Exit -> Act -> World -> Prop) : Prop := ∀ r, o.wpIn (wF r) 0 P a w K Q
theorem Y0p {P : Program} {o : Oper} {a : Act} {w : World} {K : Act -> World -> Prop} {Q : Exit -> Act -> World -> Prop} (hd : ∀ c, o.op ≠ .defer c) (h : o.wp P a w K Q) : opW P o a w K Q := fun r => by
 refine ⟨fun _ _ => trivial, ?_⟩;rw [Oper.semAt_eq _ _ _ hd];unfold Oper.wp at h;generalize (execOp a.eval o).run P w = x at h;cases x with
 | ok x w' =>
  cases x <;> simp only [Oper.upon, Oper.uponIn] at h ⊢
  case value v => exact h
  case skip => exact h
  case defer d => exact h
  case enter f args => exact ⟨Yn5, Yvo.2 h⟩
  case row row args => exact ⟨Yn5, Ywf h⟩
 | halt x w' => cases x <;> simp only [Oper.upon, Oper.uponIn] at h ⊢; exact h
def DoesW (P : Program) (o : Oper) (tm : List AV) (hs : Heap) (val : AV) (us nw : Heap) : Prop :=
 ∀ (φ : Phi) (w0 : World) (M : List Nat) (R : RL) (a : Act) (w : World) (K : Act -> World -> Prop) (Q : Exit -> Act -> World -> Prop),
  OpsAt φ tm a o.op -> NewFor (keys nw) tm hs -> St w0 M (Yb φ hs ++ R) w ->
  (∀ φ' w', Agree (keys nw) φ φ' -> St w0 M (Yb φ' (Yh hs us ++ nw) ++ R) w' -> K (a.put o.dst (val.conc φ')) w') -> opW P o a w K Q
def DoesPW (P : Program) (o : Oper) (tm : List AV) (hs : Heap) (val : AV) (us nw : Heap) : Prop :=
 ∀ (φ : Phi) (w0 : World) (M : List Nat) (R : RL) (a : Act) (w : World) (K : Act -> World -> Prop) (Q : Exit -> Act -> World -> Prop),
  OpsAt φ tm a o.op -> NewFor (keys nw) tm hs -> St w0 M (Yb φ hs ++ R) w ->
  (∀ φ' w', Agree (keys nw) φ φ' -> St w0 M (Yb φ' (Yh hs us ++ nw) ++ R) w' -> Q (.panic [{ v := val.conc φ', recovered := false }]) a w') -> opW P o a w K Q
theorem Does.toW {P : Program} {o : Oper} {tm : List AV} {hs us nw : Heap} {val : AV} (hd : ∀ c, o.op ≠ .defer c) (h : Does P o tm hs val us nw) : DoesW P o tm hs val us nw :=
 fun φ w0 M R a w K Q h1 h2 h3 h4 => Y0p hd (h φ w0 M R a w K Q h1 h2 h3 h4)
theorem DoesP.toW {P : Program} {o : Oper} {tm : List AV} {hs us nw : Heap} {val : AV} (hd : ∀ c, o.op ≠ .defer c) (h : DoesP P o tm hs val us nw) : DoesPW P o tm hs val us nw :=
 fun φ w0 M R a w K Q h1 h2 h3 h4 => Y0p hd (h φ w0 M R a w K Q h1 h2 h3 h4)
theorem Yhe {P : Program} {o : Oper} {tm : List AV} {hp hs us nw : Heap} {val : AV} (hd : DoesW P o tm hs val us nw) (hpart : PartOf hs hp) (hu : ∀ i ∈ keys us, i ∈ keys hs) (hB : NewFor (keys nw) tm hp /\ (keys nw).Nodup /\ ∀ i ∈ keys nw, i % 3 ≠ 1)
  {φ0 φ : Phi} {w0 : World} {M : List Nat} {R : RL} {a : Act} {w : World} (h : RepS φ0 φ w0 M R tm hp a w) {K : Act -> World -> Prop} {Q : Exit -> Act -> World -> Prop}
  (kk : ∀ φ' w', RepS φ0 φ' w0 M R (putA tm o.dst val) (Yba (Yh hp us) nw) (a.put o.dst (val.conc φ')) w' -> K (a.put o.dst (val.conc φ')) w') : opW P o a w K Q := by
 have hB' := hB;obtain ⟨b1, b2, b3⟩ := hB;have hS : St w0 M (Yb φ hs ++ (Yb φ (Ybt hs hp) ++ R)) w := by
  have := h.st.perm ((Yq (hpart.perm h.nd)).append (List.Perm.refl R));rwa [Yl, List.append_assoc] at this
 refine hd φ w0 M _ a w K Q (h.tmps.ops _) (fun i hi => ⟨(b1 i hi).1, Yd9 fun p hp' => ?_⟩) hS fun φ' w' hag hS' => kk φ' w' (h.new_heap hpart hu hB' hag hS' _ _);exact Ys (b1 i hi).2 (Y5 (hpart.all p hp'))
theorem Yxb {h : Heap} {i : Nat} (hm : i ∈ keys h) : ∃ x, look h i = some x := by
 induction h with
 | nil => simp [keys] at hm
 | cons p h ih =>
  rw [Yn]
  split
  ·exact ⟨_, rfl⟩
  ·rename_i hne;simp only [keys, List.map_cons, List.mem_cons] at hm;rcases hm with e | hm
   ·exact absurd e.symm hne
   ·exact ih hm
def Yug (P : Program) (L : LI) (i : Nat) (args : List AV) (hs : Heap) (val : AV) (us nw : Heap) : Prop :=
 ∀ (φ : Phi) (w0 : World) (M : List Nat) (R : RL) (w : World), NewFor (keys nw) args hs -> St w0 M (Yb φ hs ++ R) w ->
  RoundIn Fence.wide 0 P (φ i).b (φ i).fn (AV.concL φ args).toArray L.assign L.body w fun e w' => ∃ φ', Agree (keys nw) φ φ' /\ e = .returned (val.conc φ') /\ St w0 M (Yb φ' (Yh hs us ++ nw) ++ R) w'
structure HandOkR (c : Cx) : Prop extends HandOk c where
 round : ∀ L i args hp d k, c.roundH L i args hp d k -> ∃ val hs us nw, k val hs us nw /\ PartOf hs hp /\ (∀ i ∈ keys us, i ∈ keys hs) /\ i ∈ keys hs /\ Yug c.P L i args hs val us nw
def Y0w (o : Oper) : Option (Operand × List Operand) := match o.op with | .call { callee := .value f, args := ⟨l⟩, .. } => some (f, l) | _ => none
def Y0t (o : Oper) : Bool := match o.op with | .defer _ => true | _ => false
def Yeg (cs : List AV) : List (Nat × AV) -> List AV
 | [] => cs
 | p :: ps => Yeg (cs.set p.1 p.2) ps
def lpK (it : It) (K : LI -> List AV -> Prop) : Prop := match it with | .lp L (d :: cs) => K L cs | _ => Stuck 90
def ylK (fv : AV) (K : Nat -> Prop) (K' : Prop) : Prop := match fv with | .yl i => K i | _ => K'
def Yyu (c : Cx) (o : Oper) (tm : List AV) (hp : Heap) (k kp : KE) : Prop :=
 match Y0w o with
 | none => (match Y0t o with | true => Stuck 92 | false => Yui c o tm hp k kp)
 | some (f, args) => evK tm f fun fv => ylK fv (fun i => evsK tm args fun vs => Y4 hp i fun it => lpK it fun L cs => Yc (Nat.beq vs.length L.ps.size) (c.roundH L i (Yeg cs (L.ps.toList.zip vs)) hp (o.dst.getD 0) k)) (Yui c o tm hp k kp)
theorem Yyf (φ : Phi) (cs : List AV) (n : Nat) (v : AV) : AV.concL φ (cs.set n v) = (AV.concL φ cs).set n (v.conc φ) := by rw [Yy, Yy, List.map_set]
theorem Ykv (φ : Phi) : ∀ (ps : List Nat) (vs cs : List AV), (AV.concL φ (Yeg cs (ps.zip vs))).toArray = (ps.zip (AV.concL φ vs)).foldl (fun (t : Array Value) (p : Nat × Value) => t.setIfInBounds p.1 p.2) (AV.concL φ cs).toArray
 | [], vs, cs => by simp [Yeg]
 | _ :: _, [], cs => by simp [Yeg, AV.concL]
 | p :: ps, v :: vs, cs => by
  simp only [List.zip_cons_cons, Yeg, AV.concL, List.foldl_cons];rw [Ykv φ ps vs, Yyf];simp
theorem Ymy {i : Nat} : ∀ (ps : List Nat) (vs cs : List AV), AV.hasL i vs = false -> AV.hasL i cs = false -> AV.hasL i (Yeg cs (ps.zip vs)) = false
 | [], vs, cs, _, h => by simpa [Yeg] using h
 | _ :: _, [], cs, _, h => by simpa [Yeg] using h
 | p :: ps, v :: vs, cs, h1, h2 => by
  simp only [AV.hasL, Bool.or_eq_false_iff] at h1;simp only [List.zip_cons_cons, Yeg];refine Ymy ps vs _ h1.2 ?_;rw [Yk, List.any_eq_false] at h2 ⊢;intro x hx;rcases List.mem_or_eq_of_mem_set hx with h | rfl
  ·exact h2 x h
  ·simpa using h1.1
section
variable {P : Program} {tm : List AV} {dst : Option Tmp} {type : TypeId} {pos : String} {after : Array Edge} {guard : Option (Nat × Bool)}
theorem Y1o {f : Operand} {args : List Operand} {tys : Array TypeId} {i : Nat} {L : LI} {x : AV} {cs vs : List AV} {hs : Heap} {val : AV} {us nw : Heap} (hf : At tm f (.yl i)) (ha : Ats tm args vs) (hl : look hs i = some (.lp L (x :: cs))) (hn : vs.length = L.ps.size)
  (hc : Yug P L i (Yeg cs (L.ps.toList.zip vs)) hs val us nw) :
  DoesW P { dst, op := .call { callee := .value f, args := args.toArray, argTypes := tys }, type, pos, after, guard } tm hs val us nw :=
 fun φ w0 M R a w K Q ho hnew hS kk r => by
  have e1 := ho f (by simp [Op.operands, Call.operands]) _ hf (by simp);have e2 := ha.eval (φ := φ) (a := a) fun x hx v hv hj => ho x (by simp [Op.operands, Call.operands, hx]) v hv hj;refine ⟨fun _ _ => trivial, ?_⟩;rw [Oper.semAt_eq _ _ _ (fun c => by simp)];have hb : w.heap[(φ i).b]? = some (L.obj (φ i).fn (AV.concL φ (x :: cs))) := by
   have hm : Res.blk (φ i).b (L.obj (φ i).fn (AV.concL φ (x :: cs))) ∈ Yb φ hs ++ R := List.mem_append_left _ (List.mem_map.2 ⟨_, Y5 hl, rfl⟩);exact hS.has _ hm
  have hl2 : (AV.concL φ vs).length = L.ps.size := by rw [Ye, hn]
  have hy := run_yield (P := P) (args := (AV.concL φ vs).toArray) hb (by simpa using hl2);have e3 : (args.toArray).map a.eval = (AV.concL φ vs).toArray := by rw [<- e2]; simp
  have hrun : (execOp a.eval { dst, op := .call { callee := .value f, args := args.toArray, argTypes := tys }, type, pos, after, guard }).run P w = .ok (.round (φ i).b (φ i).fn (AV.concL φ (Yeg cs (L.ps.toList.zip vs))).toArray L.assign L.body) w := by
   simp only [execOp, resolve, e1, AV.conc, Deferred.ofValue, Sem.run_bind, Sem.run_pure, Result.andThen_ok, invoke, e3, Array.empty_append, Array.append_empty, hy]
   congr 2
   rw [Ykv, <- Array.foldl_toList];simp [AV.concL, Array.toList_zip]
  rw [hrun];refine ⟨Yn5, ?_⟩;have hnw : NewFor (keys nw) (Yeg cs (L.ps.toList.zip vs)) hs := fun j hj => by
   obtain ⟨h1, h2⟩ := hnew j hj;have h3 : AV.hasL j (x :: cs) = false := (Ys h2 (Y5 hl)).2;simp only [AV.hasL, Bool.or_eq_false_iff] at h3;exact ⟨Ymy _ _ _ (ha.new h1) h3.2, h2⟩
  refine RoundIn.mono (hc φ w0 M R w hnw hS) fun e w' ⟨φ', hag, he, hS'⟩ => ?_;subst he;exact kk φ' w' hag hS'
end
def Y0y (c : Cx) (o : Oper) (tm : List AV) (hp : Heap) (k kp : KE) : Prop :=
 (∃ val hs us nw, k val hs us nw /\ PartOf hs hp /\ (∀ i ∈ keys us, i ∈ keys hs) /\ DoesW c.P o tm hs val us nw) \/
 (∃ val hs us nw, kp val hs us nw /\ PartOf hs hp /\ (∀ i ∈ keys us, i ∈ keys hs) /\ DoesPW c.P o tm hs val us nw)
theorem Yki {c : Cx} {o : Oper} {tm : List AV} {hp : Heap} {k kp : KE} (hc : HandOkR c) (h : Yyu c o tm hp k kp) : Y0y c o tm hp k kp := by
 have plain : (∀ c, o.op ≠ .defer c) -> Yui c o tm hp k kp -> Y0y c o tm hp k kp := fun hd h => by
  rcases Ygv hc.toHandOk h with ⟨val, hs, us, nw, h1, h2, h3, h4⟩ | ⟨val, hs, us, nw, h1, h2, h3, h4⟩
  ·exact .inl ⟨val, hs, us, nw, h1, h2, h3, h4.toW hd⟩
  ·exact .inr ⟨val, hs, us, nw, h1, h2, h3, h4.toW hd⟩
 unfold Yyu at h
 split at h
 ·split at h
  ·exact h.elim
  ·rename_i hb;exact plain (fun c hc => by simp [Y0t, hc] at hb) h
 ·rename_i f args hcall;obtain ⟨dst, op, type, pos, after, guard⟩ := o;unfold Y0w at hcall
  split at hcall
  ·rename_i f' l tys hop;simp only [Option.some.injEq, Prod.mk.injEq] at hcall;obtain ⟨rfl, rfl⟩ := hcall;dsimp only at hop;subst hop;obtain ⟨fv, hj, hf, h1⟩ := Yf h;unfold ylK at h1
   split at h1
   ·rename_i i;obtain ⟨vs, h2, h3⟩ := Yf2 h1;obtain ⟨it, h4, h5⟩ := Yg h3;unfold lpK at h5
    split at h5
    ·rename_i L d cs;obtain ⟨h6, h7⟩ := Ya h5;obtain ⟨val, hs, us, nw, a1, a2, a3, a4, a5⟩ := hc.round _ _ _ _ _ _ h7;obtain ⟨it', hit⟩ := Yxb a4;have : it' = .lp L (d :: cs) := by
      have := a2.all _ (Y5 hit);rw [h4] at this;exact (Option.some.inj this).symm
     subst this;exact .inl ⟨val, hs, us, nw, a1, a2, a3, Y1o hf h2 hit (Yd.1 h6) a5⟩
    ·exact h5.elim
   ·exact plain (fun c => by simp) h1
  ·cases hcall
end Go.Proofs.YtbhlmkgliflhaaaGreat
namespace Go.Proofs.YtbhlmkgliflhaaaGreat
open Go.RowKit
variable [InW]
attribute [local irreducible] Go.Oper.wp
def Ynp (ol : List Oper) (o : Oper) (tm : List AV) (run skip : Prop) : Prop :=
 match o.guard with
 | none => run
 | some (j, want) => match Yo3 ol j with
  | none => Stuck 42
  | some d => getK tm d fun v => match v with
   | .v (.bool b) => (match want with | true => vcIf b run skip | false => vcIf b skip run)
   | .sb b => (match want with | true => Vif b run skip | false => Vif b skip run)
   | .v (.tuple _) => skip
   | _ => Stuck 43
theorem Ysi {φ : Phi} {tm : List AV} {a : Act} (h : RepT φ tm a) {d : Nat} {v : AV} (hv : tm[d]? = some v) (hj : v.rd = true) : nthO a.tmps.toList d = some (v.conc φ) := by
 rw [Yfp];have := h.slot d v hv hj;simp [List.getD_eq_getElem?_getD, this]
def WantA (ol : List Oper) (o : Oper) (tm : List AV) (b : Bool) : Prop := ∀ (φ : Phi) (a : Act), (∀ t ∈ o.looksAt ol.toArray, ∀ v : AV, tm[t]? = some v -> v.rd = true -> nthO a.tmps.toList t = some (v.conc φ)) -> Region.wanted o (yielded ol.toArray a.tmps) = b
theorem Yez {ol : List Oper} {o : Oper} {j d : Nat} {b : Bool} (hg : o.guard = some (j, b)) (hd : Yo3 ol j = some d) : d ∈ o.looksAt ol.toArray := by
 rw [Yt9] at hd;simp [Oper.looksAt, hg, hd]
theorem Ye5 {ol : List Oper} {o : Oper} {tm : List AV} {run skip : Prop} (h : Ynp ol o tm run skip) : (WantA ol o tm true /\ run) \/ (WantA ol o tm false /\ skip) := by
 obtain ⟨dst, op, type, pos, after, guard⟩ := o;unfold Ynp at h;cases guard with
 | none => exact .inl ⟨fun φ a _ => rfl, h⟩
 | some jw =>
  obtain ⟨j, want⟩ := jw;dsimp only at h
  split at h
  ·exact h.elim
  ·rename_i d hd;obtain ⟨v, hv, h1⟩ := Ybn h
   split at h1
   ·rename_i b;have key : ∀ r, (b == want) = r -> WantA ol { dst, op, type, pos, after, guard := some (j, want) } tm r := fun r hr φ a hs =>
     Ypi hd (hs d (Yez rfl hd) _ hv (by simp)) hr
    cases want with
    | true =>
     rcases Yef h1 with ⟨rfl, h2⟩ | ⟨rfl, h2⟩
     ·exact .inl ⟨key true rfl, h2⟩
     ·exact .inr ⟨key false rfl, h2⟩
    | false =>
     rcases Yef h1 with ⟨rfl, h2⟩ | ⟨rfl, h2⟩
     ·exact .inr ⟨key false rfl, h2⟩
     ·exact .inl ⟨key true rfl, h2⟩
   ·rename_i b;have key : ∀ r, (b == want) = r -> WantA ol { dst, op, type, pos, after, guard := some (j, want) } tm r := fun r hr φ a hs =>
     Ypi hd (hs d (Yez rfl hd) _ hv (by simp)) hr
    cases want with
    | true =>
     rcases Vif.spec h1 with ⟨rfl, h2⟩ | ⟨rfl, h2⟩
     ·exact .inl ⟨key true rfl, h2⟩
     ·exact .inr ⟨key false rfl, h2⟩
    | false =>
     rcases Vif.spec h1 with ⟨rfl, h2⟩ | ⟨rfl, h2⟩
     ·exact .inr ⟨key false rfl, h2⟩
     ·exact .inl ⟨key true rfl, h2⟩
   ·exact .inr ⟨fun φ a hs => Yrp hd (hs d (Yez rfl hd) _ hv (by simp)), h1⟩
   ·exact h1.elim
theorem WantA.at {ol : List Oper} {o : Oper} {tm : List AV} {b : Bool} (h : WantA ol o tm b) {φ : Phi} {a : Act} (hr : RepT φ tm a) : Region.wanted o (yielded ol.toArray a.tmps) = b :=
 h φ a fun t _ v hv hj => Ysi hr hv hj
def Ye8 (F : Fence) (P : Program) (ops : Array Oper) (Q : Exit -> Act -> World -> Prop) : List Oper -> Act -> World -> Prop
 | [], a, w => Q .normal a w
 | o :: rest, a, w => if Region.wanted o (yielded ops a.tmps) then o.wpIn F 0 P a w (Ye8 F P ops Q rest) Q else Ye8 F P ops Q rest (a.put o.dst undef) w
theorem Yke {F : Fence} (hF : ∀ f, F.fn f) {P : Program} {ops : Array Oper} {Q : Exit -> Act -> World -> Prop} : ∀ (l : List Oper) (k : Nat) (a : Act) (w : World), (∀ j, l[j]? = ops[k + j]?) -> Ye8 F P ops Q l a w -> wpOpsIn F 0 P ops Q (List.range' k l.length) a w
 | [], k, a, w, _, h => h
 | o :: rest, k, a, w, hl, h => by
  have ho : ops[k]? = some o := by have := hl 0; simpa using this.symm
  have hl' : ∀ j, rest[j]? = ops[k + 1 + j]? := fun j => by have := hl (j + 1); rw [show k + 1 + j = k + (j + 1) by omega, <- this]; simp
  simp only [List.length_cons, List.range'_succ, wpOpsIn, ho];unfold Ye8 at h
  split
  ·rename_i hw;rw [if_pos hw] at h;exact Oper.wpIn_mono (fun a w h => Yke hF rest (k + 1) a w hl' h) h
  ·rename_i hw;rw [if_neg hw] at h;exact ⟨fun f _ => hF f, Yke hF rest (k + 1) _ w hl' h⟩
theorem Ykf {F : Fence} (hF : ∀ f, F.fn f) {P : Program} {id : Nat} {l : List Oper} {Q : Exit -> Act -> World -> Prop} {a : Act} {w : World} (h : Ye8 F P l.toArray Q l a w) : (Code.region id l.toArray false).wpIn F 0 P Q a w :=
 wpIn_region (by
  have := Yke hF l 0 a w (fun j => by simp) h;rw [List.range_eq_range'];simpa using this)
def Yo1 (ol : List Oper) (d : Option Tmp) : List Oper -> Bool
 | [] => false
 | p :: ps => match p.guard with
  | none => Yo1 ol d ps
  | some (j, _) => match Yo3 ol j, d with
   | some e, some d' => (match Nat.beq d' e with | true => true | false => Yo1 ol d ps)
   | _, _ => Yo1 ol d ps
def Yms (ol : List Oper) (o : Oper) (val : AV) (K : AV -> Prop) : Prop :=
 match val with
 | .sb b => (match Yo1 ol o.dst ol with | true => Vif b (K (.v (.bool true))) (K (.v (.bool false))) | false => K (.sb b))
 | v => K v
theorem Yew {ol : List Oper} {o : Oper} {val : AV} {K : AV -> Prop} (h : Yms ol o val K) : ∃ val', K val' /\ ∀ φ, val'.conc φ = val.conc φ := by
 unfold Yms at h
 split at h
 ·split at h
  ·rcases h.spec with ⟨rfl, h2⟩ | ⟨rfl, h2⟩
   ·exact ⟨_, h2, fun φ => rfl⟩
   ·exact ⟨_, h2, fun φ => rfl⟩
  ·exact ⟨_, h, fun φ => rfl⟩
 ·exact ⟨_, h, fun φ => rfl⟩
theorem DoesW.same {P : Program} {o : Oper} {tm : List AV} {hs us nw : Heap} {val val' : AV} (h : DoesW P o tm hs val us nw) (he : ∀ φ, val'.conc φ = val.conc φ) : DoesW P o tm hs val' us nw :=
 fun φ w0 M R a w K Q h1 h2 h3 kk => h φ w0 M R a w K Q h1 h2 h3 fun φ' w' h4 h5 => by rw [<- he φ']; exact kk φ' w' h4 h5
theorem Does.same {P : Program} {o : Oper} {tm : List AV} {hs us nw : Heap} {val val' : AV} (h : Does P o tm hs val us nw) (he : ∀ φ, val'.conc φ = val.conc φ) : Does P o tm hs val' us nw :=
 fun φ w0 M R a w K Q h1 h2 h3 kk => h φ w0 M R a w K Q h1 h2 h3 fun φ' w' h4 h5 => by rw [<- he φ']; exact kk φ' w' h4 h5
def Yyt (c : Cx) (ol : List Oper) : List Oper -> List AV -> Heap -> KX -> Prop
 | [], tm, hp, K => K .norm tm hp
 | o :: rest, tm, hp, K => Ynp ol o tm
   (Yyu c o tm hp (fun val hs us nw => Yms ol o val fun val => Yn1 o.dst tm hp val us nw fun tm hp => Yyt c ol rest tm hp K) (fun val hs us nw => Yn1 none tm hp val us nw fun tm hp => K (.pan val) tm hp))
   (putK tm o.dst (.v undef) fun tm => Yyt c ol rest tm hp K)
def Big (W : (Exit -> Act -> World -> Prop) -> Act -> World -> Prop) (tm : List AV) (hp : Heap) (x : AX) (tm' : List AV) (hp' : Heap) : Prop :=
 ∀ (φ0 φ : Phi) (w0 : World) (M : List Nat) (R : RL) (a : Act) (w : World), RepS φ0 φ w0 M R tm hp a w -> ∀ Q : Exit -> Act -> World -> Prop,
  (∀ φ' e a' w', x.is φ' e -> RepS φ0 φ' w0 M R tm' hp' a' w' -> a'.defers = a.defers -> Q e a' w') -> W Q a w
theorem RepS.skip {φ0 φ : Phi} {w0 : World} {M : List Nat} {R : RL} {tm : List AV} {hp : Heap} {a : Act} {w : World} (h : RepS φ0 φ w0 M R tm hp a w) (dst : Option Tmp) : RepS φ0 φ w0 M R (putA tm dst (.v undef)) hp (a.put dst undef) w :=
 ⟨h.tmps.put dst (.v undef), h.st, h.nd, h.base⟩
theorem Ybo (a : Act) (dst : Option Tmp) (v : Value) : (a.put dst v).defers = a.defers := by cases dst <;> rfl
section
variable {c : Cx} {ol : List Oper}
theorem Ygu (hc : HandOkR c) : ∀ (l : List Oper) (tm : List AV) (hp : Heap) (K : KX), Yyt c ol l tm hp K ->
  ∃ x tm' hp', K x tm' hp' /\ Big (fun Q a w => ∀ r, Ye8 (wF r) c.P ol.toArray Q l a w) tm hp x tm' hp'
 | [], tm, hp, K, h => ⟨.norm, tm, hp, h, fun φ0 φ w0 M R a w hr Q kk r => kk φ .normal a w rfl hr rfl⟩
 | o :: rest, tm, hp, K, h => by
  rcases Ye5 h with ⟨hw, h1⟩ | ⟨hw, h1⟩
  ·rcases Yki hc h1 with ⟨val, hs, us, nw, h2, hpart, hu, hd⟩ | ⟨val, hs, us, nw, h2, hpart, hu, hd⟩
   ·obtain ⟨val', h2, he⟩ := Yew h2
    replace hd := hd.same he
    obtain ⟨hB, h3⟩ := Ydx h2;obtain ⟨x, tm', hp', h4, h5⟩ := Ygu hc rest _ _ K h3;refine ⟨x, tm', hp', h4, fun φ0 φ w0 M R a w hr Q kk => ?_⟩;intro r; show Ye8 (wF r) c.P ol.toArray Q (o :: rest) a w
    unfold Ye8;rw [hw.at hr.tmps];simp only [if_true];exact Yhe hd hpart hu hB hr (fun φ' w' hr' => h5 φ0 φ' w0 M R _ w' hr' Q (fun φ2 e a' w2 hx hr2 hdf => kk φ2 e a' w2 hx hr2 (by rw [hdf, Ybo])) r) r
   ·obtain ⟨hB, h3⟩ := Ydx h2;refine ⟨.pan val, _, _, h3, fun φ0 φ w0 M R a w hr Q kk => ?_⟩;intro r; show Ye8 (wF r) c.P ol.toArray Q (o :: rest) a w
    unfold Ye8;rw [hw.at hr.tmps];simp only [if_true];have b1 := hB.1;have hS : St w0 M (Yb φ hs ++ (Yb φ (Ybt hs hp) ++ R)) w := by
     have := hr.st.perm ((Yq (hpart.perm hr.nd)).append (List.Perm.refl R));rwa [Yl, List.append_assoc] at this
    refine hd φ w0 M _ a w _ Q (hr.tmps.ops _) (fun i hi => ⟨(b1 i hi).1, Yd9 fun p hp' => Ys (b1 i hi).2 (Y5 (hpart.all p hp'))⟩) hS (fun φ' w' hag hS' => ?_) r;exact kk φ' _ a w' rfl (hr.new_heap hpart hu hB hag hS' none val) rfl
  ·have h2 := Ydo h1;obtain ⟨x, tm', hp', h4, h5⟩ := Ygu hc rest _ _ K h2;refine ⟨x, tm', hp', h4, fun φ0 φ w0 M R a w hr Q kk => ?_⟩;intro r; show Ye8 (wF r) c.P ol.toArray Q (o :: rest) a w
   unfold Ye8;rw [hw.at hr.tmps];simp only [Bool.false_eq_true, if_false];exact h5 φ0 φ w0 M R _ w (hr.skip o.dst) Q (fun φ2 e a' w2 hx hr2 hdf => kk φ2 e a' w2 hx hr2 (by rw [hdf, Ybo])) r
end
end Go.Proofs.YtbhlmkgliflhaaaGreat
namespace Go.Proofs.YtbhlmkgliflhaaaGreat
open Go.RowKit
variable [InW]
attribute [local irreducible] Go.Oper.wp
theorem Yjd {i j : Nat} (hne : i ≠ j) (x y : It) : ∀ h : Heap, upd (upd h i x) j y = upd (upd h j y) i x
 | [] => rfl
 | p :: h => by
  by_cases e1 : p.1 = i
  ·have e2 : ¬ p.1 = j := fun e => hne (e1 ▸ e);simp [upd, Yd.2 e1, Yz.2 e2]
  ·by_cases e2 : p.1 = j
   ·simp [upd, Yz.2 e1, Yd.2 e2]
   ·simp [upd, Yz.2 e1, Yz.2 e2, Yjd hne x y h]
theorem Yjo {i j : Nat} (hne : i ≠ j) (x y : It) : ∀ h : Heap, ins (upd h j y) i x = upd (ins h i x) j y
 | [] => by simp [upd, ins, Yz.2 hne]
 | p :: h => by
  cases hb : Nat.ble p.1 i with
  | true =>
   by_cases e2 : p.1 = j
   ·simp [upd, ins, hb, Yd.2 e2]
   ·simp [upd, ins, hb, Yz.2 e2, Yjo hne x y h]
  | false =>
   by_cases e2 : p.1 = j
   ·simp [upd, ins, hb, Yd.2 e2, Yz.2 hne]
   ·simp [upd, ins, hb, Yz.2 e2, Yz.2 hne]
theorem Ygp {a b : Nat} (h : a <= b) : Nat.ble a b = true := by rw [Nat.ble_eq]; exact h
theorem Ygq {a b : Nat} (h : b < a) : Nat.ble a b = false := by
 rw [<- Bool.not_eq_true, Nat.ble_eq]; omega
theorem Yjp {i j : Nat} (hne : i ≠ j) (x y : It) : ∀ h : Heap, ins (ins h i x) j y = ins (ins h j y) i x
 | [] => by
  rcases Nat.lt_or_gt_of_ne hne with h | h
  ·simp [ins, Ygp (Nat.le_of_lt h), Ygq h]
  ·simp [ins, Ygp (Nat.le_of_lt h), Ygq h]
 | p :: h => by
  by_cases h1 : p.1 <= i
  ·by_cases h2 : p.1 <= j
   ·simp [ins, Ygp h1, Ygp h2, Yjp hne x y h]
   ·have h3 : j < i := by omega
    simp [ins, Ygp h1, Ygq (show j < p.1 by omega), Ygp (Nat.le_of_lt h3)]
  ·by_cases h2 : p.1 <= j
   ·have h3 : i < j := by omega
    simp [ins, Ygp h2, Ygq (show i < p.1 by omega), Ygp (Nat.le_of_lt h3)]
   ·rcases Nat.lt_or_gt_of_ne hne with h3 | h3
    ·simp [ins, Ygq (show i < p.1 by omega), Ygq (show j < p.1 by omega), Ygp (Nat.le_of_lt h3), Ygq h3]
    ·simp [ins, Ygq (show i < p.1 by omega), Ygq (show j < p.1 by omega), Ygp (Nat.le_of_lt h3), Ygq h3]
def disj (a b : List Nat) : Prop := ∀ i ∈ a, i ∉ b
theorem disj.symm {a b : List Nat} (h : disj a b) : disj b a := fun i hi hm => h i hm hi
theorem disj.tail {p : Nat × It} {us : Heap} {b : List Nat} (h : disj (keys (p :: us)) b) : p.1 ∉ b /\ disj (keys us) b := by
 refine ⟨h p.1 (by simp [keys]), fun i hi => h i ?_⟩;simp only [keys, List.map_cons, List.mem_cons];exact .inr hi
theorem Yfa {i : Nat} {x : It} : ∀ (us h : Heap), i ∉ keys us -> Yh (upd h i x) us = upd (Yh h us) i x
 | [], h, _ => rfl
 | p :: us, h, hn => by
  simp only [keys, List.map_cons, List.mem_cons, not_or] at hn;rw [Yh, Yh, Yjd hn.1, Yfa us _ hn.2]
theorem Yfv {i : Nat} {x : It} : ∀ (us h : Heap), i ∉ keys us -> Yh (ins h i x) us = ins (Yh h us) i x
 | [], h, _ => rfl
 | p :: us, h, hn => by
  simp only [keys, List.map_cons, List.mem_cons, not_or] at hn;rw [Yh, Yh, <- Yjo hn.1, Yfv us _ hn.2]
theorem Ykk : ∀ (us vs h : Heap), disj (keys us) (keys vs) -> Yh (Yh h us) vs = Yh (Yh h vs) us
 | [], vs, h, _ => rfl
 | p :: us, vs, h, hd => by
  have := hd.tail;rw [Yh, Ykk us vs _ this.2, Yfa vs h this.1];rfl
theorem Ycj : ∀ (nw us h : Heap), disj (keys nw) (keys us) -> Yh (Yba h nw) us = Yba (Yh h us) nw
 | [], us, h, _ => rfl
 | p :: nw, us, h, hd => by
  have := hd.tail;rw [Yba, Ycj nw us _ this.2, Yfv us h this.1];rfl
theorem Yfw {i : Nat} {x : It} : ∀ (nw h : Heap), i ∉ keys nw -> Yba (ins h i x) nw = ins (Yba h nw) i x
 | [], h, _ => rfl
 | p :: nw, h, hn => by
  simp only [keys, List.map_cons, List.mem_cons, not_or] at hn;rw [Yba, Yba, Yjp hn.1, Yfw nw _ hn.2]
theorem Ylk : ∀ (a b h : Heap), disj (keys a) (keys b) -> Yba (Yba h a) b = Yba (Yba h b) a
 | [], b, h, _ => rfl
 | p :: a, b, h, hd => by
  have := hd.tail;rw [Yba, Ylk a b _ this.2, Yfw b h this.1];rfl
structure Ev where
 o : Oper
 skip : Bool
 val : AV
 hs : Heap
 us : Heap
 nw : Heap
def Ev.tm (e : Ev) (tm : List AV) : List AV := putA tm e.o.dst e.val
def Ev.hp (e : Ev) (hp : Heap) : Heap := Yba (Yh hp e.us) e.nw
structure StepE (P : Program) (ol : List Oper) (e : Ev) (tm : List AV) (hp : Heap) : Prop where
 part : PartOf e.hs hp
 sub : ∀ i ∈ keys e.us, i ∈ keys e.hs
 nd : (keys e.nw).Nodup
 mod : ∀ i ∈ keys e.nw, i % 3 ≠ 1
 run : (e.skip = true /\ WantA ol e.o tm false /\ e.val = .v undef /\ e.us = [] /\ e.nw = []) \/ (e.skip = false /\ WantA ol e.o tm true /\ DoesW P e.o tm e.hs e.val e.us e.nw)
def Ev.lacks (e : Ev) (i : Nat) : Prop := e.val.has i = false /\ hasH i e.us = false /\ hasH i e.nw = false
structure Ind (ol : List Oper) (e f : Ev) : Prop where
 ops : e.o.apart ol.toArray f.o = true
 ef : disj (keys e.us) (keys f.hs)
 fe : disj (keys f.us) (keys e.hs)
 nf : disj (keys e.nw) (keys f.hs)
 lack : ∀ i ∈ keys e.nw, f.lacks i
theorem Yo0 {i : Nat} {tm : List AV} {dst : Option Tmp} {v : AV} (h : AV.hasL i tm = false) (hv : v.has i = false) : AV.hasL i (putA tm dst v) = false := by
 cases dst with
 | none => exact h
 | some d =>
  show AV.hasL i (Yb6 tm d v) = false
  induction tm generalizing d with
  | nil => rfl
  | cons x xs ih =>
   simp only [AV.hasL, Bool.or_eq_false_iff] at h;cases d with
   | zero =>
    cases x <;> simp only [Yb6, AV.hasL, Bool.or_eq_false_iff] <;> first | exact ⟨h.1, h.2⟩ | exact ⟨Y1k hv, h.2⟩
   | succ d => simp only [Yb6, AV.hasL, Bool.or_eq_false_iff]; exact ⟨h.1, ih h.2 d⟩
theorem Y1f {h : Heap} {i : Nat} {x : It} {p : Nat × It} (hp : p ∈ upd h i x) : p ∈ h \/ (p.2 = x /\ p.1 ∈ keys h) := by
 induction h with
 | nil => cases hp
 | cons q h ih =>
  unfold upd at hp;cases hb : Nat.beq q.1 i with
  | true =>
   rw [hb] at hp;rcases List.mem_cons.1 hp with rfl | hp
   ·exact .inr ⟨rfl, by simp [keys]⟩
   ·exact .inl (List.mem_cons_of_mem _ hp)
  | false =>
   rw [hb] at hp;rcases List.mem_cons.1 hp with rfl | hp
   ·exact .inl List.mem_cons_self
   ·rcases ih hp with h1 | h1
    ·exact .inl (List.mem_cons_of_mem _ h1)
    ·exact .inr ⟨h1.1, by simp only [keys, List.map_cons, List.mem_cons]; exact .inr h1.2⟩
theorem Yzs {k i : Nat} {x : It} {h : Heap} (hh : hasH k h = false) (hx : x.has k = false) : hasH k (upd h i x) = false := Yd9 fun p hp => by
 rcases Y1f hp with h1 | ⟨h1, h2⟩
 ·exact Ys hh h1
 ·obtain ⟨q, hq, e⟩ := List.mem_map.1 h2;exact ⟨e ▸ (Ys hh hq).1, h1 ▸ hx⟩
theorem Yll {k : Nat} : ∀ (us h : Heap), hasH k h = false -> hasH k us = false -> hasH k (Yh h us) = false
 | [], h, hh, _ => hh
 | p :: us, h, hh, hu => by
  simp only [hasH, Bool.or_eq_false_iff] at hu;exact Yll us _ (Yzs hh hu.1.2) hu.2
theorem Y1g {h : Heap} {i : Nat} {x : It} {p : Nat × It} (hp : p ∈ ins h i x) : p ∈ h \/ p = (i, x) := by
 induction h with
 | nil => simpa [ins] using hp
 | cons q h ih =>
  unfold ins at hp;cases hb : Nat.ble q.1 i with
  | true =>
   rw [hb] at hp;rcases List.mem_cons.1 hp with rfl | hp
   ·exact .inl List.mem_cons_self
   ·exact (ih hp).imp (List.mem_cons_of_mem _) id
  | false =>
   rw [hb] at hp;rcases List.mem_cons.1 hp with rfl | hp
   ·exact .inr rfl
   ·exact .inl hp
theorem Ylm {k : Nat} : ∀ (us h : Heap), hasH k h = false -> hasH k us = false -> hasH k (Yba h us) = false
 | [], h, hh, _ => hh
 | p :: us, h, hh, hu => by
  simp only [hasH, Bool.or_eq_false_iff] at hu;refine Ylm us _ (Yd9 fun q hq => ?_) hu.2;rcases Y1g hq with h1 | rfl
  ·exact Ys hh h1
  ·exact ⟨Yz.1 hu.1.1, hu.1.2⟩
theorem NewFor.step {ks : List Nat} {tm : List AV} {hp : Heap} {e : Ev} (h : NewFor ks tm hp) (hl : ∀ i ∈ ks, e.lacks i) : NewFor ks (e.tm tm) (e.hp hp) := fun i hi =>
 ⟨Yo0 (h i hi).1 (hl i hi).1, Ylm _ _ (Yll _ _ (h i hi).2 (hl i hi).2.1) (hl i hi).2.2⟩
theorem NewFor.hs {ks : List Nat} {tm : List AV} {hp hs : Heap} (h : NewFor ks tm hp) (hpart : PartOf hs hp) : NewFor ks tm hs := fun i hi =>
 ⟨(h i hi).1, Yd9 fun p hp' => Ys (h i hi).2 (Y5 (hpart.all p hp'))⟩
theorem NewFor.mono_tm {ks : List Nat} {tm tm' : List AV} {hs : Heap} (h : NewFor ks tm hs) (ht : ∀ i ∈ ks, AV.hasL i tm' = false) : NewFor ks tm' hs := fun i hi => ⟨ht i hi, (h i hi).2⟩
theorem NewFor.keys {ks : List Nat} {tm : List AV} {hp : Heap} (h : NewFor ks tm hp) : disj ks (keys hp) := fun i hi hm => by
 obtain ⟨p, hp', e⟩ := List.mem_map.1 hm;exact (Ys (h i hi).2 hp').1 e
theorem Yqo {e : Ev} {tm : List AV} {hp : Heap} {ol : List Oper} {P : Program} (h : StepE P ol e tm hp) (hn : NewFor (keys e.nw) tm hp) {i : Nat} (h1 : i ∉ keys e.us) (h2 : i ∉ keys e.nw) : look (e.hp hp) i = look hp i := by
 unfold Ev.hp;rw [Yha e.nw _ h.nd (by rw [Yds]; exact hn.keys), Ybl h2, Yc5 _ _ _ h1];rfl
theorem Yj4 {tm : List AV} {dst : Option Tmp} {v : AV} {t : Nat} (h : ∀ d, dst = some d -> t ≠ d) : (putA tm dst v)[t]? = tm[t]? := by
 cases dst with
 | none => rfl
 | some d => exact Yht tm v (h d rfl)
theorem WantA.move {ol : List Oper} {o : Oper} {tm tm' : List AV} {b : Bool} (h : WantA ol o tm b) (he : ∀ t ∈ o.looksAt ol.toArray, tm[t]? = tm'[t]?) : WantA ol o tm' b := fun φ a hs => h φ a fun t ht v hv hj => hs t ht v (by rw [<- he t ht]; exact hv) hj
theorem Yne {ol : List Oper} {o : Oper} {t : Tmp} (h : Operand.tmp t ∈ o.op.operands) : t ∈ o.looksAt ol.toArray := by
 unfold Oper.looksAt;exact List.mem_append_left _ (List.mem_filterMap.2 ⟨.tmp t, by simpa using h, rfl⟩)
theorem DoesW.move {P : Program} {ol : List Oper} {o : Oper} {tm tm' : List AV} {hs us nw : Heap} {val : AV} (h : DoesW P o tm hs val us nw) (he : ∀ t ∈ o.looksAt ol.toArray, tm[t]? = tm'[t]?) (hn : NewFor (keys nw) tm hs) : DoesW P o tm' hs val us nw :=
 fun φ w0 M R a w K Q ho _ hS kk => h φ w0 M R a w K Q (fun x hx v hv hj => ho x hx v (by
  cases x with
  | tmp t =>
   have h1 : tm[t]? = some v := hv;rw [he t (Yne hx)] at h1;exact h1
  | const c => exact hv
  | global g => exact hv
  | func f => exact hv) hj) hn hS kk
theorem Yun {P : Program} {ol : List Oper} {e f : Ev} {tm : List AV} {hp : Heap} (he : StepE P ol e tm hp) (hf : StepE P ol f (e.tm tm) (e.hp hp)) (hi : Ind ol e f) (hne : NewFor (keys e.nw) tm hp) (hnf : NewFor (keys f.nw) tm hp) (hl : ∀ i ∈ keys f.nw, e.lacks i) :
  StepE P ol f tm hp /\ StepE P ol e (f.tm tm) (f.hp hp) /\ e.tm (f.tm tm) = f.tm (e.tm tm) /\ e.hp (f.hp hp) = f.hp (e.hp hp) := by
 obtain ⟨a1, a2, a3⟩ := Oper.apart_spec hi.ops;have t1 : ∀ t ∈ f.o.looksAt ol.toArray, (e.tm tm)[t]? = tm[t]? := fun t ht => Yj4 fun d hd e' => a1 d hd (e' ▸ ht);have t2 : ∀ t ∈ e.o.looksAt ol.toArray, tm[t]? = (f.tm tm)[t]? := fun t ht => (Yj4 fun d hd e' => a3 d hd (e' ▸ ht)).symm;have hfu : ∀ i ∈ keys f.us, i ∈ keys f.hs := hf.sub;have pf : PartOf f.hs hp := ⟨hf.part.nd, fun p hp' => by
  have hm : p.1 ∈ keys f.hs := List.mem_map_of_mem hp';rw [<- Yqo he hne (fun h => hi.ef _ h hm) (fun h => hi.nf _ h hm)];exact hf.part.all p hp'⟩
 have sf : StepE P ol f tm hp := by
  refine ⟨pf, hf.sub, hf.nd, hf.mod, ?_⟩;rcases hf.run with ⟨h1, h2, h3⟩ | ⟨h1, h2, h3⟩
  ·exact .inl ⟨h1, h2.move t1, h3⟩
  ·exact .inr ⟨h1, h2.move t1, h3.move t1 ((hnf.hs pf).mono_tm fun i hi' => Yo0 (hnf i hi').1 (hl i hi').1)⟩
 have hsk : ∀ i ∈ keys e.hs, i ∈ keys hp := fun i hi' => by
  obtain ⟨p, hp', rfl⟩ := List.mem_map.1 hi';exact Yca (he.part.all p hp')
 refine ⟨sf, ⟨⟨he.part.nd, fun p hp' => ?_⟩, he.sub, he.nd, he.mod, ?_⟩, ?_, ?_⟩
 ·have hm : p.1 ∈ keys e.hs := List.mem_map_of_mem hp';rw [Yqo sf hnf (fun h => hi.fe _ h hm) (fun h => hnf.keys _ h (hsk _ hm))];exact he.part.all p hp'
 ·rcases he.run with ⟨h1, h2, h3⟩ | ⟨h1, h2, h3⟩
  ·exact .inl ⟨h1, h2.move t2, h3⟩
  ·exact .inr ⟨h1, h2.move t2, h3.move t2 (hne.hs he.part)⟩
 ·unfold Ev.tm putA;cases hd : e.o.dst with
  | none => rfl
  | some d =>
   cases hd' : f.o.dst with
   | none => rfl
   | some d' =>
    have hnd : d' ≠ d := fun e' => a2 d hd (by rw [hd', e']);simp only;exact Yna _ _ _ hnd
 ·unfold Ev.hp;have d1 : disj (keys e.us) (keys f.us) := fun i h1 h2 => hi.ef i h1 (hfu i h2);have d2 : disj (keys e.nw) (keys f.us) := fun i h1 h2 => hi.nf i h1 (hfu i h2);have d3 : disj (keys f.nw) (keys e.us) := fun i h1 h2 => hnf.keys i h1 (hsk i (he.sub i h2));have d4 : disj (keys e.nw) (keys f.nw) := fun i h1 h2 => by
   obtain ⟨p, hp', e'⟩ := List.mem_map.1 h2;exact (Ys (hi.lack i h1).2.2 hp').1 e'
  rw [Ycj f.nw e.us _ d3, Ycj e.nw f.us _ d2, Ykk e.us f.us hp d1, Ylk e.nw f.nw _ d4]
end Go.Proofs.YtbhlmkgliflhaaaGreat
