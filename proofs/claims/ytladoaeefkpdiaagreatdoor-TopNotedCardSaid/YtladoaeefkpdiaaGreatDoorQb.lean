/-
  A machine over abstract states, proved sound: the help of the proof of a law.
-/
import Derived.Test.YtladoaeefkpdiaaGreatDoorQa
import Derived.MapKept
import Derived.ChangeKeysEq
set_option linter.unusedVariables false
set_option linter.unusedSectionVars false
set_option linter.unusedSimpArgs false
namespace Go.Proofs.YtladoaeefkpdiaaGreatDoor
open Go.RowKit
variable [InW]
variable {P : Program} {tm : List AV} {dst : Option Tmp} {type : TypeId} {pos : String} {after : Array Edge} {guard : Option (Nat × Bool)}
def getI : List (Int × Int) -> Int -> Int
 | [], _ => 0
 | p :: es, k => if p.1 = k then p.2 else getI es k
def setI : List (Int × Int) -> Int -> Int -> List (Int × Int)
 | [], k, v => [(k, v)]
 | p :: es, k, v => if p.1 = k then (k, v) :: es else p :: setI es k v
theorem Yxw : ∀ (es : List (Int × Int)) (n : Nat) (k v : Int), entI n (es ++ [(k, v)]) = entI n es ++ [⟨.int .i64 k, .int .i64 v, n + es.length⟩]
 | [], n, k, v => rfl
 | p :: es, n, k, v => by simp [entI, Yxw es (n + 1) k v]; omega
theorem Yxv : ∀ (es : List (Int × Int)) (n j : Nat), (entI n es)[j]? = (es[j]?).map fun p => ⟨.int .i64 p.1, .int .i64 p.2, n + j⟩
 | [], _, _ => by simp [entI]
 | p :: es, n, 0 => by simp [entI]
 | p :: es, n, j + 1 => by simp [entI, Yxv es (n + 1) j, show n + 1 + j = n + (j + 1) by omega]
theorem Ynt : ∀ (es : List (Int × Int)) (n j : Nat) (k v : Int), (entI n es).modify j (fun e => { e with key := .int .i64 k, val := .int .i64 v }) = entI n (es.set j (k, v))
 | [], n, j, k, v => by simp [entI]
 | p :: es, n, 0, k, v => by simp [entI]
 | p :: es, n, j + 1, k, v => by simp [entI, Ynt es (n + 1) j k v]
theorem Ynp (k : Int) : ∀ (es : List (Int × Int)) (n i : Nat),
  (∃ j, j < es.length /\ Instr.findNow (.int .i64) (.int .i64 k) (entI n es) i = some (some (i + j, .int .i64 (getI es k))) /\ (es[j]?).map (·.1) = some k /\ ∀ v, setI es k v = es.set j (k, v)) \/
  (Instr.findNow (.int .i64) (.int .i64 k) (entI n es) i = some none /\ getI es k = 0 /\ ∀ v, setI es k v = es ++ [(k, v)])
 | [], n, i => .inr ⟨rfl, rfl, fun v => rfl⟩
 | p :: es, n, i => by
  by_cases e : p.1 = k
  ·refine .inl ⟨0, by simp, ?_, by simp [e], fun v => by simp [setI, e]⟩;have : Instr.sameNow (.int .i64) (.int .i64 k) (.int .i64 p.1) = some true := by simp [Instr.sameNow, e]
   simp only [e] at this;simp [entI, Instr.findNow, this, getI, e]
  ·have : Instr.sameNow (.int .i64) (.int .i64 k) (.int .i64 p.1) = some false := by simp [Instr.sameNow, Ne.symm e]
   rcases Ynp k es (n + 1) (i + 1) with ⟨j, h0, h1, h2, h3⟩ | ⟨h1, h2, h3⟩
   ·exact .inl ⟨j + 1, by simpa using h0, by simp [entI, Instr.findNow, this, h1, getI, e]; omega, by simpa using h2, fun v => by simp [setI, e, h3 v]⟩
   ·exact .inr ⟨by simp [entI, Instr.findNow, this, h1], by simp [getI, e, h2], fun v => by simp [setI, e, h3 v]⟩
def Ytr (P : Program) (T : TypeId) : Bool :=
 match P.underlying T with
 | some (.map key elem) => (match P.underlying key with
  | some (.int .i64) => (match P.info? elem with
   | some i => (match i.zero with | some (.int .i64 n) => decide (n = 0) | _ => false)
   | none => false)
  | _ => false)
 | _ => false
theorem Yhp {T : TypeId} (h : Ytr P T = true) : ∃ key elem i, P.underlying T = some (.map key elem) /\ P.underlying key = some (.int .i64) /\ P.info? elem = some i /\ i.zero = some (.int .i64 0) := by
 unfold Ytr at h
 split at h
 ·rename_i key elem hu
  split at h
  ·rename_i hk
   split at h
   ·rename_i i hi
    split at h
    ·rename_i n hz;obtain rfl := of_decide_eq_true h;exact ⟨key, elem, i, hu, hk, hi, hz⟩
    ·cases h
   ·cases h
  ·cases h
 ·cases h
theorem Y6j {T : TypeId} (h : Ytr P T = true) (es : List (Int × Int)) (k : Int) (w : World) : (Yfz T (entI 0 es).toArray (.int .i64 k) false).run P w = .ok (.int .i64 (getI es k)) w := by
 obtain ⟨key, elem, i, hu, hk, hi, hz⟩ := Yhp h;have hkey : MapKept.IsKey (.int .i64) (.int .i64 k) := by simp [MapKept.IsKey]
 have hc := MapKept.run_checkKey (w := w) hk hkey (entI 0 es).toArray.isEmpty 9999;unfold Yfz;rcases Ynp k es 0 0 with ⟨j, h0, h1, h2, h3⟩ | ⟨h1, h2, h3⟩
 ·have hf := MapKept.run_findKey (w := w) hk h1;simp only [Sem.run_bind, run_underlying hu w, Result.andThen_ok, hc, hf, Sem.run_pure, Bool.false_eq_true, if_false]
 ·have hf := MapKept.run_findKey (w := w) hk h1;have hzr : (zeroValue elem).run P w = .ok (.int .i64 0) w := by simp [zeroValue, typeInfo, hi, hz]
  simp only [Sem.run_bind, run_underlying hu w, Result.andThen_ok, hc, hf, Sem.run_pure, Bool.false_eq_true, if_false, hzr, h2]
theorem Y5y {T : TypeId} (h : Ytr P T = true) (es : List (Int × Int)) (k v : Int) (w : World) : (Yfr T (entI 0 es).toArray es.length (.int .i64 k) (.int .i64 v)).run P w = .ok ((entI 0 (setI es k v)).toArray, (setI es k v).length) w := by
 obtain ⟨key, elem, i, hu, hk, hi, hz⟩ := Yhp h;have hkey : MapKept.IsKey (.int .i64) (.int .i64 k) := by simp [MapKept.IsKey]
 have hc := MapKept.run_checkKey (w := w) hk hkey false 9999;unfold Yfr;rcases Ynp k es 0 0 with ⟨j, h0, h1, h2, h3⟩ | ⟨h1, h2, h3⟩
 ·have hf := MapKept.run_findKey (w := w) hk h1;rw [Nat.zero_add] at hf;have hget : ((entI 0 es).toArray[j]?.map (·.key)).getD (.int .i64 k) = .int .i64 k := by
   simp only [List.getElem?_toArray, Yxv];cases hj : es[j]? with
   | none => rfl
   | some p => rw [hj] at h2; simp at h2; simp [h2]
  have hs := MapKept.run_keyThatStays (P := P) (w := w) hkey;have hm : ((entI 0 es).toArray.modify j fun e => { e with key := .int .i64 k, val := .int .i64 v }) = (entI 0 (setI es k v)).toArray := by
   rw [h3 v, <- Ynt];apply Array.ext';simp
  have hlen : (setI es k v).length = es.length := by rw [h3 v]; simp
  simp only [Sem.run_bind, run_underlying hu w, Result.andThen_ok, hc, hf, hget, hs, Sem.run_pure, hm, hlen]
 ·have hf := MapKept.run_findKey (w := w) hk h1;have hp : (entI 0 es).toArray.push { key := .int .i64 k, val := .int .i64 v, born := es.length } = (entI 0 (setI es k v)).toArray := by
   rw [h3 v, Yxw];simp
  have hlen : (setI es k v).length = es.length + 1 := by rw [h3 v]; simp
  simp only [Sem.run_bind, run_underlying hu w, Result.andThen_ok, hc, hf, Sem.run_pure, hp, hlen]
theorem Y2g {T : TypeId} {x ix : Operand} {id : Nat} {es : List (Int × Int)} {iv : AV} {k : Int} (h : Ytr P T = true) (hx : At tm x (.mp id)) (hi : At tm ix iv) (hj : iv.rd = true) (hk : ∀ φ, iv.conc φ = .int .i64 k) :
  Does P { dst, op := .lookup T x ix false, type, pos, after, guard } tm [(id, .obj (.mpI es))] (.si .i64 (getI es k)) [] [] := by
 obtain ⟨key, elem, i, hu, _⟩ := Yhp h;exact fun φ w0 M R a w K Q ho hn hS kk => Yr1 (v := .int .i64 (getI es k)) (es := entI 0 es) (clock := es.length) hu hx hi hj hk (fun w => Y6j h es k w) φ w0 M R a w K Q ho (fun j hj => ⟨(hn j hj).1, (hn j hj).2⟩) hS kk
theorem Y17 {T : TypeId} {x ix y : Operand} {id : Nat} {es : List (Int × Int)} {iv yv : AV} {k v : Int} (h : Ytr P T = true) (hx : At tm x (.mp id)) (hi : At tm ix iv) (hj : iv.rd = true) (hk : ∀ φ, iv.conc φ = .int .i64 k) (hy : At tm y yv) (hyj : yv.rd = true) (hyk : ∀ φ, yv.conc φ = .int .i64 v) :
  Does P { dst, op := .mapUpdate T x ix y, type, pos, after, guard } tm [(id, .obj (.mpI es))] (.v undef) [(id, .obj (.mpI (setI es k v)))] [] := by
 obtain ⟨key, elem, i, hu, _⟩ := Yhp h;have := Yrz (P := P) (tm := tm) (dst := dst) (type := type) (pos := pos) (after := after) (guard := guard) (es := entI 0 es) (clock := es.length) (id := id) hu hx hi hj hk hy hyj hyk (r := ((entI 0 (setI es k v)).toArray, (setI es k v).length)) (fun w => Y5y h es k v w);exact fun φ w0 M R a w K Q ho hn hS kk => this φ w0 M R a w K Q ho (fun j hj => ⟨(hn j hj).1, (hn j hj).2⟩) hS (fun φ' w' hag hS' => kk φ' w' hag (by simpa [Yh, upd, Nat.beq_refl, Yb, It.conc, OI.obj] using hS'))
end Go.Proofs.YtladoaeefkpdiaaGreatDoor
namespace Go.Proofs.YtladoaeefkpdiaaGreatDoor
open Go.RowKit
variable [InW]
attribute [local irreducible] Go.Oper.wp
section
variable {P : Program} {tm : List AV} {dst : Option Tmp} {type : TypeId} {pos : String} {after : Array Edge} {guard : Option (Nat × Bool)}
def Y1g (lit : Bool) (b : Bool) (A : Prop) : Prop := match lit with | true => Yc b A | false => Need b A
theorem Yhn {lit b : Bool} {A : Prop} (h : Y1g lit b A) : b = true /\ A := by
 cases lit
 ·exact Y5a.1 h
 ·exact Ya h
def andI (k : IntKind) (m n : Int) : Int := k.wrap (BitVec.ofInt k.bits m &&& BitVec.ofInt k.bits n).toNat
def orI (k : IntKind) (m n : Int) : Int := k.wrap (BitVec.ofInt k.bits m ||| BitVec.ofInt k.bits n).toNat
def xorI (k : IntKind) (m n : Int) : Int := k.wrap (BitVec.ofInt k.bits m ^^^ BitVec.ofInt k.bits n).toNat
def Y26 (k : IntKind) (m n : Int) : Int := k.wrap (BitVec.ofInt k.bits m &&& ~~~(BitVec.ofInt k.bits n)).toNat
abbrev K1 := AV -> Prop
def arK (k : IntKind) (n : Int) (K : K1) : Prop := Ar k n fun z => K (.si k z)
def binI (op : BinOp) (ka kb : IntKind) (m n : Int) (lit : Bool) (K : K1) : Prop :=
 match op with
 | .shl => Y1g lit (decide (0 <= n)) (arK ka (m * 2 ^ (min n.toNat ka.bits)) K)
 | .shr => Y1g lit (decide (0 <= n)) (K (.si ka (m.fdiv (2 ^ (min n.toNat ka.bits)))))
 | .add => Yc (decide (ka = kb)) (arK ka (m + n) K)
 | .sub => Yc (decide (ka = kb)) (arK ka (m - n) K)
 | .mul => Yc (decide (ka = kb)) (arK ka (m * n) K)
 | .quo => Yc (decide (ka = kb)) (Y1g lit (!decide (n = 0)) (arK ka (m.tdiv n) K))
 | .rem => Yc (decide (ka = kb)) (Y1g lit (!decide (n = 0)) (K (.si ka (m.tmod n))))
 | .and => Yc (decide (ka = kb)) (K (.si ka (andI ka m n)))
 | .or => Yc (decide (ka = kb)) (K (.si ka (orI ka m n)))
 | .xor => Yc (decide (ka = kb)) (K (.si ka (xorI ka m n)))
 | .andNot => Yc (decide (ka = kb)) (K (.si ka (Y26 ka m n)))
 | .eql => Yc (decide (ka = kb)) (K (.sb (decide (m = n))))
 | .neq => Yc (decide (ka = kb)) (K (.sb (!decide (m = n))))
 | .lss => Yc (decide (ka = kb)) (K (.sb (decide (m < n))))
 | .leq => Yc (decide (ka = kb)) (K (.sb (decide (m <= n))))
 | .gtr => Yc (decide (ka = kb)) (K (.sb (decide (n < m))))
 | .geq => Yc (decide (ka = kb)) (K (.sb (decide (n <= m))))
def Yjz (P : Program) (op : BinOp) (T : TypeId) (x y : Operand) (u v r : Value) : Prop := ∀ w, (do eqGuard op T x y u v; binOp op T u v : Sem Value).run P w = .ok r w
theorem d_bin {op : BinOp} {T T' : TypeId} {x y : Operand} {a b r : AV} (hx : At tm x a) (hy : At tm y b) (ja : a.rd = true) (jb : b.rd = true) (h : ∀ φ, Yjz P op T x y (a.conc φ) (b.conc φ) (r.conc φ)) : Does P { dst, op := .binOp op T x y T', type, pos, after, guard } tm [] r [] [] :=
 fun φ w0 M R ac w K Q ho _ hS kk => Y5f (ho.ev (by simp [Op.operands]) hx ja) (ho.ev (by simp [Op.operands]) hy jb) (h φ w) (kk φ w (Agree.refl _ _) hS)
theorem Yn5 {op : BinOp} {ka kb : IntKind} {m n : Int} {lit : Bool} {K : K1} (h : binI op ka kb m n lit K) (T : TypeId) (x y : Operand) : ∃ r, K r /\ ∀ φ, Yjz P op T x y (.int ka m) (.int kb n) (r.conc φ) := by
 cases op <;> dsimp only [binI] at h
 case shl =>
  obtain ⟨h1, ⟨h2⟩⟩ := Yhn h;refine ⟨_, h2, fun φ w => ?_⟩;have : ¬ n < 0 := by simpa using h1
  simp [eqGuard, binOp, Op.shift, this, AV.conc]
 case shr =>
  obtain ⟨h1, h2⟩ := Yhn h;refine ⟨_, h2, fun φ w => ?_⟩;have : ¬ n < 0 := by simpa using h1
  simp [eqGuard, binOp, Op.shift, this, AV.conc]
 case quo =>
  obtain ⟨h0, h⟩ := Ya h;obtain ⟨h1, ⟨h2⟩⟩ := Yhn h;obtain rfl := of_decide_eq_true h0;refine ⟨_, h2, fun φ w => ?_⟩;have : ¬ n = 0 := by simpa using h1
  simp [eqGuard, binOp, Op.intDiv, this, AV.conc]
 case rem =>
  obtain ⟨h0, h⟩ := Ya h;obtain ⟨h1, h2⟩ := Yhn h;obtain rfl := of_decide_eq_true h0;refine ⟨_, h2, fun φ w => ?_⟩;have : ¬ n = 0 := by simpa using h1
  simp [eqGuard, binOp, Op.intDiv, this, AV.conc]
 case add | sub | mul =>
  obtain ⟨h0, ⟨h1⟩⟩ := Ya h;obtain rfl := of_decide_eq_true h0;exact ⟨_, h1, fun φ w => by simp [eqGuard, binOp, Op.intArith, AV.conc]⟩
 all_goals
  obtain ⟨h0, h1⟩ := Ya h;obtain rfl := of_decide_eq_true h0;refine ⟨_, h1, fun φ w => ?_⟩
 case and | or | xor | andNot => simp [eqGuard, binOp, Op.intBits, AV.conc, andI, orI, xorI, Y26]
 case lss | leq | gtr | geq => simp [eqGuard, binOp, Op.intCmp, AV.conc]
 case eql | neq => simp [eqGuard, binOp, Op.intCmp, AV.conc]; rfl
theorem Ylc {d : Nat} {T : TypeId} (hu : P.underlying T = some .bool) (p q : Bool) (w : World) : (Op.equalIn (d + 1) T (.bool p) (.bool q)).run P w = .ok (p == q) w := by
 simp [Op.equalIn, Sem.run_bind, run_underlying hu w]
theorem Yhy {T : TypeId} (hu : P.underlying T = some .bool) (p q : Bool) (w : World) : (Op.equal T (.bool p) (.bool q)).run P w = .ok (p == q) w := Ylc (d := 9999) hu p q w
def binB (P : Program) (op : BinOp) (T : TypeId) (p q : Bool) (K : K1) : Prop :=
 match P.underlying T with
 | some .bool => (match op with | .eql => K (.sb (p == q)) | .neq => K (.sb (!(p == q))) | _ => Stuck 301)
 | _ => Stuck 302
theorem Yn6 {op : BinOp} {T : TypeId} {p q : Bool} {K : K1} (h : binB P op T p q K) (x y : Operand) : ∃ r, K r /\ ∀ φ, Yjz P op T x y (.bool p) (.bool q) (r.conc φ) := by
 unfold binB at h
 split at h
 ·rename_i hu;cases op <;> simp only at h
  case eql => exact ⟨_, h, fun φ w => by simp [eqGuard, binOp, Yhy hu, AV.conc, Sem.run_bind]⟩
  case neq => exact ⟨_, h, fun φ w => by simp [eqGuard, binOp, Yhy hu, AV.conc, Sem.run_bind]⟩
  all_goals exact h.elim
 ·exact h.elim
def eqS (s t : ByteArray) : Bool := s.toList == t.toList
theorem eqS_iff {s t : ByteArray} : eqS s t = true ↔ s = t := by
 unfold eqS;rw [beq_iff_eq, ByteArray.toList_eq, ByteArray.toList_eq];constructor
 ·intro h;cases s; cases t;exact congrArg _ (Array.ext' h)
 ·rintro rfl; rfl
def binS (op : BinOp) (s t : ByteArray) (K : K1) : Prop :=
 match op with | .eql => K (.sb (eqS s t)) | .neq => K (.sb (!eqS s t)) | _ => Stuck 303
theorem Yn4 {op : BinOp} {T : TypeId} {s t : ByteArray} {K : K1} (h : binS op s t K) (x y : Operand) : ∃ r, K r /\ ∀ φ, Yjz P op T x y (.string s) (.string t) (r.conc φ) := by
 unfold binS at h;cases op <;> simp only at h
 case eql => exact ⟨_, h, fun φ w => by simp [eqGuard, binOp, Op.stringOp, eqS, AV.conc]⟩
 case neq => exact ⟨_, h, fun φ w => by simp [eqGuard, binOp, Op.stringOp, eqS, AV.conc]⟩
 all_goals exact h.elim
def eq1K (P : Program) (T : TypeId) (a b : AV) (K : Bool -> Bool -> Prop) : Prop :=
 match P.underlying T with
 | some (.int k) => (match a, b with
  | .si ka m, .si kb n => Yc (decide (ka = kb)) (K false (decide (m = n)))
  | .si ka m, .v (.int kb n) => Yc (decide (ka = kb)) (K false (decide (m = n)))
  | .v (.int ka m), .si kb n => Yc (decide (ka = kb)) (K false (decide (m = n)))
  | .v (.int ka m), .v (.int kb n) => Yc (decide (ka = kb)) (K true (decide (m = n)))
  | _, _ => Stuck 360)
 | some .bool => (match a, b with
  | .sb p, .sb q => K false (p == q)
  | .sb p, .v (.bool q) => K false (p == q)
  | .v (.bool p), .sb q => K false (p == q)
  | .v (.bool p), .v (.bool q) => K true (p == q)
  | _, _ => Stuck 361)
 | some .string => (match a, b with
  | .ss s, .ss t => K false (eqS s t)
  | .ss s, .v (.string t) => K false (eqS s t)
  | .v (.string s), .ss t => K false (eqS s t)
  | .v (.string s), .v (.string t) => K true (eqS s t)
  | _, _ => Stuck 362)
 | _ => Stuck 363
def Yhv (x : AV) (K : List AV -> Prop) : Prop := match x with | .agg xs => K xs | .v (.agg cs) => K (cs.toList.map .v) | _ => Stuck 364
def Ylh (P : Program) (T : TypeId) : Bool := match P.underlying T with | some (.struct _) => true | _ => false
def Y7d (P : Program) (T : TypeId) : Option Bool := (P.underlying T).map fun d => match d with | .struct _ | .array _ _ => true | _ => false
def subK (P : Program) (T : TypeId) (xs : List AV) (off : Nat) (K : AV -> Prop) : Prop :=
 match Y7d P T with
 | some true => (match (P.info? T).map (·.size) with | some n => K (.agg ((xs.drop off).take n)) | none => Stuck 365)
 | some false => getK xs off fun x => Yxc x K
 | none => Stuck 366
def Y6t (P : Program) (rec : TypeId -> AV -> AV -> (Bool -> Bool -> Prop) -> Prop) (xs ys : List AV) : List Field -> (Bool -> Bool -> Prop) -> Prop
 | [], K => K true true
 | f :: fs, K => Yc (f.name != "_") (subK P f.type xs f.offset fun a => subK P f.type ys f.offset fun b => rec f.type a b fun l1 r1 => Y6t P rec xs ys fs fun l2 r2 => K (l1 && l2) (r1 && r2))
def Y48 (P : Program) (T : TypeId) : Option (Nat × TypeId × Nat) := match P.underlying T with | some (.array n e) => (P.info? e).map fun _ => (n, e, P.cellsOf e) | _ => none
def Y6s (P : Program) (rec : TypeId -> AV -> AV -> (Bool -> Bool -> Prop) -> Prop) (e : TypeId) (c : Nat) (xs ys : List AV) : List Nat -> (Bool -> Bool -> Prop) -> Prop
 | [], K => K true true
 | i :: is, K => subK P e xs (i * c) fun a => subK P e ys (i * c) fun b => rec e a b fun l1 r1 => Y6s P rec e c xs ys is fun l2 r2 => K (l1 && l2) (r1 && r2)
def eqK (P : Program) : Nat -> TypeId -> AV -> AV -> (Bool -> Bool -> Prop) -> Prop
 | 0, _, _, _, _ => Stuck 367
 | d + 1, T, a, b, K => match Ylh P T with
  | true => Yhv a fun xs => Yhv b fun ys => Yc (!P.stoodInHeld T) (Y6t P (eqK P d) xs ys (P.fieldsOf T).toList K)
  | false => (match Y48 P T with
   | some (n, e, c) => Yhv a fun xs => Yhv b fun ys => Y6s P (eqK P d) e c xs ys (List.range n) K
   | none => eq1K P T a b K)
theorem Y11 {T : TypeId} {a b : AV} {K : Bool -> Bool -> Prop} (h : eq1K P T a b K) : ∃ l r, K l r /\ ∀ φ d w, (Op.equalIn (d + 1) T (a.conc φ) (b.conc φ)).run P w = .ok r w := by
  have hb : ∀ (m n : Int), (m == n) = decide (m = n) := fun m n => by by_cases e : m = n <;> simp [e]
  unfold eq1K at h
  split at h
  · rename_i k hu
    split at h <;> first
      | exact h.elim
      | (obtain ⟨h1, h2⟩ := Ya h
         obtain rfl := of_decide_eq_true h1;exact ⟨_, _, h2, fun φ d w => by simp only [AV.conc, run_equalIn_int w d T _ _ _ _ hu, hb]⟩)
  · rename_i hu
    split at h <;> first
      | exact h.elim
      | exact ⟨_, _, h, fun φ d w => by simp only [AV.conc, run_equalIn_bool' w d T _ _ hu]⟩
  · rename_i hu
    split at h <;> first
      | exact h.elim
      | exact ⟨_, _, h, fun φ d w => by simp only [AV.conc, run_equalIn_string w d T _ _ hu, eqS]⟩
  · exact h.elim
theorem Yd3 {x : AV} {K : List AV -> Prop} (h : Yhv x K) : ∃ xs, K xs /\ ∀ φ, x.conc φ = .agg (AV.concL φ xs).toArray := by
 unfold Yhv at h
 split at h
 ·exact ⟨_, h, fun φ => rfl⟩
 ·exact ⟨_, h, fun φ => by simp [AV.conc, Yw, Function.comp_def]⟩
 ·exact h.elim
theorem Ygg {T : TypeId} {xs : List AV} {off : Nat} {K : AV -> Prop} (h : subK P T xs off K) : ∃ x, K x /\ ∀ φ w, (part T (AV.concL φ xs).toArray off).run P w = .ok (x.conc φ) w := by
 unfold subK at h
 split at h
 ·rename_i hw
  split at h
  ·rename_i n hn;refine ⟨_, h, fun φ w => ?_⟩;have ha : Yfp P T true := hw;have hs : Ycd P T n := hn;have e : (AV.concL φ xs).toArray.extract off (off + n) = (AV.concL φ ((xs.drop off).take n)).toArray := by
    simp [Yw, List.map_take, List.map_drop]
   simp only [part, Sem.run_bind, Yc2 ha, Result.andThen_ok, if_true, Ybc hs, Sem.run_pure, e, AV.conc]
  ·exact h.elim
 ·rename_i hw;obtain ⟨x, hx, h2⟩ := Ybh h;obtain ⟨_, h3⟩ := Yif h2;refine ⟨_, h3, fun φ w => ?_⟩;have ha : Yfp P T false := hw;have e : (AV.concL φ xs).toArray[off]? = some (x.conc φ) := by simp [Yw, hx]
  simp only [part, Sem.run_bind, Yc2 ha, Result.andThen_ok, Bool.false_eq_true, if_false, e, Sem.run_pure]
 ·exact h.elim
theorem Yqe {d : Nat} {rec : TypeId -> AV -> AV -> (Bool -> Bool -> Prop) -> Prop} (hrec : ∀ T a b K, rec T a b K -> ∃ l r, K l r /\ ∀ φ D w, (Op.equalIn (D + d) T (a.conc φ) (b.conc φ)).run P w = .ok r w) {xs ys : List AV} :
  ∀ {fs : List Field} {K : Bool -> Bool -> Prop}, Y6t P rec xs ys fs K -> ∃ l r, K l r /\ ∀ φ D w, (Op.eqFields (D + d) (AV.concL φ xs).toArray (AV.concL φ ys).toArray fs).run P w = .ok r w
 | [], K, h => ⟨_, _, h, fun φ D w => rfl⟩
 | f :: fs, K, h => by
  obtain ⟨h1, h2⟩ := Ya h;obtain ⟨a, h3, h4⟩ := Ygg h2;obtain ⟨b, h5, h6⟩ := Ygg h3;obtain ⟨l1, r1, h7, h8⟩ := hrec _ _ _ _ h5;obtain ⟨l2, r2, h9, h10⟩ := Yqe hrec h7;refine ⟨_, _, h9, fun φ D w => ?_⟩;have hn : f.name ≠ "_" := by simpa using h1
  simp only [Op.eqFields, Sem.run_ite, hn, ne_eq, not_false_eq_true, if_true, Sem.run_bind, h4 φ w, Result.andThen_ok, h6 φ w, h8 φ D w];cases r1
  ·simp [Sem.run_pure]
  ·simpa using h10 φ D w
theorem Yqd {d : Nat} {rec : TypeId -> AV -> AV -> (Bool -> Bool -> Prop) -> Prop} (hrec : ∀ T a b K, rec T a b K -> ∃ l r, K l r /\ ∀ φ D w, (Op.equalIn (D + d) T (a.conc φ) (b.conc φ)).run P w = .ok r w) {e : TypeId} {c : Nat} {xs ys : List AV} :
  ∀ {is : List Nat} {K : Bool -> Bool -> Prop}, Y6s P rec e c xs ys is K -> ∃ l r, K l r /\ ∀ φ D w, (Op.eqItems (D + d) e c (AV.concL φ xs).toArray (AV.concL φ ys).toArray is).run P w = .ok r w
 | [], K, h => ⟨_, _, h, fun φ D w => rfl⟩
 | i :: is, K, h => by
  obtain ⟨a, h3, h4⟩ := Ygg h;obtain ⟨b, h5, h6⟩ := Ygg h3;obtain ⟨l1, r1, h7, h8⟩ := hrec _ _ _ _ h5;obtain ⟨l2, r2, h9, h10⟩ := Yqd hrec h7;refine ⟨_, _, h9, fun φ D w => ?_⟩;simp only [Op.eqItems, Sem.run_bind, h4 φ w, Result.andThen_ok, h6 φ w, h8 φ D w];cases r1
  ·simp [Sem.run_pure]
  ·simpa using h10 φ D w
theorem Ylr : ∀ (d : Nat) (T : TypeId) (a b : AV) (K : Bool -> Bool -> Prop), eqK P d T a b K -> ∃ l r, K l r /\ ∀ φ D w, (Op.equalIn (D + d) T (a.conc φ) (b.conc φ)).run P w = .ok r w
 | 0, _, _, _, _, h => h.elim
 | d + 1, T, a, b, K, h => by
  unfold eqK at h
  split at h
  ·rename_i hs;obtain ⟨xs, h1, e1⟩ := Yd3 h;obtain ⟨ys, h2, e2⟩ := Yd3 h1;obtain ⟨h3, h4⟩ := Ya h2;obtain ⟨l, r, h5, h6⟩ := Yqe (d := d) (fun T a b K => Ylr d T a b K) h4;refine ⟨l, r, h5, fun φ D w => ?_⟩;have hu : P.underlying T = some (.struct (P.fieldsOf T)) := by
    unfold Ylh at hs;unfold Program.fieldsOf
    split at hs
    ·rename_i fs hu; rw [hu]
    ·cases hs
   rw [e1, e2, show D + (d + 1) = (D + d) + 1 from rfl, run_equalIn_struct w (D + d) T _ _ hu (by simpa using h3)];exact h6 φ D w
  ·split at h
   ·rename_i n e c ha;obtain ⟨xs, h1, e1⟩ := Yd3 h;obtain ⟨ys, h2, e2⟩ := Yd3 h1;obtain ⟨l, r, h5, h6⟩ := Yqd (d := d) (fun T a b K => Ylr d T a b K) h2;refine ⟨l, r, h5, fun φ D w => ?_⟩;unfold Y48 at ha
    split at ha
    ·rename_i n' e' hu;rw [Option.map_eq_some_iff] at ha;obtain ⟨i, hi, he⟩ := ha;cases he;rw [e1, e2, show D + (d + 1) = (D + d) + 1 from rfl, run_equalIn_array w (D + d) _ _ hu hi];exact h6 φ D w
    ·cases ha
   ·obtain ⟨l, r, h1, h2⟩ := Y11 h;exact ⟨l, r, h1, fun φ D w => h2 φ (D + d) w⟩
def binA (P : Program) (op : BinOp) (T : TypeId) (a b : AV) (K : K1) : Prop :=
 match op with
 | .eql => Yc (!P.eqGuardType P.depth T && (Ylh P T || (Y48 P T).isSome)) (eqK P 9 T a b fun l r => match l with | false => K (.sb r) | true => (match r with | true => K (.v (.bool true)) | false => K (.v (.bool false))))
 | .neq => Yc (!P.eqGuardType P.depth T && (Ylh P T || (Y48 P T).isSome)) (eqK P 9 T a b fun l r => match l with | false => K (.sb (!r)) | true => (match r with | true => K (.v (.bool false)) | false => K (.v (.bool true))))
 | _ => Stuck 368
theorem Yn7 {op : BinOp} {T : TypeId} {a b : AV} {K : K1} (h : binA P op T a b K) (x y : Operand) (ha : ∀ φ, ∃ xs, a.conc φ = .agg xs) (hb : ∀ φ, ∃ xs, b.conc φ = .agg xs) : ∃ r, K r /\ ∀ φ, Yjz P op T x y (a.conc φ) (b.conc φ) (r.conc φ) := by
 unfold binA at h
 split at h
 ·obtain ⟨h1, h2⟩ := Ya h;simp only [Bool.and_eq_true, Bool.not_eq_true'] at h1;obtain ⟨l, r, h3, h4⟩ := Ylr _ _ _ _ _ h2;have fin : ∀ v : AV, (∀ φ, v.conc φ = .bool r) -> K v -> ∃ r, K r /\ ∀ φ, Yjz P .eql T x y (a.conc φ) (b.conc φ) (r.conc φ) := fun v hv hk => by
   refine ⟨v, hk, fun φ w => ?_⟩;obtain ⟨xs, ea⟩ := ha φ;obtain ⟨ys, eb⟩ := hb φ;have h5 := h4 φ 9991 w;rw [ea, eb] at h5 ⊢;simp only [Sem.run_bind, run_eqGuard_agg w .eql T x y xs ys h1.1, Result.andThen_ok, run_eql_struct, h5, hv]
  cases l
  ·exact fin _ (fun φ => rfl) h3
  ·cases r
   ·exact fin _ (fun φ => rfl) h3
   ·exact fin _ (fun φ => rfl) h3
 ·obtain ⟨h1, h2⟩ := Ya h;simp only [Bool.and_eq_true, Bool.not_eq_true'] at h1;obtain ⟨l, r, h3, h4⟩ := Ylr _ _ _ _ _ h2;have fin : ∀ v : AV, (∀ φ, v.conc φ = .bool (!r)) -> K v -> ∃ r, K r /\ ∀ φ, Yjz P .neq T x y (a.conc φ) (b.conc φ) (r.conc φ) := fun v hv hk => by
   refine ⟨v, hk, fun φ w => ?_⟩;obtain ⟨xs, ea⟩ := ha φ;obtain ⟨ys, eb⟩ := hb φ;have h5 := h4 φ 9991 w;rw [ea, eb] at h5 ⊢;simp only [Sem.run_bind, run_eqGuard_agg w .neq T x y xs ys h1.1, Result.andThen_ok, run_neq_struct, h5, hv]
  cases l
  ·exact fin _ (fun φ => rfl) h3
  ·cases r
   ·exact fin _ (fun φ => rfl) h3
   ·exact fin _ (fun φ => rfl) h3
 ·exact h.elim
end
end Go.Proofs.YtladoaeefkpdiaaGreatDoor
namespace Go.Proofs.YtladoaeefkpdiaaGreatDoor
open Go.RowKit
variable [InW]
attribute [local irreducible] Go.Oper.wp
section
variable {P : Program} {tm : List AV} {dst : Option Tmp} {type : TypeId} {pos : String} {after : Array Edge} {guard : Option (Nat × Bool)}
noncomputable def Y5s : (t : Ty) -> (u : Value) -> (c : Cl) -> RdV t u c -> AV
 | .int k, _, c, _ => .si k c.int
 | .bool, _, c, _ => .sb c.bool
 | .str, _, c, _ => .ss c.str
 | .sl ts, u, c, h => .rs ts ⟨(u, c.lst), h.lst⟩
theorem Ywr (φ : Phi) (t : Ty) (u : Value) (c : Cl) (h : RdV t u c) : (Y5s t u c h).conc φ = u := by
 cases t with
 | int k => exact h.isInt.symm
 | bool => exact h.isBool.symm
 | str => exact h.isStr.symm
 | sl ts => rfl
noncomputable def Ypj {ts : List Ty} (r : Ro ts) (i k : Nat) : AV := Y5s (tyAt ts k) (r.val i k) (cel r.xs i k) (r.ok i k)
noncomputable def Ye0 {ts : List Ty} (r : Ro ts) (i : Nat) : Nat -> Nat -> List AV
 | _, 0 => []
 | k, n + 1 => Ypj r i k :: Ye0 r i (k + 1) n
theorem Ymy {ts : List Ty} (r : Ro ts) (i : Nat) : ∀ (n k j : Nat), (Ye0 r i k n)[j]? = if j < n then some (Ypj r i (k + j)) else none
 | 0, k, j => by simp [Ye0]
 | n + 1, k, 0 => by simp [Ye0]
 | n + 1, k, j + 1 => by simp [Ye0, Ymy r i n (k + 1) j, show k + 1 + j = k + (j + 1) by omega]
theorem Yhz {ts : List Ty} (r : Ro ts) (i : Nat) : ∀ (n k : Nat), (Ye0 r i k n).length = n
 | 0, _ => rfl
 | n + 1, k => by simp [Ye0, Yhz r i n]
def Yie (t : Ty) (c : Cl) : AV :=
 match t with
 | .int k => .si k c.int
 | .bool => .sb c.bool
 | .str => .ss c.str
 | .sl _ => .v (.slice none 0 0)
theorem Yey (φ : Phi) (t : Ty) (c : Cl) : (Yie t c).conc φ = t.val c := by cases t <;> rfl
noncomputable def Ydn (ts : List Ty) (xs : Dt) (i : Nat) : Nat -> Nat -> List AV
 | _, 0 => []
 | k, n + 1 => Yie (tyAt ts k) (cel xs i k) :: Ydn ts xs i (k + 1) n
theorem Yk2 (ts : List Ty) (xs : Dt) (i : Nat) : ∀ (n k j : Nat), (Ydn ts xs i k n)[j]? = if j < n then some (Yie (tyAt ts (k + j)) (cel xs i (k + j))) else none
 | 0, k, j => by simp [Ydn]
 | n + 1, k, 0 => by simp [Ydn]
 | n + 1, k, j + 1 => by simp [Ydn, Yk2 ts xs i n (k + 1) j, show k + 1 + j = k + (j + 1) by omega]
theorem Ygs (ts : List Ty) (xs : Dt) (i : Nat) : ∀ (n k : Nat), (Ydn ts xs i k n).length = n
 | 0, _ => rfl
 | n + 1, k => by simp [Ydn, Ygs ts xs i n]
theorem Y1v {w0 w : World} {M : List Nat} {L : RL} (h : St w0 M L w) {p : Addr} {v : Value} (hb : p.block < InW.B) (hv : InW.w.cell? p = some v) : w.cell? p = some v := (h.belowIn.cell hb).trans hv
theorem Y2k {T e sz by_ : Nat} {zs : List AV} {x ix : Operand} {ts : List Ty} {r : Ro ts} {iv : AV} {kd : IntKind} {i : Int} (ht : (mkTI P T).slice = some (e, sz, by_, zs)) (hsz : sz = ts.length) (hx : At tm x (.rs ts r)) (hi : At tm ix iv) (hij : iv.rd = true) (hiv : ∀ φ, iv.conc φ = .int kd i)
  (h0 : 0 <= i) (h1 : i < (r.xs.length : Int)) : Does P { dst, op := .indexAddr T x ix, type, pos, after, guard } tm [] (.rp ts r i.toNat 0) [] [] :=
 fun φ w0 M R a w K Q ho _ hS kk => by
  subst hsz;obtain ⟨A, c, hv, _, _, u, h2, _⟩ := r.inv;obtain ⟨b, off, rfl, hb, _⟩ := h2 (fun e => by rw [e] at h1; simp at h1; omega);have e1 := ho.ev (x := x) (by simp [Op.operands]) hx (by simp);have e2 := ho.ev (x := ix) (by simp [Op.operands]) hi hij;simp only [AV.conc, hv] at e1;rw [hiv φ] at e2;refine Ym5 (Yi ht φ).1 e1 e2 h0 h1 rfl ?_;have := kk φ w (Agree.refl _ _) hS;simpa [AV.conc, hv, Ycy] using this
theorem Y2m {T : TypeId} {x : Operand} {j off i k : Nat} {ts : List Ty} {r : Ro ts} (hf : Yha P T j off) (hx : At tm x (.rp ts r i k)) : Does P { dst, op := .fieldAddr T x j, type, pos, after, guard } tm [] (.rp ts r i (k + off)) [] [] :=
 fun φ w0 M R a w K Q ho _ hS kk => by
  have e1 := ho.ev (x := x) (by simp [Op.operands]) hx (by simp);simp only [AV.conc] at e1;rw [Yiq] at e1;refine Yre hf e1 rfl ?_;have := kk φ w (Agree.refl _ _) hS;simp only [AV.conc] at this;rw [<- Nat.add_assoc, Yhw] at this;exact this
theorem Y7l {w0 w : World} {M : List Nat} {L : RL} (h : St w0 M L w) {ts : List Ty} (r : Ro ts) {i k : Nat} (hi : i < r.xs.length) (hk : k < ts.length) (φ : Phi) : w.cell? (Ycy r.v (i * ts.length + k)) = some ((Ypj r i k).conc φ) := by
 have := r.cell hi hk;unfold Ypj;rw [Ywr];exact Y1v h this.2 this.1
theorem Y2i {T : TypeId} {x : Operand} {i k : Nat} {ts : List Ty} {r : Ro ts} (ha : Yfp P T false) (hx : At tm x (.rp ts r i k)) (hi : i < r.xs.length) (hk : k < ts.length) : Does P { dst, op := .load T x, type, pos, after, guard } tm [] (Ypj r i k) [] [] :=
 fun φ w0 M R a w K Q ho _ hS kk => by
  have h2 := Yr (ho.ev (x := x) (by simp [Op.operands]) hx (by simp));simp only [AV.conc] at h2;unfold Oper.wp execOp;simp only [h2, Sem.run_bind, Ycx ha (Y7l hS r hi hk φ), Result.andThen_ok, Sem.run_pure, Oper.upon];exact kk φ w (Agree.refl _ _) hS
theorem Y2h {T : TypeId} {x : Operand} {i k n : Nat} {ts : List Ty} {r : Ro ts} (ha : Yfp P T true) (hs : Ycd P T n) (hx : At tm x (.rp ts r i k)) (hi : i < r.xs.length) (hk : k + n <= ts.length) : Does P { dst, op := .load T x, type, pos, after, guard } tm [] (.agg (Ye0 r i k n)) [] [] :=
 fun φ w0 M R a w K Q ho _ hS kk => by
  have h2 := Yr (ho.ev (x := x) (by simp [Op.operands]) hx (by simp));simp only [AV.conc] at h2;rw [Yiq] at h2;have hcs : Yog w (Ycy r.v (i * ts.length + k)).block (Ycy r.v (i * ts.length + k)).off (AV.concL φ (Ye0 r i k n)) := fun j u hj => by
   rw [Yck, Ymy] at hj
   split at hj
   ·rename_i hjn;simp only [Option.map_some, Option.some.injEq] at hj;subst hj;have := Y7l hS r hi (k := k + j) (by omega) φ;rw [<- Nat.add_assoc, Yhw] at this;exact this
   ·cases hj
  unfold Oper.wp execOp;simp only [h2, Sem.run_bind, Yds ha hs (by rw [Yg, Yhz]) hcs, Result.andThen_ok, Sem.run_pure, Oper.upon];exact kk φ w (Agree.refl _ _) hS
theorem Yhd {T e sz by_ : Nat} {zs : List AV} {x : Operand} {xv : AV} {n : Nat} {hs : Heap} (ht : (mkTI P T).slice = some (e, sz, by_, zs)) (hx : At tm x xv) (hj : xv.rd = true)
  (hv : ∀ (φ : Phi) (w0 : World) (M : List Nat) (R : RL) (w : World), St w0 M (Yb φ hs ++ R) w -> ∃ A c, xv.conc φ = .slice A n c) : Does P { dst, op := .call { callee := .builtin .len, args := #[x], argTypes := #[T] }, type, pos, after, guard } tm hs (.si .i64 (n : Int)) [] [] :=
 fun φ w0 M R a w K Q ho _ hS kk => by
  obtain ⟨A, c, h1⟩ := hv φ w0 M R w hS;have e1 := ho.ev (x := x) (by simp [Op.operands, Call.operands]) hx hj;rw [h1] at e1;exact Y7s (Yi ht φ).1 e1 (kk φ w (Agree.refl _ _) (by simpa [Yh] using hS))
def BoundS (tm : List AV) (x : Option Operand) (dflt k : Nat) : Prop := match x with | none => k = dflt | some x => ∃ kd v, At tm x v /\ v.rd = true /\ ∀ φ, v.conc φ = .int kd (k : Int)
theorem BoundS.is {φ : Phi} {a : Act} {x : Option Operand} {dflt k : Nat} (h : BoundS tm x dflt k) (ho : ∀ y, x = some y -> ∀ v, At tm y v -> v.rd = true -> a.eval y = v.conc φ) : Ycb (x.map a.eval) dflt k := by
 cases x with
 | none => exact h
 | some y =>
  obtain ⟨kd, v, hy, hj, hv⟩ := h;simp only [Option.map_some, ho y rfl _ hy hj, hv φ, Ycb]
theorem Y2a {T e sz by_ l h : Nat} {zs : List AV} {x : Operand} {hi lop : Option Operand} {ts : List Ty} {r : Ro ts} (ht : (mkTI P T).slice = some (e, sz, by_, zs)) (hsz : sz = ts.length) (hx : At tm x (.rs ts r)) (hl : BoundS tm lop 0 l) (hh : BoundS tm hi r.xs.length h) (h1 : l <= h) (h2 : h <= r.xs.length) :
  Does P { dst, op := .slice T x lop hi none, type, pos, after, guard } tm [] (.rs ts (r.cut l h)) [] [] :=
 fun φ w0 M R a w K Q ho _ hS kk => by
  subst hsz;obtain ⟨A, c, hv, hc, _⟩ := r.inv;have e1 := ho x (by simp [Op.operands]) _ hx (by simp);simp only [AV.conc, hv] at e1;have hr := Yce (w := w) (Yi ht φ).1 A (n := r.xs.length) (c := c) (l := l) (h := h) (hl.is (φ := φ) (a := a) fun y hy => ho y (by simp [Op.operands, hy])) (hh.is (φ := φ) (a := a) fun y hy => ho y (by simp [Op.operands, hy])) h1 (by omega);rw [<- e1] at hr;unfold Oper.wp;rw [Yby hr];have h3 := kk φ w (Agree.refl _ _) hS;simp only [AV.conc, r.cut_v l h h1 h2, hv, Ro.cutV] at h3;exact h3
theorem Y4s {T e sz by_ : Nat} {zs : List AV} {x : Operand} {hi mx : Operand} {ts : List Ty} {r : Ro ts} (ht : (mkTI P T).slice = some (e, sz, by_, zs)) (hx : At tm x (.rs ts r)) (hh : BoundS tm (some hi) 1 0) (hm : BoundS tm (some mx) 1 0) :
  Does P { dst, op := .slice T x none (some hi) (some mx), type, pos, after, guard } tm [] (.rs ts r.zero) [] [] :=
 fun φ w0 M R a w K Q ho _ hS kk => by
  obtain ⟨A, c, hv, hc, _⟩ := r.inv;have e1 := ho x (by simp [Op.operands]) _ hx (by simp);simp only [AV.conc, hv] at e1;obtain ⟨k1, v1, a1, b1, c1⟩ := hh;obtain ⟨k2, v2, a2, b2, c2⟩ := hm;have e2 := ho hi (by simp [Op.operands]) _ a1 b1;have e3 := ho mx (by simp [Op.operands]) _ a2 b2;rw [c1 φ] at e2;rw [c2 φ] at e3;have hr := Ys3 (w := w) (Yi ht φ).1 A (n := r.xs.length) (c := c) (h := 0) (m := 0) e2 e3 (Nat.le_refl _) (Nat.zero_le _);rw [<- e1] at hr;unfold Oper.wp;rw [Yby (lo := none) (hi := some hi) (mx := some mx) hr];have h3 := kk φ w (Agree.refl _ _) hS;simp only [AV.conc, r.zero_v, hv, zeroV] at h3;simp only [Oper.upon, if_true];exact h3
theorem Yku {w0 w : World} {M : List Nat} {R : RL} {φ : Phi} {id T : Nat} {ts : List Ty} {xs : Dt} (hts : 0 < ts.length) (h : St w0 M ((It.arr T ts xs).conc φ id :: R) w) : (φ id).fn = xs.length /\ w.ownsRow 0 T ts.length (.slice (if (φ id).nil then none else some ⟨(φ id).b, 0, none⟩) (φ id).fn (φ id).c) (φ id).fn (Yl ts xs) := by
 have hh : w.ownsRow 0 T ts.length (.slice (if (φ id).nil then none else some ⟨(φ id).b, 0, none⟩) (φ id).fn (φ id).c) (φ id).fn (Yl ts xs) := h.look Look.head;refine ⟨?_, hh⟩;have := hh.1;rw [Yq] at this;exact (Nat.eq_of_mul_eq_mul_right hts this).symm
theorem Ydm {w0 w : World} {M : List Nat} {R : RL} {φ : Phi} {id T : Nat} {ts : List Ty} {xs : Dt} (hts : 0 < ts.length) (hn : 0 < xs.length) (h : St w0 M ((It.arr T ts xs).conc φ id :: R) w) : (φ id).nil = false := by
 obtain ⟨e, hh⟩ := Yku hts h;cases hnil : (φ id).nil with
 | false => rfl
 | true =>
  rw [hnil] at hh;rcases hh.2 with ⟨_, h0⟩ | ⟨g, cap, cur, hg, _⟩
  ·omega
  ·simp at hg
theorem Yip {w0 w : World} {M : List Nat} {R : RL} {φ : Phi} {id T : Nat} {ts : List Ty} {xs : Dt} (hts : 0 < ts.length) (h : St w0 M ((It.arr T ts xs).conc φ id :: R) w) : xs.length <= (φ id).c /\ xs.length <= maxLen := by
 obtain ⟨e, hh⟩ := Yku hts h;rcases hh.2 with ⟨_, h0⟩ | ⟨g, cap, cur, hg, _, _, hnc, hm, _⟩
 ·omega
 ·simp only [Value.slice.injEq] at hg; omega
def OwnSl (T : Nat) (ts : List Ty) (xs : Dt) (id n : Nat) (x : AV) : Prop := (x = .rw id /\ n = xs.length) \/ (x = .sl id 0 0 n /\ n <= xs.length)
theorem OwnSl.rd {T : Nat} {ts : List Ty} {xs : Dt} {id n : Nat} {x : AV} (h : OwnSl T ts xs id n x) : x.rd = true := by rcases h with ⟨rfl, _⟩ | ⟨rfl, _⟩ <;> rfl
theorem OwnSl.conc {T : Nat} {ts : List Ty} {xs : Dt} {id n : Nat} {x : AV} (h : OwnSl T ts xs id n x) (hts : 0 < ts.length) {w0 w : World} {M : List Nat} {R : RL} {φ : Phi} (hS : St w0 M ((It.arr T ts xs).conc φ id :: R) w) :
  x.conc φ = .slice (if (φ id).nil then none else some ⟨(φ id).b, 0, none⟩) n (φ id).c /\ n <= xs.length := by
 rcases h with ⟨rfl, rfl⟩ | ⟨rfl, hn⟩
 ·exact ⟨by simp only [AV.conc, (Yku hts hS).1], Nat.le_refl _⟩
 ·exact ⟨by simp [AV.conc], hn⟩
theorem Yun {T e sz by_ T' : Nat} {zs : List AV} {x ix : Operand} {ts : List Ty} {xs : Dt} {id n : Nat} {xv iv : AV} {kd : IntKind} {i : Int} (ht : (mkTI P T).slice = some (e, sz, by_, zs)) (hsz : sz = ts.length) (hts : 0 < ts.length) (hx : At tm x xv) (ho2 : OwnSl T' ts xs id n xv) (hi : At tm ix iv) (hij : iv.rd = true) (hiv : ∀ φ, iv.conc φ = .int kd i)
  (h0 : 0 <= i) (h1 : i < (n : Int)) : Does P { dst, op := .indexAddr T x ix, type, pos, after, guard } tm [(id, .arr T' ts xs)] (.ep id ts.length i.toNat 0) [] [] :=
 fun φ w0 M R a w K Q ho _ hS kk => by
  subst hsz;obtain ⟨hc, hn⟩ := ho2.conc hts hS;have hnil := Ydm hts (by omega) hS;have e1 := ho.ev (x := x) (by simp [Op.operands]) hx ho2.rd;have e2 := ho.ev (x := ix) (by simp [Op.operands]) hi hij;rw [hc, hnil] at e1;rw [hiv φ] at e2;simp only [Bool.false_eq_true, if_false] at e1;refine Ym5 (Yi ht φ).1 e1 e2 h0 h1 rfl ?_;have := kk φ w (Agree.refl _ _) hS;simpa [AV.conc] using this
theorem Yhl {T : Nat} {ts : List Ty} {xs : Dt} {id l n : Nat} (hts : 0 < ts.length) {w0 w : World} {M : List Nat} {R : RL} {φ : Phi} (hS : St w0 M ((It.arr T ts xs).conc φ id :: R) w) (hl : l + n <= xs.length) (hn : 0 < n) :
  (AV.rwp id ts.length l n).conc φ = .slice (some ⟨(φ id).b, l * ts.length, none⟩) n ((φ id).c - l) := by
 have hc := (Yip hts hS).1;have hnil := Ydm hts (by omega) hS;simp only [AV.conc, hnil, Bool.false_eq_true, if_false];rw [if_neg (show ¬ (φ id).c = l by omega), Option.map_some, Yp, Nat.zero_add]
theorem Yzm {T e sz by_ T' : Nat} {zs : List AV} {x ix : Operand} {ts : List Ty} {xs : Dt} {id l n : Nat} {iv : AV} {kd : IntKind} {i : Int} (ht : (mkTI P T).slice = some (e, sz, by_, zs)) (hsz : sz = ts.length) (hts : 0 < ts.length) (hx : At tm x (.rwp id ts.length l n)) (hl : l + n <= xs.length) (hi : At tm ix iv) (hij : iv.rd = true) (hiv : ∀ φ, iv.conc φ = .int kd i)
  (h0 : 0 <= i) (h1 : i < (n : Int)) : Does P { dst, op := .indexAddr T x ix, type, pos, after, guard } tm [(id, .arr T' ts xs)] (.ep id ts.length (l + i.toNat) 0) [] [] :=
 fun φ w0 M R a w K Q ho _ hS kk => by
  subst hsz;have hc := Yhl hts hS hl (show 0 < n by omega);have e1 := ho.ev (x := x) (by simp [Op.operands]) hx (by simp);have e2 := ho.ev (x := ix) (by simp [Op.operands]) hi hij;rw [hc] at e1;rw [hiv φ] at e2;refine Ym5 (Yi ht φ).1 e1 e2 h0 h1 rfl ?_;have := kk φ w (Agree.refl _ _) hS;simpa [AV.conc, Nat.add_mul] using this
theorem Y19 {T e sz by_ l h T' : Nat} {zs : List AV} {x : Operand} {hi lop : Option Operand} {ts : List Ty} {xs : Dt} {id : Nat} (ht : (mkTI P T).slice = some (e, sz, by_, zs)) (hsz : sz = ts.length) (hts : 0 < ts.length) (hx : At tm x (.rw id)) (hl : BoundS tm lop 0 l) (hh : BoundS tm hi xs.length h) (h1 : l <= h) (h2 : h <= xs.length) :
  Does P { dst, op := .slice T x lop hi none, type, pos, after, guard } tm [(id, .arr T' ts xs)] (.rwp id ts.length l (h - l)) [] [] :=
 fun φ w0 M R a w K Q ho _ hS kk => by
  subst hsz;have hS' : St w0 M ((It.arr T' ts xs).conc φ id :: R) w := hS;have hc := (Yip hts hS').1;have hf := (Yku hts hS').1;have e1 := ho x (by simp [Op.operands]) _ hx (by simp);simp only [AV.conc, hf] at e1;have hr := Yce (w := w) (Yi ht φ).1 (if (φ id).nil then none else some ⟨(φ id).b, 0, none⟩) (n := xs.length) (c := (φ id).c) (l := l) (h := h) (hl.is (φ := φ) (a := a) fun y hy => ho y (by simp [Op.operands, hy])) (hh.is (φ := φ) (a := a) fun y hy => ho y (by simp [Op.operands, hy])) h1 (by omega);rw [<- e1] at hr;unfold Oper.wp;rw [Yby hr];exact kk φ w (Agree.refl _ _) hS
theorem Yuo {T : TypeId} {x : Operand} {j off id sz i k : Nat} (hf : Yha P T j off) (hx : At tm x (.ep id sz i k)) : Does P { dst, op := .fieldAddr T x j, type, pos, after, guard } tm [] (.ep id sz i (k + off)) [] [] :=
 fun φ w0 M R a w K Q ho _ hS kk => Yre hf (ho.ev (by simp [Op.operands]) hx (by simp)) (by rw [Nat.add_assoc]) (kk φ w (Agree.refl _ _) hS)
theorem Ylt {ts : List Ty} {xs : Dt} {T : Nat} {i k : Nat} (hi : i < xs.length) (hk : k < ts.length) (φ : Phi) : ((It.arr T ts xs).vals φ)[i * ts.length + k]? = some ((Yie (tyAt ts k) (cel xs i k)).conc φ) := by
 rw [Yey];simp only [It.vals, Yjo ts xs i k hi hk, List.getElem?_eq_getElem hk, Option.map_some, Yeb, List.getD_eq_getElem?_getD, Option.getD_some]
theorem Yul {T : TypeId} {x : Operand} {id i k T' : Nat} {ts : List Ty} {xs : Dt} (ha : Yfp P T false) (hx : At tm x (.ep id ts.length i k)) (hi : i < xs.length) (hk : k < ts.length) : Does P { dst, op := .load T x, type, pos, after, guard } tm [(id, .arr T' ts xs)] (Yie (tyAt ts k) (cel xs i k)) [] [] :=
 fun φ w0 M R a w K Q ho _ hS kk => by
  have h2 := Yr (ho.ev (x := x) (by simp [Op.operands]) hx (by simp));simp only [AV.conc] at h2;unfold Oper.wp execOp;simp only [h2, Sem.run_bind, Ycx ha (Ybg hS (Ylt (T := T') hi hk φ)), Result.andThen_ok, Sem.run_pure, Oper.upon];exact kk φ w (Agree.refl _ _) hS
theorem Y2j {T : TypeId} {x : Operand} {id i k n T' : Nat} {ts : List Ty} {xs : Dt} (ha : Yfp P T true) (hs : Ycd P T n) (hx : At tm x (.ep id ts.length i k)) (hi : i < xs.length) (hk : k + n <= ts.length) : Does P { dst, op := .load T x, type, pos, after, guard } tm [(id, .arr T' ts xs)] (.agg (Ydn ts xs i k n)) [] [] :=
 fun φ w0 M R a w K Q ho _ hS kk => by
  have h2 := Yr (ho.ev (x := x) (by simp [Op.operands]) hx (by simp));simp only [AV.conc] at h2;have hcs : Yog w (φ id).b (i * ts.length + k) (AV.concL φ (Ydn ts xs i k n)) := fun j u hj => by
   rw [Yck, Yk2] at hj
   split at hj
   ·rename_i hjn;simp only [Option.map_some, Option.some.injEq] at hj;subst hj;rw [Nat.add_assoc];exact Ybg hS (Ylt (T := T') hi (by omega) φ)
   ·cases hj
  unfold Oper.wp execOp;simp only [h2, Sem.run_bind, Yds ha hs (by rw [Yg, Ygs]) hcs, Result.andThen_ok, Sem.run_pure, Oper.upon];exact kk φ w (Agree.refl _ _) hS
end
end Go.Proofs.YtladoaeefkpdiaaGreatDoor
namespace Go.Proofs.YtladoaeefkpdiaaGreatDoor
open Go.RowKit
variable [InW]
attribute [local irreducible] Go.Oper.wp
section
variable {P : Program} {tm : List AV} {dst : Option Tmp} {type : TypeId} {pos : String} {after : Array Edge} {guard : Option (Nat × Bool)}
def clK (t : Ty) (x : AV) (K : Cl -> Prop) : Prop :=
 match t with
 | .int k => (match x with | .si k' n => Yc (decide (k' = k)) (K (.i n)) | .v (.int k' n) => Yc (decide (k' = k)) (K (.i n)) | _ => Stuck 310)
 | .bool => (match x with | .sb b => K (.b b) | .v (.bool b) => K (.b b) | _ => Stuck 311)
 | .str => (match x with | .ss s => K (.s s) | .v (.string s) => K (.s s) | _ => Stuck 312)
 | .sl _ => Stuck 313
theorem Yju {t : Ty} {x : AV} {K : Cl -> Prop} (h : clK t x K) : ∃ c, K c /\ (∀ φ, x.conc φ = t.val c) /\ (∀ i, x.has i = false) := by
 unfold clK at h
 split at h
 ·split at h
  ·obtain ⟨h1, h2⟩ := Ya h;obtain rfl := of_decide_eq_true h1;exact ⟨_, h2, fun φ => rfl, fun i => rfl⟩
  ·obtain ⟨h1, h2⟩ := Ya h;obtain rfl := of_decide_eq_true h1;exact ⟨_, h2, fun φ => rfl, fun i => rfl⟩
  ·exact h.elim
 ·split at h
  ·exact ⟨_, h, fun φ => rfl, fun i => rfl⟩
  ·exact ⟨_, h, fun φ => rfl, fun i => rfl⟩
  ·exact h.elim
 ·split at h
  ·exact ⟨_, h, fun φ => rfl, fun i => rfl⟩
  ·exact ⟨_, h, fun φ => rfl, fun i => rfl⟩
  ·exact h.elim
 ·exact h.elim
def clsK : List Ty -> List AV -> (List Cl -> Prop) -> Prop
 | [], [], K => K []
 | t :: ts, x :: xs, K => clK t x fun c => clsK ts xs fun cs => K (c :: cs)
 | _, _, _ => Stuck 314
theorem Yhf : ∀ {ts : List Ty} {xs : List AV} {K : List Cl -> Prop}, clsK ts xs K -> ∃ cs, K cs /\ (∀ φ, AV.concL φ xs = Yz ts cs) /\ cs.length = ts.length /\ xs.length = ts.length /\ ∀ i, AV.hasL i xs = false
 | [], [], K, h => ⟨[], h, fun φ => rfl, rfl, rfl, fun i => rfl⟩
 | t :: ts, x :: xs, K, h => by
  obtain ⟨c, h1, h2, h3⟩ := Yju h;obtain ⟨cs, h4, h5, h6, h7, h8⟩ := Yhf h1;exact ⟨c :: cs, h4, fun φ => by simp [AV.concL, Yz, h2 φ, h5 φ], by simp [h6], by simp [h7], fun i => by simp [AV.hasL, h3 i, h8 i]⟩
 | [], _ :: _, _, h => h.elim
 | _ :: _, [], _, h => h.elim
def Ys5 (ts : List Ty) : Nat -> List AV -> (Dt -> Prop) -> Prop
 | 0, [], K => K []
 | 0, _ :: _, _ => Stuck 315
 | m + 1, cs, K => Yiu cs ts.length fun r => Ykq cs ts.length fun rest => clsK ts r fun l => Ys5 ts m rest fun ys => K (l :: ys)
theorem Ydc {ts : List Ty} : ∀ {m : Nat} {cs : List AV} {K : Dt -> Prop}, Ys5 ts m cs K -> ∃ ys, K ys /\ ys.length = m /\ (∀ φ, AV.concL φ cs = Yl ts ys) /\ ∀ i, AV.hasL i cs = false
 | 0, [], K, h => ⟨[], h, rfl, fun φ => rfl, fun i => rfl⟩
 | 0, _ :: _, _, h => h.elim
 | m + 1, cs, K, h => by
  obtain ⟨h1, h2⟩ := Ybw h;obtain ⟨h3, h4⟩ := Yb8 h2;obtain ⟨l, h5, h6, h7, h8, h9⟩ := Yhf h4;obtain ⟨ys, k1, k2, k3, k4⟩ := Ydc h5;refine ⟨l :: ys, k1, by simp [k2], fun φ => ?_, fun i => ?_⟩
  ·conv => lhs; rw [<- List.take_append_drop ts.length cs]
   rw [Ybz, h6 φ, k3 φ];rfl
  ·rw [<- List.take_append_drop ts.length cs, Yo, List.any_append, <- Yo, <- Yo, h9 i, k4 i];rfl
def Y5e : Ty -> Cl
 | .int _ => .i 0
 | .bool => .b false
 | .str => .s ByteArray.empty
 | .sl _ => .l []
def Ybs : List Ty -> List Cl
 | [] => []
 | t :: ts => Y5e t :: Ybs ts
def tyK (x : AV) (K : Ty -> Prop) : Prop :=
 match x with
 | .v (.int k n) => Yc (decide (n = 0)) (K (.int k))
 | .v (.bool b) => (match b with | false => K .bool | true => Stuck 316)
 | .v (.string s) => Yc (Nat.beq s.size 0) (K .str)
 | .v (.slice none 0 0) => K (.sl [])
 | _ => Stuck 317
def tysK : List AV -> (List Ty -> Prop) -> Prop
 | [], K => K []
 | x :: xs, K => tyK x fun t => tysK xs fun ts => K (t :: ts)
theorem Y3h {x : AV} {K : Ty -> Prop} (h : tyK x K) : ∃ t, K t /\ ∀ φ, x.conc φ = t.val (Y5e t) := by
 unfold tyK at h
 split at h
 ·obtain ⟨h1, h2⟩ := Ya h;obtain rfl := of_decide_eq_true h1;exact ⟨_, h2, fun φ => rfl⟩
 ·split at h
  ·exact ⟨_, h, fun φ => rfl⟩
  ·exact h.elim
 ·obtain ⟨h1, h2⟩ := Ya h;refine ⟨_, h2, fun φ => ?_⟩;rename_i s;have : s = ByteArray.empty := by
   obtain ⟨d⟩ := s;have hs : d.size = 0 := Ye.1 h1;exact congrArg ByteArray.mk (Array.eq_empty_of_size_eq_zero hs)
  rw [this]; rfl
 ·exact ⟨_, h, fun φ => rfl⟩
 ·exact h.elim
theorem Ye8 : ∀ {xs : List AV} {K : List Ty -> Prop}, tysK xs K -> ∃ ts, K ts /\ xs.length = ts.length /\ ∀ φ, AV.concL φ xs = Yz ts (Ybs ts)
 | [], K, h => ⟨[], h, rfl, fun φ => rfl⟩
 | x :: xs, K, h => by
  obtain ⟨t, h1, h2⟩ := Y3h h;obtain ⟨ts, h3, h4, h5⟩ := Ye8 h1;exact ⟨t :: ts, h3, by simp [h4], fun φ => by simp [AV.concL, Yz, Ybs, h2 φ, h5 φ]⟩
def Yc0 : List Cl -> Nat -> List Cl -> List Cl
 | l, 0, cs => cs ++ l.drop cs.length
 | l, k + 1, cs => l.headD .z :: Yc0 l.tail k cs
theorem Yl1 : ∀ (ts : List Ty) (l : List Cl) (n : Nat), Yz (ts.drop n) (l.drop n) = (Yz ts l).drop n
 | ts, l, 0 => by simp
 | [], l, n + 1 => by simp [Yz]
 | t :: ts, l, n + 1 => by
  have := Yl1 ts l.tail n;simp only [List.drop_succ_cons, Yz];rw [<- this];cases l <;> simp
theorem Yo2 : ∀ (ts : List Ty) (cs l : List Cl), cs.length <= ts.length -> Yz ts (cs ++ l) = Yz (ts.take cs.length) cs ++ Yz (ts.drop cs.length) l
 | ts, [], l, _ => by simp [Yz]
 | [], c :: cs, l, h => by simp at h
 | t :: ts, c :: cs, l, h => by simp [Yz, Yo2 ts cs l (by simpa using h)]
theorem Yo1 : ∀ (ts : List Ty) (l : List Cl) (k : Nat) (cs : List Cl), k + cs.length <= ts.length -> Yz ts (Yc0 l k cs) = (Yz ts l).take k ++ Yz ((ts.drop k).take cs.length) cs ++ (Yz ts l).drop (k + cs.length)
 | ts, l, 0, cs, h => by
  simp only [Yc0, List.take_zero, List.nil_append, List.drop_zero, Nat.zero_add];rw [Yo2 ts cs _ (by omega), Yl1]
 | [], l, k + 1, cs, h => by simp at h
 | t :: ts, l, k + 1, cs, h => by
  have := Yo1 ts l.tail k cs (by simp at h; omega);simp only [Yc0, Yz, List.headD_cons, List.tail_cons, this, List.take_succ_cons, List.drop_succ_cons, show k + 1 + cs.length = k + cs.length + 1 by omega, List.cons_append]
theorem Yqb (ts : List Ty) : ∀ (xs : Dt) (i : Nat), i < xs.length -> ∃ A B, A.length = i * ts.length /\ Yl ts xs = A ++ (Yz ts (xs.getD i []) ++ B) /\ ∀ row, Yl ts (xs.set i row) = A ++ (Yz ts row ++ B)
 | [], i, h => by simp at h
 | l :: xs, 0, _ => ⟨[], Yl ts xs, by simp, by simp [Yl], fun row => by simp [Yl]⟩
 | l :: xs, i + 1, h => by
  obtain ⟨A, B, h1, h2, h3⟩ := Yqb ts xs i (by simpa using h);refine ⟨Yz ts l ++ A, B, by simp [Ybr, h1, Nat.succ_mul]; omega, ?_, fun row => ?_⟩
  ·simp only [Yl, h2, List.getD_cons_succ, List.append_assoc]
  ·simp only [List.set_cons_succ, Yl, h3 row, List.append_assoc]
theorem Y4k (ts : List Ty) (xs : Dt) (i k : Nat) (vs : List Value) (row : List Cl) (hi : i < xs.length) (hk : k + vs.length <= ts.length) (hr : Yz ts row = (Yz ts (xs.getD i [])).take k ++ vs ++ (Yz ts (xs.getD i [])).drop (k + vs.length)) :
  Yl ts (xs.set i row) = (Yl ts xs).take (i * ts.length + k) ++ vs ++ (Yl ts xs).drop (i * ts.length + k + vs.length) := by
 obtain ⟨A, B, h1, h2, h3⟩ := Yqb ts xs i hi;rw [h3, hr, h2];have hV := Ybr ts (xs.getD i []);generalize Yz ts (xs.getD i []) = V at hV;rw [List.take_append, List.drop_append, h1, show i * ts.length + k - i * ts.length = k by omega, List.take_of_length_le (l := A) (by omega), List.take_append, hV, show k - ts.length = 0 by omega, List.take_zero, List.append_nil,
  List.drop_eq_nil_of_le (show A.length <= i * ts.length + k + vs.length by omega), List.nil_append, show i * ts.length + k + vs.length - i * ts.length = k + vs.length by omega, List.drop_append, hV, show k + vs.length - ts.length = 0 by omega, List.drop_zero]
 simp [List.append_assoc]
theorem Y18 {T T' : TypeId} {x y : Operand} {id i k n : Nat} {ts : List Ty} {xs : Dt} {vs : List AV} {v : AV} {row : List Cl} (hs : Ycd P T n) (hx : At tm x (.ep id ts.length i k)) (hy : At tm y v) (hj : v.rd = true) (hc : ∀ φ, (v.conc φ).cells = (AV.concL φ vs).toArray) (hn : vs.length = n) (h0 : 0 < n) (h1 : Yfb vs = true)
  (hi : i < xs.length) (hk : k + n <= ts.length) (hr : ∀ φ, Yz ts row = (Yz ts (xs.getD i [])).take k ++ AV.concL φ vs ++ (Yz ts (xs.getD i [])).drop (k + n)) :
  Does P { dst, op := .store T x y, type, pos, after, guard } tm [(id, .arr T' ts xs)] (.v undef) [(id, .arr T' ts (xs.set i row))] [] :=
 fun φ w0 M R a w K Q ho _ hS kk => by
  have h2 := Yr (ho.ev (x := x) (by simp [Op.operands]) hx (by simp));have h3 := Yr (ho.ev (x := y) (by simp [Op.operands]) hy hj);have hlen : i * ts.length + k + n <= (Yl ts xs).length := by
   rw [Yq];have : (i + 1) * ts.length <= xs.length * ts.length := Nat.mul_le_mul_right _ hi;rw [Nat.succ_mul] at this; omega
  refine Yj5 (v := v.conc φ) hS hs h2 h3 (by rw [hc φ]; simp [Yg, hn]) h0 (fun u hu => Yb6 h1 φ u (by rw [hc φ] at hu; simpa using hu)) hlen fun w' hS' => ?_;have hl : (AV.concL φ vs).length = n := by rw [Yg, hn]
  have e := Y4k ts xs i k (AV.concL φ vs) row hi (by rw [hl]; exact hk) (by rw [hl]; exact hr φ);rw [hl] at e;rw [hc φ, show ((AV.concL φ vs).toArray.toList) = AV.concL φ vs from rfl, <- e] at hS';exact kk φ w' (Agree.refl _ _) (by simpa [Yh, upd, Nat.beq_refl, Yb, It.conc] using hS')
theorem Yrs (ts : List Ty) (l : List Cl) : ∀ n, Yl ts (List.replicate n l) = (List.replicate n (Yz ts l)).flatten
 | 0 => rfl
 | n + 1 => by simp only [List.replicate_succ, Yl, List.flatten_cons, Yrs ts l n]
theorem Y2e {T e : TypeId} {sz by_ n : Nat} {zs : List AV} {x y : Operand} {xv yv : AV} {kl kc : IntKind} {id : Nat} {ts : List Ty} (ht : (mkTI P T).slice = some (e, sz, by_, zs)) (hz : zs.length = sz) (hts : zs.length = ts.length) (hzs : ∀ φ, AV.concL φ zs = Yz ts (Ybs ts))
  (hx : At tm x xv) (hxj : xv.rd = true) (hxv : ∀ φ, xv.conc φ = .int kl (n : Int)) (hy : At tm y yv) (hyj : yv.rd = true) (hyv : ∀ φ, yv.conc φ = .int kc (n : Int)) (hb : by_ * n <= 281474976710656) (hm : n <= maxLen) :
  Does P { dst, op := .makeSlice T x y, type, pos, after, guard } tm [] (.rw id) [] [(id, .arr e ts (List.replicate n (Ybs ts)))] :=
 fun φ w0 M R a w K Q ho _ hS kk => by
  have e1 := ho.ev (x := x) (by simp [Op.operands]) hx hxj;have e2 := ho.ev (x := y) (by simp [Op.operands]) hy hyj;rw [hxv φ] at e1;rw [hyv φ] at e2;refine Y0c hS (Yi ht φ).1 e1 e2 hb hm fun g w' hS' => ?_;have hag := Ym φ id ⟨g, false, n, none, n, undef, fun _ => False⟩;have hc : (madeCells (AV.concL φ zs).toArray (n * sz)).toList = Yl ts (List.replicate n (Ybs ts)) := by
   rw [Yd2 φ hz, Yw, List.map_flatten, List.map_replicate, <- Yw, hzs φ, Yrs]
  rw [hc] at hS';have hsz : ts.length = sz := by omega
  have := kk _ w' hag (by simpa [Yh, Yb, It.conc, hsz] using hS');simpa [AV.conc] using this
theorem Yhs (ts : List Ty) (xs : Dt) : ∀ u ∈ Yl ts xs, u.oneCell' = true := by
 have hv : ∀ (ts : List Ty) (l : List Cl), ∀ u ∈ Yz ts l, u.oneCell' = true := by
  intro ts
  induction ts with
  | nil => intro l u hu; simp [Yz] at hu
  | cons t ts ih =>
   intro l u hu;simp only [Yz, List.mem_cons] at hu;rcases hu with rfl | hu
   ·cases t <;> rfl
   ·exact ih _ u hu
 induction xs with
 | nil => intro u hu; simp [Yl] at hu
 | cons l xs ih =>
  intro u hu;simp only [Yl, List.mem_append] at hu;exact hu.elim (hv ts l u) (ih u)
def Yjy (xv : AV) (hs : Heap) (ts : List Ty) (ys : Dt) : Prop :=
 ∀ (φ : Phi) (w0 : World) (M : List Nat) (R : RL) (w : World), St w0 M (Yb φ hs ++ R) w -> ∃ A c, xv.conc φ = .slice A ys.length c /\ (ys.length = 0 \/ ∃ b off, A = some ⟨b, off, none⟩ /\ ∀ j u, (Yl ts ys)[j]? = some u -> w.cell? ⟨b, off + j, none⟩ = some u)
theorem Yhi {w0 w : World} {M : List Nat} {R : RL} {K : Act -> World -> Prop} {Q : Exit -> Act -> World -> Prop} {a : Act} {T e : TypeId} {by_ m c n : Nat} {zs : Array Value} {s x : Operand} {v : Value} {A : Option Addr} {ts : List Ty} {xs ys : Dt} (h : St w0 M (.row v e ts.length n (Yl ts xs) :: R) w) (ht : SliceOf P T e ts.length by_ zs) (hz : zs.size = ts.length) (hsz : 0 < ts.length)
  (hs : a.eval s = v) (hx : a.eval x = .slice A m c) (hm : m = ys.length) (hn : n = xs.length) (hsrc : ys.length = 0 \/ ∃ b off, A = some ⟨b, off, none⟩ /\ ∀ j u, (Yl ts ys)[j]? = some u -> w.cell? ⟨b, off + j, none⟩ = some u) (h63 : n + m <= maxLen) (hb : (n + m) * by_ <= 140737488355328)
  (kk : ∀ v' w', St w0 M (.row v' e ts.length (n + m) (Yl ts (xs ++ ys)) :: R) w' -> K (a.put dst v') w') :
  Oper.wp P { dst, op := .call { callee := .builtin .append, args := #[s, x], argTypes := #[T, T] }, type, pos, after, guard } a w K Q := by
 rcases Nat.eq_zero_or_pos ys.length with h0 | h0
 ·have hys : ys = [] := List.length_eq_zero_iff.1 h0;subst hys;simp only [List.length_nil] at hm;subst hm;have hrow := h.row .head;obtain ⟨A', c', hv, hc'⟩ : ∃ A' c', v = .slice A' n c' /\ n <= c' := by
   rcases hrow.2 with ⟨rfl, rfl⟩ | ⟨g, cap, cur, rfl, _, _, hnc, _⟩
   ·exact ⟨none, 0, rfl, Nat.le_refl _⟩
   ·exact ⟨_, _, rfl, hnc⟩
  obtain ⟨i, z, hi, hz1, hz2, his, hib⟩ := ht.parts;have hsrc : Src P i.size T (.slice A 0 c) 0 [] w := by
   cases A with
   | none => exact Src.ofNil w ht.1 c
   | some b => exact Src.ofSlice w ht.1 b 0 c [] (by simp) (by simp) (by simp)
  have hr := run_append_nothing w T T type e i ht.1 hi A' n c' hc' _ hsrc;have h4 := kk v w (by simpa using h);unfold Oper.wp execOp;simp only [resolve, invoke, builtin, Sem.run_bind, Sem.run_pure, Result.andThen_ok, List.map_toArray, List.map_cons, List.map_nil, hs, hx];rw [hv] at h4 ⊢;rw [hr];exact h4
 ·obtain ⟨b, off, rfl, hcell⟩ := hsrc.resolve_left (by omega);refine Ygh (news := Yl ts ys) h ht hz hsz (by rw [Yb7, hs]) (by rw [Yb7, hx]) .head (by rw [Yq, hm]) (fun j u hj => by rw [Yp]; exact hcell j u hj) (Yhs ts ys) h63 hb fun v' w' _ hS' => ?_;rw [<- Ybb] at hS';exact kk v' w' hS'
theorem Ymw {w : World} {T sz n : Nat} {v : Value} {xs : List Value} (h : w.ownsRow 0 T sz v n xs) : ∃ hd : Hd, hd.fn = n /\ v = .slice (if hd.nil then none else some ⟨hd.b, 0, none⟩) n hd.c := by
 obtain ⟨hd, e⟩ := Ypi h;exact ⟨{ hd with fn := n }, rfl, e⟩
theorem Y2t {T e : TypeId} {by_ id' : Nat} {zs : List AV} {s x : Operand} {xv : AV} {hs : Heap} {ts : List Ty} {ys : Dt} (ht : (mkTI P T).slice = some (e, ts.length, by_, zs)) (hz : zs.length = ts.length) (hsz : 0 < ts.length) (hsv : At tm s (.v (.slice none 0 0))) (hx : At tm x xv) (hxj : xv.rd = true) (hsrc : Yjy xv hs ts ys)
  (h63 : ys.length <= maxLen) (hb : ys.length * by_ <= 140737488355328) :
  Does P { dst, op := .call { callee := .builtin .append, args := #[s, x], argTypes := #[T, T] }, type, pos, after, guard } tm hs (.rw id') [] [(id', .arr e ts ys)] :=
 fun φ w0 M R a w K Q ho hn hS kk => by
  have e1 := ho s (by simp [Op.operands, Call.operands]) _ hsv (by simp);have e2 := ho x (by simp [Op.operands, Call.operands]) _ hx hxj;obtain ⟨A, c, h1, h2⟩ := hsrc φ w0 M R w hS;rw [h1] at e2;have hS2 := hS.add (Ext.refl _) (r := .row (.slice none 0 0) e ts.length 0 (Yl ts [])) ⟨by simp [Yl], .inl ⟨rfl, rfl⟩⟩ (by simp [Res.foot, Value.ownBlock]);refine Yhi hS2 (Yi ht φ).1 (by simp [Yg, hz]) hsz e1 e2 rfl rfl h2 (by simpa using h63) (by simpa using hb) fun v' w' hS' => ?_;rw [Nat.zero_add, List.nil_append] at hS';obtain ⟨hd, hfn, rfl⟩ := Ymw (hS'.row .head);have hag := Ym φ id' hd;have eh : Yb (fun i => if i = id' then hd else φ i) hs = Yb φ hs := Ybm hag fun i hi => by rw [List.mem_singleton.1 hi]; exact (hn id' (by simp [keys])).2
  have := kk _ w' hag (by
   rw [Yn];simp only [Yh, eh];have e3 : Yb (fun i => if i = id' then hd else φ i) [(id', It.arr e ts ys)] = [.row (.slice (if hd.nil then none else some ⟨hd.b, 0, none⟩) ys.length hd.c) e ts.length ys.length (Yl ts ys)] := by simp [Yb, It.conc, hfn]
   rw [e3];refine hS'.perm ?_;rw [List.append_assoc, List.singleton_append];exact List.perm_middle.symm)
  simpa [AV.conc, hfn] using this
theorem Y2r {T e : TypeId} {by_ id' : Nat} {zs : List AV} {s x : Operand} {xv : AV} {hs : Heap} {ts ts' : List Ty} {q : Ro ts'} {ys : Dt} (ht : (mkTI P T).slice = some (e, ts.length, by_, zs)) (hz : zs.length = ts.length) (hsz : 0 < ts.length) (hsv : At tm s (.rs ts' q)) (hq : q.xs.length = 0) (hc : capV q.v = 0) (hx : At tm x xv) (hxj : xv.rd = true) (hsrc : Yjy xv hs ts ys)
  (hpos : 0 < ys.length) (h63 : ys.length <= maxLen) (hb : ys.length * by_ <= 140737488355328) :
  Does P { dst, op := .call { callee := .builtin .append, args := #[s, x], argTypes := #[T, T] }, type, pos, after, guard } tm hs (.rw id') [] [(id', .arr e ts ys)] :=
 fun φ w0 M R a w K Q ho hn hS kk => by
  have e1 := ho s (by simp [Op.operands, Call.operands]) _ hsv (by simp);have e2 := ho x (by simp [Op.operands, Call.operands]) _ hx hxj;obtain ⟨A, c, h1, h2⟩ := hsrc φ w0 M R w hS;rw [h1] at e2;obtain ⟨B, d, h3, _⟩ := q.inv;rw [h3] at hc;have hd : d = 0 := hc;subst hd;simp only [AV.conc, h3, hq] at e1;have fin : ∀ v' w', St w0 M (.row v' e ts.length ys.length (Yl ts ys) :: (Yb φ hs ++ R)) w' -> K (a.put dst v') w' := fun v' w' hS' => by
   obtain ⟨hd, hfn, rfl⟩ := Ymw (hS'.row .head);have hag := Ym φ id' hd;have eh : Yb (fun i => if i = id' then hd else φ i) hs = Yb φ hs := Ybm hag fun i hi => by rw [List.mem_singleton.1 hi]; exact (hn id' (by simp [keys])).2
   have := kk _ w' hag (by
    rw [Yn];simp only [Yh, eh];have e3 : Yb (fun i => if i = id' then hd else φ i) [(id', It.arr e ts ys)] = [.row (.slice (if hd.nil then none else some ⟨hd.b, 0, none⟩) ys.length hd.c) e ts.length ys.length (Yl ts ys)] := by simp [Yb, It.conc, hfn]
    rw [e3];refine hS'.perm ?_;rw [List.append_assoc, List.singleton_append];exact List.perm_middle.symm)
   simpa [AV.conc, hfn] using this
  cases B with
  | none =>
   have hS2 := hS.add (Ext.refl _) (r := .row (.slice none 0 0) e ts.length 0 (Yl ts [])) ⟨by simp [Yl], .inl ⟨rfl, rfl⟩⟩ (by simp [Res.foot, Value.ownBlock]);refine Yhi hS2 (Yi ht φ).1 (by simp [Yg, hz]) hsz e1 e2 rfl rfl h2 (by simpa using h63) (by simpa using hb) fun v' w' hS' => ?_;rw [Nat.zero_add, List.nil_append] at hS';exact fin v' w' hS'
  | some ad =>
   obtain ⟨b, off, rfl, hcell⟩ := h2.resolve_left (by omega);obtain ⟨i, z, hi, hz1, hz2, his, hib⟩ := (Yi ht φ).1.parts;obtain ⟨v', w', hr, ho', hgr⟩ := run_append_arg_grows (P := P) w T type e i z ts.length by_ (Yi ht φ).1.1 hi hz1 his hib (by rw [hz2]; simp [Yg, hz]) hsz ad 0 0 [] (by simp) (by simp)
    ⟨b, off, none⟩ ys.length c (Yl ts ys) (Yq ts ys) (fun j u hj => by rw [Yp]; exact hcell j u hj) (by omega) (by omega) (by simpa using hb)
   rw [Nat.zero_add, List.nil_append] at ho';have hext : Ext w w' := ⟨hgr.os, hgr.tape, hgr.output, hgr.size, fun k hk => hgr.block k hk (by simp)⟩;have hS' := hS.add hext (r := .row v' e ts.length ys.length (Yl ts ys)) ⟨ho'.1, ho'.2.imp (fun h => h) fun ⟨g, cap, cur, a, _, c⟩ => ⟨g, cap, cur, a, Nat.zero_le _, c⟩⟩ (fun b hb' => by
    simp only [Res.foot, Option.mem_toList] at hb';exact (ho'.lt b hb').1)
   have h4 := fin v' w' hS';unfold Oper.wp execOp;simp only [resolve, invoke, builtin, Sem.run_bind, Sem.run_pure, Result.andThen_ok, List.map_toArray, List.map_cons, List.map_nil, e1, e2, hr, Oper.upon];exact h4
def DstOk (sv : AV) (id : Nat) (it : It) (e : Nat) (ts : List Ty) (xs : Dt) : Prop :=
 ∀ (φ : Phi) (w0 : World) (M : List Nat) (R : RL) (w : World), St w0 M (it.conc φ id :: R) w -> St w0 M (.row (sv.conc φ) e ts.length xs.length (Yl ts xs) :: R) w
theorem Y2s {T e : TypeId} {by_ id id' : Nat} {zs : List AV} {s x : Operand} {sv xv : AV} {it : It} {hs : Heap} {ts : List Ty} {xs ys : Dt} (ht : (mkTI P T).slice = some (e, ts.length, by_, zs)) (hz : zs.length = ts.length) (hsz : 0 < ts.length) (hsv : At tm s sv) (hsj : sv.rd = true) (hdst : DstOk sv id it e ts xs) (hx : At tm x xv) (hxj : xv.rd = true) (hsrc : Yjy xv hs ts ys)
  (hne : id ∉ keys hs) (h63 : xs.length + ys.length <= maxLen) (hb : (xs.length + ys.length) * by_ <= 140737488355328) :
  Does P { dst, op := .call { callee := .builtin .append, args := #[s, x], argTypes := #[T, T] }, type, pos, after, guard } tm ((id, it) :: hs) (.rw id') [(id, .dead)] [(id', .arr e ts (xs ++ ys))] :=
 fun φ w0 M R a w K Q ho hn hS kk => by
  have e1 := ho s (by simp [Op.operands, Call.operands]) _ hsv hsj;have e2 := ho x (by simp [Op.operands, Call.operands]) _ hx hxj;have hS0 : St w0 M (Yb φ hs ++ (it.conc φ id :: R)) w := hS.perm (by simp only [Yb, List.map_cons, List.cons_append]; exact List.perm_middle.symm);obtain ⟨A, c, h1, h2⟩ := hsrc φ w0 M _ w hS0;rw [h1] at e2;have hS2 := hdst φ w0 M _ w (by simpa [Yb] using hS);refine Yhi hS2 (Yi ht φ).1 (by simp [Yg, hz]) hsz e1 e2 rfl rfl h2 h63 hb fun v' w' hS' => ?_;obtain ⟨hd, hfn, rfl⟩ := Ymw (hS'.row .head);have hag := Ym φ id' hd;have hnx := (hn id' (by simp [keys])).2;have hhs : hasH id' hs = false := by
   unfold hasH at hnx;simp only [Bool.or_eq_false_iff] at hnx;exact hnx.2
  have eh : Yb (fun i => if i = id' then hd else φ i) hs = Yb φ hs := Ybm hag fun i hi => by rw [List.mem_singleton.1 hi]; exact hhs
  have e4 : Yh ((id, it) :: hs) [(id, .dead)] = (id, .dead) :: hs := by simp [Yh, upd, Nat.beq_refl]
  have := kk _ w' hag (by
   rw [e4, Yn];have e5 : Yb (fun i => if i = id' then hd else φ i) ((id, .dead) :: hs) = Res.row (.slice none 0 0) 0 0 0 [] :: Yb φ hs := by rw [<- eh]; rfl
   have e3 : Yb (fun i => if i = id' then hd else φ i) [(id', It.arr e ts (xs ++ ys))] = [.row (.slice (if hd.nil then none else some ⟨hd.b, 0, none⟩) (xs.length + ys.length) hd.c) e ts.length (xs.length + ys.length) (Yl ts (xs ++ ys))] := by simp [Yb, It.conc, hfn]
   rw [e3, e5];have hS3 := hS'.dead;refine hS3.perm ?_;rw [List.append_assoc, List.cons_append];exact (List.perm_middle.symm).cons _)
  simpa [AV.conc, hfn] using this
theorem Yye {w0 w : World} {M : List Nat} {R : RL} {K : Act -> World -> Prop} {Q : Exit -> Act -> World -> Prop} {a : Act} {T e : TypeId} {by_ m c n : Nat} {zs : Array Value} {s x : Operand} {v : Value} {A : Option Addr} {ts : List Ty} {xs ys : Dt} (h : St w0 M (.row v e ts.length n (Yl ts xs) :: R) w) (ht : SliceOf P T e ts.length by_ zs) (hz : zs.size = ts.length) (hsz : 0 < ts.length)
  (hs : a.eval s = v) (hx : a.eval x = .slice A m c) (hm : m = ys.length) (hn : n = xs.length) (hsrc : ys.length = 0 \/ ∃ b off, A = some ⟨b, off, none⟩ /\ ∀ j u, (Yl ts ys)[j]? = some u -> w.cell? ⟨b, off + j, none⟩ = some u) (h63 : n + m <= maxLen) (hb : (n + m) * by_ <= 140737488355328)
  (kk : ∀ v' w', (∃ g cap, v = .slice (some ⟨g, 0, none⟩) n cap /\ v' = .slice (some ⟨g, 0, none⟩) (n + m) cap /\ n <= cap /\ St w0 M (.row v' e ts.length (n + m) (Yl ts (xs ++ ys)) :: R) w') \/ ((v = .slice none 0 0 \/ v'.ownBlock ≠ v.ownBlock) /\ St w0 M (.row v' e ts.length (n + m) (Yl ts (xs ++ ys)) :: .row v e ts.length n (Yl ts xs) :: R) w') -> K (a.put dst v') w') :
  Oper.wp P { dst, op := .call { callee := .builtin .append, args := #[s, x], argTypes := #[T, T] }, type, pos, after, guard } a w K Q := by
 have hrow := h.row .head;rcases hrow.2 with ⟨rfl, rfl⟩ | ⟨g, cap, cur, rfl, hbg, hg, hnc, hcm, hcs, htake⟩
 ·refine Yhi h ht hz hsz hs hx hm hn hsrc h63 hb fun v' w' hS' => kk v' w' (.inr ⟨.inl rfl, ?_⟩);have := hS'.add (Ext.refl _) (r := .row (.slice none 0 0) e ts.length 0 (Yl ts xs)) ⟨hrow.1, .inl ⟨rfl, rfl⟩⟩ (by simp [Res.foot, Value.ownBlock]);exact this.perm (List.Perm.swap _ _ _)
 ·obtain ⟨i, z, hi, hz1, hz2, his, hib⟩ := ht.parts
  by_cases h0 : ys.length = 0
  ·have hys : ys = [] := List.length_eq_zero_iff.1 h0;subst hys;simp only [List.length_nil] at hm;subst hm;have hsrc : Src P i.size T (.slice A 0 c) 0 [] w := by
    cases A with
    | none => exact Src.ofNil w ht.1 c
    | some b => exact Src.ofSlice w ht.1 b 0 c [] (by simp) (by simp) (by simp)
   have hr := run_append_nothing w T T type e i ht.1 hi (some ⟨g, 0, none⟩) n cap hnc _ hsrc;have h4 := kk (.slice (some ⟨g, 0, none⟩) n cap) w (.inl ⟨g, cap, rfl, rfl, hnc, by simpa using h⟩);unfold Oper.wp execOp;simp only [resolve, invoke, builtin, Sem.run_bind, Sem.run_pure, Result.andThen_ok, List.map_toArray, List.map_cons, List.map_nil, hs, hx];rw [hr];exact h4
  ·obtain ⟨b, off, rfl, hcell⟩ := hsrc.resolve_left h0;have hl : (Yl ts ys).length = m * ts.length := by rw [Yq, hm]
   have hnews : ∀ j u, (Yl ts ys)[j]? = some u -> w.cell? ((⟨b, off, none⟩ : Addr).add j) = some u := fun j u hj => by rw [Yp]; exact hcell j u hj
   by_cases hroom : n + m <= cap
   ·have hfit : n * i.size + (Yl ts ys).length <= cur.size := by rw [hl, hcs, his, <- Nat.add_mul]; exact Nat.mul_le_mul_right _ hroom
    have hr := run_append_room (P := P) w T type e i ht.1 hi g n cap cur hg ⟨b, off, none⟩ m c (Yl ts ys) (by rw [hl, his]) hnews (Yhs ts ys) hroom hfit;have hlen : (Yl ts (xs ++ ys)).length = (n + m) * ts.length := by rw [Yq, List.length_append, <- hn, <- hm]
    have hS' := h.upd (w' := w.setRow g (cur.toList.take (n * i.size) ++ Yl ts ys ++ cur.toList.drop (n * i.size + (Yl ts ys).length)).toArray) (r' := .row (.slice (some ⟨g, 0, none⟩) (n + m) cap) e ts.length (n + m) (Yl ts (xs ++ ys))) .head
     ⟨rfl, rfl, rfl, by simp, fun k _ hk => setRow_other w g k _ (fun e => hk (by simp [Res.foot, Value.ownBlock, e]))⟩
     ⟨hlen, .inr ⟨g, cap, _, rfl, hbg, setRow_heap w g cur _ e _ hg, hroom, hcm, by
      simp only [List.size_toArray, List.length_append, List.length_take, List.length_drop, Array.length_toList];omega, by
      rw [his, htake, <- Ybb];simp only [];rw [<- hlen];exact List.take_left⟩⟩ (fun b' hb' => .inl (by simpa [Res.foot, Value.ownBlock] using hb'))
    have h4 := kk _ _ (.inl ⟨g, cap, rfl, rfl, hnc, hS'⟩);unfold Oper.wp execOp;simp only [resolve, invoke, builtin, Sem.run_bind, Sem.run_pure, Result.andThen_ok, List.map_toArray, List.map_cons, List.map_nil, hs, hx, hr, Oper.upon];exact h4
   ·obtain ⟨v', w', hr, ho', hgr⟩ := run_append_arg_grows (P := P) w T type e i z ts.length by_ ht.1 hi hz1 his hib (by rw [hz2, hz]) hsz ⟨g, 0, none⟩ n cap (Yl ts xs) hrow.1 (hrow.cells rfl)
     ⟨b, off, none⟩ m c (Yl ts ys) hl hnews (by omega) h63 hb
    rw [<- Ybb] at ho';have hext : Ext w w' := ⟨hgr.os, hgr.tape, hgr.output, hgr.size, fun k hk => hgr.block k hk (by simp)⟩;have hS' := h.add hext (r := .row v' e ts.length (n + m) (Yl ts (xs ++ ys))) ⟨ho'.1, ho'.2.imp (fun h => h) fun ⟨g, cap, cur, a, _, c⟩ => ⟨g, cap, cur, a, Nat.zero_le _, c⟩⟩ (fun b hb' => by
     simp only [Res.foot, Option.mem_toList] at hb';exact (ho'.lt b hb').1)
    have h4 := kk v' w' (.inr ⟨.inr (fun e => by
     have h5 := (ho'.lt g e).1;have h6 := (hrow.lt g rfl).2;omega), hS'⟩)
    unfold Oper.wp execOp;simp only [resolve, invoke, builtin, Sem.run_bind, Sem.run_pure, Result.andThen_ok, List.map_toArray, List.map_cons, List.map_nil, hs, hx, hr, Oper.upon];exact h4
theorem Y2u {T e : TypeId} {by_ id id' : Nat} {zs : List AV} {s x : Operand} {xv : AV} {hs : Heap} {ts : List Ty} {xs ys : Dt} (ht : (mkTI P T).slice = some (e, ts.length, by_, zs)) (hz : zs.length = ts.length) (hsz : 0 < ts.length) (hsv : At tm s (.rw id)) (hx : At tm x xv) (hxj : xv.rd = true) (hsrc : Yjy xv hs ts ys)
  (hne : id ∉ keys hs) (h63 : xs.length + ys.length <= maxLen) (hb : (xs.length + ys.length) * by_ <= 140737488355328) :
  Does P { dst, op := .call { callee := .builtin .append, args := #[s, x], argTypes := #[T, T] }, type, pos, after, guard } tm ((id, .arr e ts xs) :: hs) (.rw id') [(id, .bk e ts xs id')] [(id', .arr e ts (xs ++ ys))] :=
 fun φ w0 M R a w K Q ho hn hS kk => by
  have e1 := ho s (by simp [Op.operands, Call.operands]) _ hsv rfl;have e2 := ho x (by simp [Op.operands, Call.operands]) _ hx hxj;have hS0 : St w0 M (Yb φ hs ++ ((It.arr e ts xs).conc φ id :: R)) w := hS.perm (by simp only [Yb, List.map_cons, List.cons_append]; exact List.perm_middle.symm);obtain ⟨A, c, h1, h2⟩ := hsrc φ w0 M _ w hS0;rw [h1] at e2;have hS2 : St w0 M ((It.arr e ts xs).conc φ id :: (Yb φ hs ++ R)) w := by simpa [Yb] using hS
  have ef := (Yku hsz hS2).1;have hnx := (hn id' (by simp [keys])).2;unfold hasH at hnx;simp only [Bool.or_eq_false_iff] at hnx;have hid : id ≠ id' := Y4.1 hnx.1.1;refine Yye hS2 (Yi ht φ).1 (by simp [Yg, hz]) hsz e1 e2 rfl ef h2 (by rw [ef]; exact h63) (by rw [ef]; exact hb) fun v' w' hS' => ?_;obtain ⟨hd, hfn, rfl⟩ : ∃ hd : Hd, hd.fn = (φ id).fn + ys.length /\ v' = .slice (if hd.nil then none else some ⟨hd.b, 0, none⟩) ((φ id).fn + ys.length) hd.c := by
   rcases hS' with ⟨g, cap, _, _, _, h⟩ | ⟨_, h⟩ <;> exact Ymw (h.row .head)
  have hag := Ym φ id' hd;have eh : Yb (fun i => if i = id' then hd else φ i) hs = Yb φ hs := Ybm hag fun i hi => by rw [List.mem_singleton.1 hi]; exact hnx.2
  have e4 : Yh ((id, It.arr e ts xs) :: hs) [(id, .bk e ts xs id')] = (id, .bk e ts xs id') :: hs := by simp [Yh, upd, Nat.beq_refl]
  have e3 : Yb (fun i => if i = id' then hd else φ i) [(id', It.arr e ts (xs ++ ys))] = [.row (.slice (if hd.nil then none else some ⟨hd.b, 0, none⟩) ((φ id).fn + ys.length) hd.c) e ts.length ((φ id).fn + ys.length) (Yl ts (xs ++ ys))] := by simp [Yb, It.conc, hfn]
  have e5 : Yb (fun i => if i = id' then hd else φ i) ((id, .bk e ts xs id') :: hs) = Yv7 (φ id) hd e ts xs :: Yb φ hs := by rw [<- eh]; simp [Yb, It.conc, hid]
  have := kk _ w' hag (by
   rw [e4, Yn, e3, e5];rcases hS' with ⟨g, cap, q1, q2, q3, hS'⟩ | ⟨q, hS'⟩
   ·have p1 : (φ id).nil = false /\ (φ id).b = g /\ (φ id).c = cap := by
     cases hnl : (φ id).nil <;> simp_all
    have p2 : hd.nil = false /\ hd.b = g /\ hd.c = cap := by
     cases hnl : hd.nil <;> simp_all
    have e6 : Yv7 (φ id) hd e ts xs = .row (.slice none 0 0) 0 0 0 [] := by
     unfold Yv7;rw [if_pos ⟨p1.1, p2.1, by rw [p1.2.1, p2.2.1]⟩, if_pos ⟨by rw [p1.2.2, p2.2.2], ef, by rw [p1.2.2]; exact q3⟩]
    rw [e6];refine hS'.dead.perm ?_;rw [List.append_assoc, List.cons_append];exact (List.perm_middle.symm).cons _
   ·have e6 : Yv7 (φ id) hd e ts xs = .row (.slice (if (φ id).nil then none else some ⟨(φ id).b, 0, none⟩) (φ id).fn (φ id).c) e ts.length (φ id).fn (Yl ts xs) := by
     unfold Yv7;rw [if_neg];rintro ⟨c1, c2, c3⟩;rcases q with q | q
     ·simp [c1] at q
     ·exact q (by simp [c1, c2, c3, Value.ownBlock])
    rw [e6];refine hS'.perm ?_;rw [List.append_assoc, List.cons_append];refine (List.Perm.swap _ _ _).trans ?_;exact (List.perm_middle.symm).cons _)
  simpa [AV.conc, hfn] using this
theorem St.lentBack {w0 w : World} {M : List Nat} {R : RL} {φ : Phi} {T id j : Nat} {ts : List Ty} {xs zs : Dt} (hz : zs.take xs.length = xs) (h : St w0 M ((It.bk T ts xs j).conc φ id :: (It.arr T ts zs).conc φ j :: R) w) : St w0 M ((It.arr T ts xs).conc φ id :: It.dead.conc φ j :: R) w := by
 simp only [It.conc] at h ⊢;unfold Yv7 at h
 split at h
 ·rename_i hc
  split at h
  ·rename_i hd;have h1 := h.drop;have hrow := h1.row .head;have h2 := h1.upd (w' := w) (r' := .row (.slice (if (φ id).nil then none else some ⟨(φ id).b, 0, none⟩) (φ id).fn (φ id).c) T ts.length (φ id).fn (Yl ts xs)) .head (Kept.of (Below.refl _ _)) (by
    refine ⟨by rw [Yq, hd.2.1], .inr ?_⟩;rcases hrow.2 with ⟨e, _⟩ | ⟨g, cap, cur, hv, hbg, hg, hnc, hcm, hcs, htake⟩
    ·simp [hc.2.1] at e
    ·have hv' : (φ j).b = g /\ (φ j).c = cap := by simpa [hc.2.1] using hv
     refine ⟨g, cap, cur, by simp [hc.1, hc.2.2, hd.1, hv'.1, hv'.2], hbg, hg, by rw [<- hv'.2, <- hd.1]; exact hd.2.2, hcm, hcs, ?_⟩;have hl : xs.length <= zs.length := by rw [<- hz]; simp; omega
     have h3 : Yl ts zs = Yl ts xs ++ Yl ts (zs.drop xs.length) := by
      rw [<- Ybb]; conv => lhs; rw [<- List.take_append_drop xs.length zs, hz]
     have h4 := hrow.1;rw [h3, List.length_append, Yq] at h4;have h5 : xs.length * ts.length <= (φ j).fn * ts.length := by omega
     have h6 : cur.toList.take (xs.length * ts.length) = (cur.toList.take ((φ j).fn * ts.length)).take (xs.length * ts.length) := by rw [List.take_take, Nat.min_eq_left h5]
     rw [hd.2.1, h6, htake, h3, <- Yq ts xs];exact List.take_left) (fun b hb => .inl (by
      simp only [Res.foot, hc.1, hc.2.1, Value.ownBlock, Bool.false_eq_true, if_false, Option.toList, hc.2.2] at hb ⊢;exact hb))
   exact h2.dead.perm (List.Perm.swap _ _ _)
  ·have := (h.row .head).2;rcases this with ⟨_, e⟩ | ⟨_, _, _, e, _⟩ <;> cases e
 ·exact (h.perm (List.Perm.swap _ _ _)).drop.dead.perm (List.Perm.swap _ _ _)
end
end Go.Proofs.YtladoaeefkpdiaaGreatDoor
namespace Go.Proofs.YtladoaeefkpdiaaGreatDoor
open Go.RowKit
variable [InW]
attribute [local irreducible] Go.Oper.wp
def intK (x : AV) (K : IntKind -> Int -> Prop) (D : Prop) : Prop := match x with | .si k n => K k n | .v (.int k n) => K k n | _ => D
theorem Yb5 {x : AV} {K : IntKind -> Int -> Prop} {D : Prop} (h : intK x K D) : (∃ k n, K k n /\ (∀ φ, x.conc φ = .int k n) /\ x.rd = true) \/ D := by
 unfold intK at h
 split at h
 ·exact .inl ⟨_, _, h, fun φ => rfl, rfl⟩
 ·exact .inl ⟨_, _, h, fun φ => rfl, rfl⟩
 ·exact .inr h
def Yz5 (P : Program) (op : BinOp) (T : TypeId) (a b : AV) (K : K1) (D : Prop) : Prop :=
 match a, b with
 | .si ka m, .si kb n => binI op ka kb m n false K
 | .si ka m, .v (.int kb n) => binI op ka kb m n true K
 | .v (.int ka m), .si kb n => binI op ka kb m n false K
 | .sb p, .sb q => binB P op T p q K
 | .sb p, .v (.bool q) => binB P op T p q K
 | .v (.bool p), .sb q => binB P op T p q K
 | .ss s, .ss t => binS op s t K
 | .ss s, .v (.string t) => binS op s t K
 | .v (.string s), .ss t => binS op s t K
 | .agg xs, .agg ys => binA P op T (.agg xs) (.agg ys) K
 | .agg xs, .v (.agg ys) => binA P op T (.agg xs) (.v (.agg ys)) K
 | .v (.agg xs), .agg ys => binA P op T (.v (.agg xs)) (.agg ys) K
 | _, _ => D
def Y5n (v : Value) : Bool := match v with | .slice none _ _ => true | _ => false
def Ymo (P : Program) (T : TypeId) : Bool := match P.underlying T with | some (.slice _) => true | _ => false
def Yxd (c : Cx) (neq : Bool) (T : TypeId) (a b : AV) (hp : Heap) (k : KE) (D : Prop) : Prop :=
 match b with
 | .v (.slice none 0 0) => (match Ymo c.P T with
  | false => D
  | true => (match a with
   | .sl id off lo n => Yu hp id fun it => (match Ykf it with | true => k (.v (.bool neq)) [(id, it)] [] [] | false => D)
   | .rs ts r => (match neq with | true => k (.sb (!(Y5n r.v))) [] [] [] | false => k (.sb (Y5n r.v)) [] [] [])
   | .rw id => Yu hp id fun it => (match it with
    | .arr T' ts xs => Yc (Nat.ble 1 ts.length) (Need (decide (0 < xs.length)) (k (.v (.bool neq)) [(id, .arr T' ts xs)] [] []))
    | _ => D)
   | _ => D))
 | _ => D
def Y09 (c : Cx) (op : BinOp) (T : TypeId) (a b : AV) (hp : Heap) (k : KE) (D : Prop) : Prop :=
 match op with | .eql => Yxd c false T a b hp k D | .neq => Yxd c true T a b hp k D | _ => D
def Y5z (op : UnOp) (a : AV) (K : K1) (D : Prop) : Prop :=
 match a with
 | .si k n => (match op with | .neg => arK k (0 - n) K | _ => Stuck 320)
 | .sb b => (match op with | .not => K (.sb (!b)) | _ => Stuck 321)
 | _ => D
def Yvh (P : Program) (src dst : TypeId) (a : AV) (K : K1) (D : Prop) : Prop :=
 match a with
 | .si k n => (match P.underlying src, P.underlying dst with | some (.int _), some (.int k') => arK k' n K | _, _ => Stuck 322)
 | _ => D
def Yz1 (tm : List AV) (cnd x y : Operand) (K : K1) (D : Prop) : Prop :=
 evK tm cnd fun a => match a with
  | .sb b => evK tm x fun u => evK tm y fun v => (match u, v with
   | .sb p, .sb q => K (.sb (bif b then p else q))
   | .v (.bool p), .sb q => (match p with | true => K (.sb (b || q)) | false => K (.sb (!b && q)))
   | .sb p, .v (.bool q) => (match q with | true => K (.sb (!b || p)) | false => K (.sb (b && p)))
   | _, _ => Vif b (K u) (K v))
  | _ => D
def Ysw (i : Int) (sz : Nat) : Nat -> Nat -> Nat -> (Nat -> Prop) -> Prop
 | 0, _, _, _ => Stuck 380
 | 1, _, a, K => K a
 | r + 2, j, a, K => Vif (decide (i = (j : Int))) (K a) (Y3 (j + 1) fun j => Y3 (a + sz) fun a => Ysw i sz (r + 1) j a K)
theorem Yh8 {i : Int} {sz : Nat} {K : Nat -> Prop} : ∀ {r j a : Nat}, Ysw i sz r j a K -> (j : Int) <= i -> i < (j : Int) + r -> K (a + (i - j).toNat * sz)
 | 0, _, _, h, _, _ => h.elim
 | 1, j, a, h, h1, h2 => by
  have e : (i - j).toNat = 0 := by omega
  rw [e, Nat.zero_mul, Nat.add_zero];exact h
 | r + 2, j, a, h, h1, h2 => by
  unfold Ysw at h
  by_cases e : i = (j : Int)
  ·have := h.1 (by simp [e]);rw [show (i - j).toNat = 0 by omega, Nat.zero_mul, Nat.add_zero];exact this
  ·have h3 := Yk.1 (Yk.1 (h.2 (by simp [e])));have := Yh8 h3 (by omega) (by omega);rw [show (i - j).toNat = (i - ((j + 1 : Nat) : Int)).toNat + 1 by omega, Nat.succ_mul];rwa [show a + ((i - ((j + 1 : Nat) : Int)).toNat * sz + sz) = a + sz + (i - ((j + 1 : Nat) : Int)).toNat * sz by omega]
def uniB (k : IntKind) : List Ty -> Bool
 | [] => true
 | .int k' :: ts => (match decide (k' = k) with | true => uniB k ts | false => false)
 | _ => false
def uniK (ts : List Ty) : Option IntKind := match ts with | .int k :: us => (match Nat.ble 8 ts.length && uniB k us with | true => some k | false => none) | _ => none
theorem Ysj {k : IntKind} : ∀ {ts : List Ty}, uniB k ts = true -> ∀ t ∈ ts, t = .int k
 | [], _, _, ht => by cases ht
 | .int k' :: ts, h, t, ht => by
  unfold uniB at h
  split at h
  ·rename_i e;rcases List.mem_cons.1 ht with rfl | ht
   ·rw [of_decide_eq_true e]
   ·exact Ysj h t ht
  ·cases h
 | .bool :: _, h, _, _ => by cases h
 | .str :: _, h, _, _ => by cases h
 | .sl _ :: _, h, _, _ => by cases h
theorem Yzy {k : IntKind} {ts : List Ty} (h : uniK ts = some k) (j : Nat) (hj : j < ts.length) : tyAt ts j = .int k := by
 unfold uniK at h
 split at h
 ·split at h
  ·rename_i k' us e;cases h;simp only [Bool.and_eq_true] at e;rw [Yeb, List.getD_eq_getElem?_getD, List.getElem?_eq_getElem hj, Option.getD_some];rcases List.mem_cons.1 (List.getElem_mem hj) with h | h
   ·exact h
   ·exact Ysj e.2 _ h
  ·cases h
 ·cases h
def Yyo (k : IntKind) : List AV -> (List Int -> Prop) -> Prop
 | [], K => K []
 | .si k' n :: xs, K => Yc (decide (k' = k)) (Yyo k xs fun ns => K (n :: ns))
 | .v (.int k' n) :: xs, K => Yc (decide (k' = k)) (Yyo k xs fun ns => K (n :: ns))
 | _, _ => Stuck 391
def Y03 (xs : List AV) (K : IntKind -> List Int -> Prop) : Prop := match xs with | .si k _ :: _ => Yyo k xs (K k) | .v (.int k _) :: _ => Yyo k xs (K k) | _ => Stuck 390
theorem Yhm {k : IntKind} : ∀ {xs : List AV} {K : List Int -> Prop}, Yyo k xs K -> ∃ ns, K ns /\ ns.length = xs.length /\ ∀ φ, AV.concL φ xs = ns.map (Value.int k)
 | [], K, h => ⟨[], h, rfl, fun φ => rfl⟩
 | x :: xs, K, h => by
  unfold Yyo at h
  split at h
  ·rename_i e; cases e
  ·rename_i k' n xs' e;cases e;obtain ⟨h1, h2⟩ := Ya h;obtain rfl := of_decide_eq_true h1;obtain ⟨ns, h3, h4, h5⟩ := Yhm h2;exact ⟨_, h3, by simp [h4], fun φ => by simp [AV.concL, AV.conc, h5 φ]⟩
  ·rename_i k' n xs' e;cases e;obtain ⟨h1, h2⟩ := Ya h;obtain rfl := of_decide_eq_true h1;obtain ⟨ns, h3, h4, h5⟩ := Yhm h2;exact ⟨_, h3, by simp [h4], fun φ => by simp [AV.concL, AV.conc, h5 φ]⟩
  ·exact h.elim
theorem Ykd {xs : List AV} {K : IntKind -> List Int -> Prop} (h : Y03 xs K) : ∃ k ns, K k ns /\ ns.length = xs.length /\ ∀ φ, AV.concL φ xs = ns.map (Value.int k) := by
 unfold Y03 at h
 split at h
 ·obtain ⟨ns, h1, h2, h3⟩ := Yhm h; exact ⟨_, ns, h1, h2, h3⟩
 ·obtain ⟨ns, h1, h2, h3⟩ := Yhm h; exact ⟨_, ns, h1, h2, h3⟩
 ·exact h.elim
def selU (p j : Nat) (v o : Int) : Int := if p = j then v else o
def Y3p (kd : IntKind) (p : Nat) (v : Int) : Nat -> List Int -> (List AV -> Prop) -> Prop
 | _, [], K => K []
 | j, n :: ns, K => Y3 (j + 1) fun j' => Y3p kd p v j' ns fun r => K (.si kd (selU p j v n) :: r)
theorem Yo8 {kd : IntKind} {p : Nat} {v : Int} : ∀ {ns : List Int} {j : Nat} {K : List AV -> Prop}, Y3p kd p v j ns K -> ∃ cs, K cs /\ cs.length = ns.length /\ (∀ i, AV.hasL i cs = false) /\ Yfb cs = true /\ ∀ φ, AV.concL φ cs = if p < j then ns.map (Value.int kd) else (ns.map (Value.int kd)).set (p - j) (.int kd v)
 | [], j, K, h => ⟨[], h, rfl, fun _ => rfl, rfl, fun φ => by simp [AV.concL]⟩
 | n :: ns, j, K, h => by
  unfold Y3p at h;obtain ⟨cs, h1, h2, h3, h4, h5⟩ := Yo8 (Yk.1 h);refine ⟨_, h1, by simp [h2], fun i => by simp [AV.hasL, AV.has, h3 i], by simpa [Yfb, AV.one] using h4, fun φ => ?_⟩;simp only [AV.concL, AV.conc, h5 φ, selU];rcases Nat.lt_trichotomy p j with e | e | e
  ·simp [show p < j + 1 by omega, e, show p ≠ j by omega]
  ·subst e; simp
  ·obtain ⟨q, hq⟩ : ∃ q, p - j = q + 1 := ⟨p - j - 1, by omega⟩;rw [show p - (j + 1) = q by omega, hq];simp [show ¬ p < j + 1 by omega, show ¬ p < j by omega, show p ≠ j by omega]
def Yz4 (c : Cx) (T : TypeId) (s j : AV) (hp : Heap) (k : KE) (D : Prop) : Prop :=
 match s with
 | .rs ts r => intK j (fun kd i => tiK c.tt T fun ti => match ti.slice with
   | some (e, sz, by_, zs) => Yc (Nat.beq sz ts.length) (Need (decide (0 <= i) && decide (i < (r.xs.length : Int))) (k (.rp ts r i.toNat 0) [] [] []))
   | none => Stuck 323) (Stuck 324)
 | .rw id => intK j (fun kd i => Yu hp id fun it => match it with
   | .arr T' ts xs => tiK c.tt T fun ti => (match ti.slice with
    | some (e, sz, by_, zs) => Yc (Nat.beq sz ts.length && Nat.ble 1 sz) (Need (decide (0 <= i) && decide (i < (xs.length : Int))) (k (.ep id ts.length i.toNat 0) [(id, .arr T' ts xs)] [] []))
    | none => Stuck 325)
   | _ => Stuck 326) (Stuck 327)
 | .sl id off lo n => Yu hp id fun it => (match it with
   | .arr T' ts xs => intK j (fun kd i => tiK c.tt T fun ti => match ti.slice with
    | some (e, sz, by_, zs) => Yc (Nat.beq sz ts.length && Nat.ble 1 sz && Nat.beq off 0 && Nat.beq lo 0) (Need (decide (0 <= i) && decide (i < (n : Int)) && decide (n <= xs.length)) (k (.ep id ts.length i.toNat 0) [(id, .arr T' ts xs)] [] []))
    | none => Stuck 328) (Stuck 329)
   | _ => D)
 | .rwp id sz' l n => Yu hp id fun it => (match it with
   | .arr T' ts xs => intK j (fun kd i => tiK c.tt T fun ti => match ti.slice with
    | some (e, sz, by_, zs) => Yc (Nat.beq sz ts.length && Nat.beq sz' ts.length && Nat.ble 1 sz) (Need (decide (0 <= i) && decide (i < (n : Int)) && decide (l + n <= xs.length)) (k (.ep id ts.length (l + i.toNat) 0) [(id, .arr T' ts xs)] [] []))
    | none => Stuck 328) (Stuck 329)
   | _ => D)
 | .ptr id m => (match j with
  | .v (.int kd i) => tiK c.tt T fun ti => (match ti.arr with
   | some (n, sz, b) => Yx6 false i n m sz fun a => k (.ptr id a) [] [] []
   | none => Stuck 369)
  | .si kd i => tiK c.tt T fun ti => (match ti.arr with
   | some (n, sz, b) => Need (decide (0 <= i) && decide (i < (n : Int))) (match Nat.ble 8 n && (Nat.beq sz 1 && Nat.beq m 0) with
    | true => k (.ep id 1 i.toNat 0) [] [] []
    | false => Ysw i sz n 0 m fun a => k (.ptr id a) [] [] [])
   | none => Stuck 384)
  | _ => Stuck 370)
 | .ep id sz r o => intK j (fun kd i => tiK c.tt T fun ti => (match ti.arr with
   | some (n, sz', b) => Yc (Nat.beq sz' 1 && Nat.beq o 0) (Need (decide (0 <= i) && decide (i < (n : Int))) (k (.ep id sz r i.toNat) [] [] []))
   | none => Stuck 385)) (Stuck 386)
 | _ => D
def Yva (c : Cx) (T : TypeId) (p : AV) (hp : Heap) (k : KE) (D : Prop) : Prop :=
 match p with
 | .rp ts r i j => tiK c.tt T fun ti => (match ti.agg with
   | some false => Yc (Nat.blt j ts.length) (Need (decide (i < r.xs.length)) (k (Ypj r i j) [] [] []))
   | some true => (match ti.size with | some n => Yc (Nat.ble (j + n) ts.length) (Need (decide (i < r.xs.length)) (k (.agg (Ye0 r i j n)) [] [] [])) | none => Stuck 330)
   | none => Stuck 331)
 | .ep id sz i j => Yu hp id fun it => (match it with
   | .blk T' cs => Yc (Nat.beq sz 1 && Nat.beq j 0) (tiK c.tt T fun ti => match ti.agg with
    | some false => Y03 cs fun kd ns => Need (decide (i < ns.length)) (k (.si kd (ns.getD i 0)) [(id, .blk T' cs)] [] [])
    | _ => Stuck 387)
   | .arr T' ts xs => Yc (Nat.beq sz ts.length) (tiK c.tt T fun ti => match ti.agg with
    | some false => match uniK ts with
     | some kd => Need (decide (j < ts.length) && decide (i < xs.length)) (k (.si kd (cel xs i j).int) [(id, .arr T' ts xs)] [] [])
     | none => Yc (Nat.blt j ts.length) (Need (decide (i < xs.length)) (k (Yie (tyAt ts j) (cel xs i j)) [(id, .arr T' ts xs)] [] []))
    | some true => (match ti.size with | some n => Yc (Nat.ble (j + n) ts.length) (Need (decide (i < xs.length)) (k (.agg (Ydn ts xs i j n)) [(id, .arr T' ts xs)] [] [])) | none => Stuck 332)
    | none => Stuck 333)
   | _ => Stuck 334)
 | _ => D
def Yz0 (ts : List Ty) (xs : Dt) (i j n : Nat) (vs : List AV) (K : List Cl -> Prop) : Prop :=
 match j, Nat.beq n ts.length with
 | 0, true => clsK ts vs K
 | _, _ => Ykq ts j fun t1 => Yiu t1 n fun t2 => clsK t2 vs fun cs => K (Yc0 (xs.getD i []) j cs)
def Yqv (c : Cx) (T : TypeId) (p v : AV) (hp : Heap) (k : KE) (D : Prop) : Prop :=
 match p with
 | .ep id sz i j => Yu hp id fun it => (match it with
   | .blk T' cs => Yc (Nat.beq sz 1 && Nat.beq j 0) (tiK c.tt T fun ti => (match ti.size with
    | some n => intK v (fun kv u => Y03 cs fun kd ns => Yc (decide (kv = kd) && Nat.beq n 1) (Need (decide (i < ns.length)) (Y3p kd i u 0 ns fun cs' => k (.v undef) [(id, .blk T' cs)] [(id, .blk T' cs')] []))) (Stuck 388)
    | none => Stuck 389))
   | .arr T' ts xs => Yc (Nat.beq sz ts.length) (tiK c.tt T fun ti => match ti.size with
    | some n => Yjv v fun vs => Yc (lenB vs n && Yfb vs && Nat.ble 1 n && Nat.ble (j + n) ts.length) (Yz0 ts xs i j n vs fun row =>
      Need (decide (i < xs.length)) (k (.v undef) [(id, .arr T' ts xs)] [(id, .arr T' ts (xs.set i row))] []))
    | none => Stuck 335)
   | _ => Stuck 336)
 | _ => D
def Yq1 (c : Cx) (T : TypeId) (i : Nat) (p : AV) (k : KE) (D : Prop) : Prop :=
 match p with
 | .rp ts r j o => tiK c.tt T fun ti => getK ti.fields i fun f => (match f with | some (off, n + 1) => fN false (o + off) fun o => k (.rp ts r j o) [] [] [] | _ => Stuck 337)
 | .ep id sz j o => tiK c.tt T fun ti => getK ti.fields i fun f => (match f with | some (off, n + 1) => fN false (o + off) fun o => k (.ep id sz j o) [] [] [] | _ => Stuck 338)
 | _ => D
def Yz3 (c : Cx) (tys : List TypeId) (v : AV) (hp : Heap) (k : KE) (D : Prop) : Prop :=
 match v with
 | .rs ts r => (match tys with | [T] => tiK c.tt T fun ti => (match ti.slice with | some _ => k (.si .i64 (r.xs.length : Int)) [] [] [] | none => Stuck 339) | _ => Stuck 340)
 | .rw id => Yu hp id fun it => (match it with
   | .arr T' ts xs => (match tys with | [T] => tiK c.tt T fun ti => (match ti.slice with | some _ => Yc (Nat.ble 1 ts.length) (k (.si .i64 (xs.length : Int)) [(id, .arr T' ts xs)] [] []) | none => Stuck 341) | _ => Stuck 342)
   | _ => Stuck 343)
 | .sl id off lo n => Yu hp id fun it => (match it with
   | .arr T' ts xs => (match tys with | [T] => tiK c.tt T fun ti => (match ti.slice with | some _ => k (.si .i64 (n : Int)) [] [] [] | none => Stuck 344) | _ => Stuck 345)
   | _ => D)
 | .rwp id sz' l n => (match tys with | [T] => tiK c.tt T fun ti => (match ti.slice with | some _ => k (.si .i64 (n : Int)) [] [] [] | none => Stuck 344) | _ => Stuck 345)
 | _ => D
def Y3i (mx : Bool) (a b : AV) (K : K1) (D : Prop) : Prop :=
 match a, b with
 | .si ka m, .si kb n => Yc (decide (ka = kb)) (match mx with | true => K (.si ka (max m n)) | false => K (.si ka (min m n)))
 | .si ka m, .v (.int kb n) => Yc (decide (ka = kb)) (match mx with | true => K (.si ka (max m n)) | false => K (.si ka (min m n)))
 | .v (.int ka m), .si kb n => Yc (decide (ka = kb)) (match mx with | true => K (.si ka (max m n)) | false => K (.si ka (min m n)))
 | _, _ => D
def Ydw (tm : List AV) (x : Option Operand) (dflt : Nat) (K : Nat -> Prop) : Prop :=
 match x with
 | none => K dflt
 | some x => evK tm x fun v => (match v with | .v (.int _ (.ofNat n)) => K n | .si _ i => Need (decide (0 <= i)) (K i.toNat) | _ => Stuck 346)
def Yqx (c : Cx) (T : TypeId) (tm : List AV) (s : AV) (lo hi mx : Option Operand) (hp : Heap) (k : KE) (D : Prop) : Prop :=
 match s with
 | .rs ts r => (match mx with
   | none => tiK c.tt T fun ti => (match ti.slice with
    | some (e, sz, by_, zs) => Yc (Nat.beq sz ts.length) (Ydw tm lo 0 fun l => Ydw tm hi r.xs.length fun h => Need (decide (l <= h) && decide (h <= r.xs.length)) (k (.rs ts (r.cut l h)) [] [] []))
    | none => Stuck 347)
   | some m => (match lo with
    | none => tiK c.tt T fun ti => (match ti.slice with
     | some (e, sz, by_, zs) => Yc (Nat.beq sz ts.length) (Ydw tm hi 1 fun h => Ydw tm (some m) 1 fun m => Yc (Nat.beq h 0 && Nat.beq m 0) (k (.rs ts r.zero) [] [] []))
     | none => Stuck 347)
    | some _ => Stuck 348))
 | .rw id => Yu hp id fun it => (match it with
   | .arr T' ts xs => (match mx with
    | none => tiK c.tt T fun ti => (match ti.slice with
     | some (e, sz, by_, zs) => Yc (Nat.beq sz ts.length && Nat.ble 1 sz) (Ydw tm lo 0 fun l => Ydw tm hi xs.length fun h => Need (decide (l <= h) && decide (h <= xs.length)) (k (.rwp id ts.length l (h - l)) [(id, .arr T' ts xs)] [] []))
     | none => Stuck 347)
    | some _ => Stuck 348)
   | _ => D)
 | _ => D
def Ycc (ts : List Ty) (x : AV) (hp : Heap) (K : Heap -> Dt -> Prop) : Prop :=
 match x with
 | .v (.slice _ n _) => Yc (Nat.beq n 0) (K [] [])
 | .emp _ => K [] []
 | .rs ts' r => Yc (sameTs ts' ts) (K [] r.xs)
 | .rw id => Yu hp id fun it => (match it with | .arr T' ts' xs => Yc (sameTs ts' ts) (K [(id, .arr T' ts' xs)] xs) | _ => Stuck 349)
 | .sl id off lo m => Yu hp id fun it => (match it with
   | .row T' sz n cs => (match Nat.beq m 0 with
    | true => K [] []
    | false => Yy2 (.row T' sz n cs) off m ts.length fun news => Ys5 ts m news fun ys => K [(id, .row T' sz n cs)] ys)
   | .arr T' ts' xs => Yc (sameTs ts' ts && Nat.beq off 0 && Nat.beq lo 0) (Need (decide (m <= xs.length)) (K [(id, .arr T' ts' xs)] (xs.take m)))
   | _ => Stuck 350)
 | .rwp id sz' l m => Yu hp id fun it => (match it with
   | .arr T' ts' xs => Yc (sameTs ts' ts && Nat.beq sz' ts.length) (Need (decide (l + m <= xs.length)) (K [(id, .arr T' ts' xs)] ((xs.drop l).take m)))
   | _ => Stuck 350)
 | _ => Stuck 351
where
 sameTy : Ty -> Ty -> Bool
  | .int k, .int k' => decide (k = k')
  | .bool, .bool => true
  | .str, .str => true
  | _, _ => false
 sameTs : List Ty -> List Ty -> Bool
  | [], [] => true
  | t :: ts, u :: us => match sameTy t u with | true => sameTs ts us | false => false
  | _, _ => false
def Y7j (s x : AV) (hp : Heap) : Bool :=
 match s, x with
 | .rw _, _ => true
 | _, .rw _ => true
 | _, .rwp _ _ _ _ => true
 | _, .rs _ _ => true
 | _, .sl id _ _ _ => (match look hp id with | some (.row _ _ _ cs) => anySym cs | some (.arr _ _ _) => true | _ => false)
 | _, _ => false
where
 anySym : List AV -> Bool
  | [] => false
  | .si _ _ :: _ => true
  | .sb _ :: _ => true
  | .ss _ :: _ => true
  | _ :: xs => anySym xs
def Yco (c : Cx) (T : TypeId) (id' : Nat) (s x : AV) (hp : Heap) (k : KE) : Prop :=
 tiK c.tt T fun ti => match ti.slice with
  | none => Stuck 352
  | some (e, sz, by_, zs) => Yc (lenB zs sz && Nat.ble 1 sz && Nat.ble 1 by_) (match s with
   | .v (.slice none 0 0) => tysK zs fun ts => Ycc ts x hp fun hs ys => Need (decide (ys.length * by_ <= 140737488355328)) (k (.rw id') hs [] [(id', .arr e ts ys)])
   | .rs _ q => tysK zs fun ts => Ycc ts x hp fun hs ys => Need (decide (q.xs.length = 0) && decide (capV q.v = 0) && decide (0 < ys.length) && decide (ys.length * by_ <= 140737488355328)) (k (.rw id') hs [] [(id', .arr e ts ys)])
   | .rw id => Yu hp id fun it => (match it with
    | .arr T' ts xs => Yc (Nat.beq T' e && Nat.beq ts.length sz) (Ycc ts x hp fun hs ys => Yc (disjB hs [(id, it)]) (Need (decide ((xs.length + ys.length) * by_ <= 140737488355328)) (k (.rw id') ((id, .arr T' ts xs) :: hs) [(id, .bk e ts xs id')] [(id', .arr e ts (xs ++ ys))])))
    | _ => Stuck 353)
   | .sl id off lo n => Yu hp id fun it => (match it with
    | .row T' sz' n' cs => Yc (Nat.beq T' e && Nat.beq sz' sz && Nat.beq n' n && Nat.beq off 0 && Nat.beq lo 0) (tysK zs fun ts => Ys5 ts n cs fun xs => Ycc ts x hp fun hs ys => Yc (disjB hs [(id, it)]) (Need (decide ((xs.length + ys.length) * by_ <= 140737488355328)) (k (.rw id') ((id, .row T' sz' n' cs) :: hs) [(id, .dead)] [(id', .arr e ts (xs ++ ys))])))
    | _ => Stuck 354)
   | _ => Stuck 355)
where
 disjB : Heap -> Heap -> Bool
  | [], _ => true
  | p :: a, b => match look b p.1 with | none => disjB a b | some _ => false
def Yu9 (c : Cx) (T : TypeId) (id : Nat) (x y : AV) (k : KE) (D : Prop) : Prop :=
 match x with
 | .si kl n => intK y (fun kc m => tiK c.tt T fun ti => match ti.slice with
   | none => Stuck 356
   | some (e, sz, by_, zs) => Yc (lenB zs sz && Nat.ble 1 by_) (tysK zs fun ts => Need (decide (n = m) && decide (0 <= n) && decide (by_ * n.toNat <= 281474976710656)) (k (.rw id) [] [] [(id, .arr e ts (List.replicate n.toNat (Ybs ts)))]))) (Stuck 357)
 | _ => D
def Yme (c : Cx) (T : TypeId) (ok : Bool) (m i : AV) (hp : Heap) (k : KE) (D : Prop) : Prop :=
 match m with
 | .mp id => Yu hp id fun it => (match it with
  | .obj (.mpI es) => (match ok with
   | false => intK i (fun kd n => Yc (decide (kd = .i64) && Ytr c.P T) (k (.si .i64 (getI es n)) [(id, .obj (.mpI es))] [] [])) (Stuck 371)
   | true => Stuck 372)
  | _ => D)
 | _ => D
def Yl7 (c : Cx) (T : TypeId) (m i v : AV) (hp : Heap) (k : KE) (D : Prop) : Prop :=
 match m with
 | .mp id => Yu hp id fun it => (match it with
  | .obj (.mpI es) => intK i (fun kd n => intK v (fun ke u => Yc (decide (kd = .i64) && decide (ke = .i64) && Ytr c.P T) (k (.v undef) [(id, .obj (.mpI es))] [(id, .obj (.mpI (setI es n u)))] [])) (Stuck 373)) (Stuck 374)
  | _ => D)
 | _ => D
def Yz2 (p : AV) (k : KE) (D : Prop) : Prop :=
 match p with
 | .ep id sz i j => k (.ep id sz i j) [] [] []
 | .rp ts r i j => k (.rp ts r i j) [] [] []
 | _ => D
def Ymf (c : Cx) (T : TypeId) (s j : AV) (k : KE) (D : Prop) : Prop :=
 match s, j with
 | .agg cs, .si kd i => tiK c.tt T fun ti => (match ti.arr with
  | some (n, sz, false) => Y03 cs fun kn ns => Yc (Nat.beq sz 1 && Nat.beq ns.length n) (Need (decide (0 <= i) && decide (i < (n : Int))) (k (.si kn (ns.getD i.toNat 0)) [] [] []))
  | _ => Stuck 392)
 | _, _ => D
def Ymg (P : Program) (T : TypeId) (i : Nat) (s : AV) (k : KE) (D : Prop) : Prop :=
 match s with
 | .agg cs => (match P.underlying T with
  | some (.struct fs) => (match fs[i]? with | some f => subK P f.type cs f.offset fun x => k x [] [] [] | none => Stuck 393)
  | _ => Stuck 394)
 | _ => D
def Yet (c : Cx) (o : Oper) (tm : List AV) (hp : Heap) (k kp : KE) : Prop :=
 match o.op with
 | .binOp op T x y _ => evK tm x fun a => evK tm y fun b => Yz5 c.P op T a b (fun v => k v [] [] []) (Y09 c op T a b hp k (Yd1 c o tm hp k kp))
 | .unOp op _ x => evK tm x fun a => Y5z op a (fun v => k v [] [] []) (Yd1 c o tm hp k kp)
 | .convert s d x => evK tm x fun a => Yvh c.P s d a (fun v => k v [] [] []) (Yd1 c o tm hp k kp)
 | .pick b x y => Yz1 tm b x y (fun v => k v [] [] []) (Yd1 c o tm hp k kp)
 | .indexAddr T x ix => evK tm x fun s => evK tm ix fun j => Yz4 c T s j hp k (Yd1 c o tm hp k kp)
 | .index T x ix => evK tm x fun s => evK tm ix fun j => Ymf c T s j k (Yd1 c o tm hp k kp)
 | .field T x i => evK tm x fun s => Ymg c.P T i s k (Yd1 c o tm hp k kp)
 | .load T x => evK tm x fun p => Yva c T p hp k (Yd1 c o tm hp k kp)
 | .store T x y => evK tm x fun p => evK tm y fun v => Yqv c T p v hp k (Yd1 c o tm hp k kp)
 | .fieldAddr T x i => evK tm x fun p => Yq1 c T i p k (Yd1 c o tm hp k kp)
 | .slice T x lo hi mx => evK tm x fun s => Yqx c T tm s lo hi mx hp k (Yd1 c o tm hp k kp)
 | .makeSlice T x y => evK tm x fun x => evK tm y fun y => Yu9 c T (3 * o.dst.getD 0) x y k (Yd1 c o tm hp k kp)
 | .nilCheck x => evK tm x fun p => Yz2 p k (Yd1 c o tm hp k kp)
 | .lookup T x ix ok => evK tm x fun m => evK tm ix fun i => Yme c T ok m i hp k (Yd1 c o tm hp k kp)
 | .mapUpdate T x ix y => evK tm x fun m => evK tm ix fun i => evK tm y fun v => Yl7 c T m i v hp k (Yd1 c o tm hp k kp)
 | .call cl => (match cl.callee with
  | .builtin b => (match b, cl.args.toList with
   | .len, [x] => evK tm x fun v => Yz3 c cl.argTypes.toList v hp k (Yd1 c o tm hp k kp)
   | .min, [x, y] => evK tm x fun a => evK tm y fun b => Y3i false a b (fun v => k v [] [] []) (Yd1 c o tm hp k kp)
   | .max, [x, y] => evK tm x fun a => evK tm y fun b => Y3i true a b (fun v => k v [] [] []) (Yd1 c o tm hp k kp)
   | .append, [s, x] => evK tm s fun s => evK tm x fun x => (match Y7j s x hp with
    | true => (match cl.argTypes.toList with | [T, T'] => Yc (Nat.beq T T') (Yco c T (3 * o.dst.getD 0) s x hp k) | _ => Stuck 358)
    | false => Yd1 c o tm hp k kp)
   | _, _ => Yd1 c o tm hp k kp)
  | _ => Yd1 c o tm hp k kp)
 | _ => Yd1 c o tm hp k kp
end Go.Proofs.YtladoaeefkpdiaaGreatDoor
namespace Go.Proofs.YtladoaeefkpdiaaGreatDoor
open Go.RowKit
variable [InW]
attribute [local irreducible] Go.Oper.wp
section
variable {P : Program} {tm : List AV} {dst : Option Tmp} {type : TypeId} {pos : String} {after : Array Edge} {guard : Option (Nat × Bool)}
theorem Yvi {op : BinOp} {T : TypeId} {a b : AV} {K : K1} {D : Prop} (h : Yz5 P op T a b K D) (x y : Operand) : (∃ r, K r /\ ∀ φ, Yjz P op T x y (a.conc φ) (b.conc φ) (r.conc φ)) \/ D := by
 unfold Yz5 at h
 split at h
 ·exact .inl (Yn5 h T x y)
 ·exact .inl (Yn5 h T x y)
 ·exact .inl (Yn5 h T x y)
 ·exact .inl (Yn6 h x y)
 ·exact .inl (Yn6 h x y)
 ·exact .inl (Yn6 h x y)
 ·exact .inl (Yn4 h x y)
 ·exact .inl (Yn4 h x y)
 ·exact .inl (Yn4 h x y)
 ·exact .inl (Yn7 h x y (fun φ => ⟨_, rfl⟩) (fun φ => ⟨_, rfl⟩))
 ·exact .inl (Yn7 h x y (fun φ => ⟨_, rfl⟩) (fun φ => ⟨_, rfl⟩))
 ·exact .inl (Yn7 h x y (fun φ => ⟨_, rfl⟩) (fun φ => ⟨_, rfl⟩))
 ·exact .inr h
theorem Y7k {op : UnOp} {T : TypeId} {x : Operand} {a r : AV} (hx : At tm x a) (ja : a.rd = true) (h : ∀ φ w, (Op.unary op (a.conc φ)).run P w = .ok (r.conc φ) w) : Does P { dst, op := .unOp op T x, type, pos, after, guard } tm [] r [] [] :=
 Does.pure fun φ ac ho w => by
  have e := ho x (by simp [Op.operands]) _ hx ja;unfold execOp;simp only [e, Sem.run_bind, h φ w, Result.andThen_ok, Sem.run_pure]
theorem Yx9 {op : UnOp} {a : AV} {K : K1} {D : Prop} (h : Y5z op a K D) : (∃ r, K r /\ a.rd = true /\ ∀ φ w, (Op.unary op (a.conc φ)).run P w = .ok (r.conc φ) w) \/ D := by
 unfold Y5z at h
 split at h
 ·split at h
  ·obtain ⟨h⟩ := h;exact .inl ⟨_, h, rfl, fun φ w => by simp [AV.conc, Op.unary, Op.intArith]⟩
  ·exact h.elim
 ·split at h
  ·exact .inl ⟨_, h, rfl, fun φ w => by simp [AV.conc, Op.unary]⟩
  ·exact h.elim
 ·exact .inr h
theorem Yst {src dst' : TypeId} {a : AV} {K : K1} {D : Prop} (h : Yvh P src dst' a K D) : (∃ r, K r /\ a.rd = true /\ ∀ φ w, (convert src dst' (a.conc φ)).run P w = .ok (r.conc φ) w) \/ D := by
 unfold Yvh at h
 split at h
 ·split at h
  ·rename_i k1 k2 h1 h2;obtain ⟨h⟩ := h;exact .inl ⟨_, h, rfl, fun φ w => by simp [AV.conc, convert, Sem.run_bind, run_underlying h1 w, run_underlying h2 w, Conv.intToInt]⟩
  ·exact h.elim
 ·exact .inr h
theorem Y6x {c x y : Operand} {cv u v r : AV} {b : Bool} (hc : At tm c cv) (hcj : cv.rd = true) (hcv : ∀ φ, cv.conc φ = .bool b) (hx : At tm x u) (hxj : u.rd = true) (hy : At tm y v) (hyj : v.rd = true) (hr : ∀ φ, r.conc φ = if b then u.conc φ else v.conc φ) : Does P { dst, op := .pick c x y, type, pos, after, guard } tm [] r [] [] :=
 fun φ w0 M R a w K Q ho _ hS kk => by
  have e1 := ho.ev (x := c) (by simp [Op.operands]) hc hcj;rw [hcv φ] at e1;refine Y5k e1 (v := r.conc φ) ?_ (kk φ w (Agree.refl _ _) hS);rw [hr φ];cases b
  ·exact ho.ev (x := y) (by simp [Op.operands]) hy hyj
  ·exact ho.ev (x := x) (by simp [Op.operands]) hx hxj
theorem Ysm {cnd x y : Operand} {K : K1} {D : Prop} (h : Yz1 tm cnd x y K D) : (∃ r, K r /\ Does P { dst, op := .pick cnd x y, type, pos, after, guard } tm [] r [] []) \/ D := by
 obtain ⟨cv, hcj, hc, h1⟩ := Yd h
 split at h1
 ·rename_i b;obtain ⟨u, hxj, hx, h2⟩ := Yd h1;obtain ⟨v, hyj, hy, h3⟩ := Yd h2;have fin : ∀ r : AV, K r -> (∀ φ, r.conc φ = if b then u.conc φ else v.conc φ) -> (∃ r, K r /\ Does P { dst, op := .pick cnd x y, type, pos, after, guard } tm [] r [] []) \/ D := fun r hk hr =>
   .inl ⟨r, hk, Y6x hc hcj (fun φ => rfl) hx hxj hy hyj hr⟩
  split at h3
  ·exact fin _ h3 fun φ => by cases b <;> rfl
  ·split at h3
   ·exact fin _ h3 fun φ => by cases b <;> rfl
   ·exact fin _ h3 fun φ => by cases b <;> rfl
  ·split at h3
   ·exact fin _ h3 fun φ => by cases b <;> rfl
   ·exact fin _ h3 fun φ => by cases b <;> rfl
  ·rcases h3.spec with ⟨rfl, h4⟩ | ⟨rfl, h4⟩
   ·exact fin _ h4 fun φ => rfl
   ·exact fin _ h4 fun φ => rfl
 ·exact .inr h1
def Res1 (P : Program) (o : Oper) (tm : List AV) (hp : Heap) (k : KE) : Prop := ∃ val hs us nw, k val hs us nw /\ PartOf hs hp /\ (∀ i ∈ keys us, i ∈ keys hs) /\ Does P o tm hs val us nw
theorem Ys {hs : Heap} : ∀ i ∈ keys ([] : Heap), i ∈ keys hs := by intro i hi; simp [keys] at hi
theorem Yzn {T : TypeId} {n sz m : Nat} {b : Bool} {x ix : Operand} {id : Nat} {kd : IntKind} {i : Int} (ht : (mkTI P T).arr = some (n, sz, b)) (hx : At tm x (.ptr id m)) (hi : At tm ix (.v (.int kd i))) (h0 : 0 <= i) (h1 : i < (n : Int)) :
  Does P { dst, op := .indexAddr T x ix, type, pos, after, guard } tm [] (.ptr id (m + i.toNat * sz)) [] [] :=
 Does.pure fun φ ac ho w => by
  obtain ⟨e, hu, hs, _⟩ := Yfw ht;have e1 := ho x (by simp [Op.operands]) _ hx (by simp);have e2 := ho ix (by simp [Op.operands]) _ hi (by simp);unfold execOp;simp only [Instr.indexAt, Instr.sureAddr, e1, e2, AV.conc, asIntOf, Sem.run_bind, Sem.run_pure, Result.andThen_ok, run_underlying hu w, h0, h1, and_self, if_true, Ybc hs, Yp]
theorem Ynu {T : TypeId} {n sz m : Nat} {b : Bool} {x ix : Operand} {id : Nat} {kd : IntKind} {i : Int} (ht : (mkTI P T).arr = some (n, sz, b)) (hx : At tm x (.ptr id m)) (hi : At tm ix (.si kd i)) (h0 : 0 <= i) (h1 : i < (n : Int)) :
  Does P { dst, op := .indexAddr T x ix, type, pos, after, guard } tm [] (.ptr id (m + i.toNat * sz)) [] [] :=
 Does.pure fun φ ac ho w => by
  obtain ⟨e, hu, hs, _⟩ := Yfw ht;have e1 := ho x (by simp [Op.operands]) _ hx (by simp);have e2 := ho ix (by simp [Op.operands]) _ hi (by simp);unfold execOp;simp only [Instr.indexAt, Instr.sureAddr, e1, e2, AV.conc, asIntOf, Sem.run_bind, Sem.run_pure, Result.andThen_ok, run_underlying hu w, h0, h1, and_self, if_true, Ybc hs, Yp]
theorem Y2l {T : TypeId} {n sz r : Nat} {b : Bool} {x ix : Operand} {id : Nat} {kd : IntKind} {i : Int} {j : AV} (ht : (mkTI P T).arr = some (n, 1, b)) (hx : At tm x (.ep id sz r 0)) (hi : At tm ix j) (hr : j.rd = true) (hc : ∀ φ, j.conc φ = .int kd i) (h0 : 0 <= i) (h1 : i < (n : Int)) :
  Does P { dst, op := .indexAddr T x ix, type, pos, after, guard } tm [] (.ep id sz r i.toNat) [] [] :=
 Does.pure fun φ ac ho w => by
  obtain ⟨e, hu, hs, _⟩ := Yfw ht;have e1 := ho x (by simp [Op.operands]) _ hx (by simp);have e2 := ho ix (by simp [Op.operands]) _ hi hr;rw [hc φ] at e2;unfold execOp;simp only [Instr.indexAt, Instr.sureAddr, e1, e2, AV.conc, asIntOf, Sem.run_bind, Sem.run_pure, Result.andThen_ok, run_underlying hu w, h0, h1, and_self, if_true, Ybc hs, Yp, Nat.add_zero, Nat.mul_one]
theorem Y60 {T T' : TypeId} {x : Operand} {id i : Nat} {cs : List AV} {kd : IntKind} {ns : List Int} (ha : Yfp P T false) (hx : At tm x (.ep id 1 i 0)) (hc : ∀ φ, AV.concL φ cs = ns.map (Value.int kd)) (hi : i < ns.length) : Does P { dst, op := .load T x, type, pos, after, guard } tm [(id, .blk T' cs)] (.si kd (ns.getD i 0)) [] [] :=
 fun φ w0 M R a w K Q ho _ hS kk => by
  have h2 := Yr (ho.ev (x := x) (by simp [Op.operands]) hx (by simp));simp only [AV.conc, Nat.mul_one, Nat.add_zero] at h2;have hv : ((It.blk T' cs).vals φ)[i]? = some (.int kd (ns.getD i 0)) := by
   simp [It.vals, hc φ, hi, List.getD_eq_getElem?_getD]
  unfold Oper.wp execOp;simp only [h2, Sem.run_bind, Ycx ha (Ybg hS hv), Result.andThen_ok, Sem.run_pure, Oper.upon];exact kk φ w (Agree.refl _ _) hS
theorem Y4p {T T' : TypeId} {x y : Operand} {id i : Nat} {cs cs' : List AV} {v : AV} {kd : IntKind} {u : Int} {ns : List Int} (hs : Ycd P T 1) (hx : At tm x (.ep id 1 i 0)) (hy : At tm y v) (hj : v.rd = true) (hv : ∀ φ, v.conc φ = .int kd u) (hc : ∀ φ, AV.concL φ cs = ns.map (Value.int kd)) (hi : i < ns.length) (hc' : ∀ φ, AV.concL φ cs' = (ns.map (Value.int kd)).set i (.int kd u)) :
  Does P { dst, op := .store T x y, type, pos, after, guard } tm [(id, .blk T' cs)] (.v undef) [(id, .blk T' cs')] [] :=
 fun φ w0 M R a w K Q ho _ hS kk => by
  have h2 := Yr (ho.ev (x := x) (by simp [Op.operands]) hx (by simp));have h3 := Yr (ho.ev (x := y) (by simp [Op.operands]) hy hj);simp only [AV.conc, Nat.mul_one, Nat.add_zero] at h2;rw [hv φ] at h3;refine Ysy (v := .int kd u) hS hs h2 h3 (by simp [Value.cells]) (fun w hw => by simp [Value.cells] at hw; subst hw; rfl) (by rw [hc φ]; simp; omega) fun w' hS' => ?_;have e : Yb9 (AV.concL φ cs).toArray i (Value.int kd u).cells.toList = (AV.concL φ cs').toArray := by
   apply Array.ext';rw [Ycn _ _ _ (by rw [hc φ]; simp [Value.cells]; omega), hc φ, hc' φ];rw [List.set_eq_take_append_cons_drop, if_pos (by simpa using hi)];simp [Value.cells]
  rw [e] at hS';exact kk φ w' (Agree.refl _ _) (by simpa [Yh, upd, Nat.beq_refl, Yb, It.conc] using hS')
theorem Yvd {c : Cx} (ht : TabOk c.P c.tt) {T : TypeId} {s j : AV} {x ix : Operand} {hp : Heap} {k : KE} {D : Prop} (hx : At tm x s) (hj : At tm ix j) (h : Yz4 c T s j hp k D) : Res1 c.P { dst, op := .indexAddr T x ix, type, pos, after, guard } tm hp k \/ D := by
 unfold Yz4 at h
 split at h
 ·rename_i ts r;rcases Yb5 h with ⟨kd, i, h1, hc, hr⟩ | h1
  ·have h2 := Yj ht h1
   split at h2
   ·rename_i e sz by_ zs hs;obtain ⟨h3, h4⟩ := Ya h2;obtain ⟨h5, h6⟩ := h4;simp only [Bool.and_eq_true, decide_eq_true_eq] at h5;exact .inl ⟨_, _, _, _, h6, .nil _, Ys, Y2k hs (Ye.1 h3) hx hj hr hc h5.1 h5.2⟩
   ·exact h2.elim
  ·exact h1.elim
 ·rename_i id;rcases Yb5 h with ⟨kd, i, h1, hc, hr⟩ | h1
  ·obtain ⟨it, hl, h2⟩ := Yf h1
   split at h2
   ·have h3 := Yj ht h2
    split at h3
    ·rename_i e sz by_ zs hs;obtain ⟨h4, h5⟩ := Ya h3;obtain ⟨h6, h7⟩ := h5;simp only [Bool.and_eq_true, decide_eq_true_eq, Nat.ble_eq, Ye] at h4 h6;exact .inl ⟨_, _, _, _, h7, .one hl, Ys, Yun hs h4.1 (by omega) hx (.inl ⟨rfl, rfl⟩) hj hr hc h6.1 h6.2⟩
    ·exact h3.elim
   ·exact h2.elim
  ·exact h1.elim
 ·rename_i id off lo n;obtain ⟨it, hl, h2⟩ := Yf h
  split at h2
  ·rcases Yb5 h2 with ⟨kd, i, h1, hc, hr⟩ | h1
   ·have h3 := Yj ht h1
    split at h3
    ·rename_i e sz by_ zs hs;obtain ⟨h4, h5⟩ := Ya h3;obtain ⟨h6, h7⟩ := h5;simp only [Bool.and_eq_true, decide_eq_true_eq, Nat.ble_eq, Ye] at h4 h6;obtain ⟨⟨⟨h41, h42⟩, rfl⟩, rfl⟩ := h4;exact .inl ⟨_, _, _, _, h7, .one hl, Ys, Yun hs h41 (by omega) hx (.inr ⟨rfl, h6.2⟩) hj hr hc h6.1.1 h6.1.2⟩
    ·exact h3.elim
   ·exact h1.elim
  ·exact .inr h2
 ·rename_i id sz' l n;obtain ⟨it, hl, h2⟩ := Yf h
  split at h2
  ·rcases Yb5 h2 with ⟨kd, i, h1, hc, hr⟩ | h1
   ·have h3 := Yj ht h1
    split at h3
    ·rename_i e sz by_ zs hs;obtain ⟨h4, h5⟩ := Ya h3;obtain ⟨h6, h7⟩ := h5;simp only [Bool.and_eq_true, decide_eq_true_eq, Nat.ble_eq, Ye] at h4 h6;obtain ⟨⟨h41, rfl⟩, h42⟩ := h4;exact .inl ⟨_, _, _, _, h7, .one hl, Ys, Yzm hs h41 (by omega) hx h6.2 hj hr hc h6.1.1 h6.1.2⟩
    ·exact h3.elim
   ·exact h1.elim
  ·exact .inr h2
 ·rename_i id m
  split at h
  ·have h2 := Yj ht h
   split at h2
   ·rename_i n sz b hq;obtain ⟨h3, h4, h5⟩ := Yhg h2;exact .inl ⟨_, _, _, _, h5, .nil _, Ys, Yzn hq hx hj h3 h4⟩
   ·exact h2.elim
  ·have h2 := Yj ht h
   split at h2
   ·rename_i n sz b hq;obtain ⟨h3, h4⟩ := h2;simp only [Bool.and_eq_true, decide_eq_true_eq] at h3
    split at h4
    ·rename_i hb;simp only [Bool.and_eq_true, Ye] at hb;obtain ⟨_, rfl, rfl⟩ := hb;have hd := Ynu (dst := dst) (type := type) (pos := pos) (after := after) (guard := guard) hq hx hj h3.1 h3.2;refine .inl ⟨_, _, _, _, h4, .nil _, Ys, fun φ w0 M R ac w K Q ho hn hS kk => hd φ w0 M R ac w K Q ho hn hS fun φ' w' ha hS' => ?_⟩;have := kk φ' w' ha hS';simpa [AV.conc] using this
    ·have h5 := Yh8 h4 (by omega) (by omega);rw [Int.natCast_zero, Int.sub_zero] at h5;exact .inl ⟨_, _, _, _, h5, .nil _, Ys, Ynu hq hx hj h3.1 h3.2⟩
   ·exact h2.elim
  ·exact h.elim
 ·rename_i id sz r o;rcases Yb5 h with ⟨kd, i, h1, hc, hr⟩ | h1
  ·have h2 := Yj ht h1
   split at h2
   ·rename_i n sz' b hq;obtain ⟨h3, h4⟩ := Ya h2;obtain ⟨h5, h6⟩ := h4;simp only [Bool.and_eq_true, Ye] at h3;obtain ⟨rfl, rfl⟩ := h3;simp only [Bool.and_eq_true, decide_eq_true_eq] at h5;exact .inl ⟨_, _, _, _, h6, .nil _, Ys, Y2l hq hx hj hr hc h5.1 h5.2⟩
   ·exact h2.elim
  ·exact h1.elim
 ·exact .inr h
theorem Yso {c : Cx} (ht : TabOk c.P c.tt) {T : TypeId} {p : AV} {x : Operand} {hp : Heap} {k : KE} {D : Prop} (hx : At tm x p) (h : Yva c T p hp k D) : Res1 c.P { dst, op := .load T x, type, pos, after, guard } tm hp k \/ D := by
 unfold Yva at h
 split at h
 ·have h1 := Yj ht h
  split at h1
  ·rename_i ha;obtain ⟨h2, h3⟩ := Ya h1;obtain ⟨h4, h5⟩ := h3;exact .inl ⟨_, _, _, _, h5, .nil _, Ys, Y2i (Ycr ha) hx (of_decide_eq_true h4) (by simpa [Nat.blt_eq] using h2)⟩
  ·rename_i ha
   split at h1
   ·rename_i n hn;obtain ⟨h2, h3⟩ := Ya h1;obtain ⟨h4, h5⟩ := h3;exact .inl ⟨_, _, _, _, h5, .nil _, Ys, Y2h (Ycr ha) (Ycq hn) hx (of_decide_eq_true h4) (by simpa [Nat.ble_eq] using h2)⟩
   ·exact h1.elim
  ·exact h1.elim
 ·obtain ⟨it, hl, h0⟩ := Yf h
  split at h0
  ·obtain ⟨hz, h00⟩ := Ya h0;simp only [Bool.and_eq_true, Ye] at hz;obtain ⟨rfl, rfl⟩ := hz;have h1 := Yj ht h00
   split at h1
   ·rename_i ha;obtain ⟨kd, ns, h2, h3, h4⟩ := Ykd h1;obtain ⟨h5, h6⟩ := h2;exact .inl ⟨_, _, _, _, h6, .one hl, Ys, Y60 (Ycr ha) hx h4 (of_decide_eq_true h5)⟩
   ·exact h1.elim
  ·obtain ⟨hz, h00⟩ := Ya h0;obtain rfl := Ye.1 hz;have h1 := Yj ht h00
   split at h1
   ·rename_i ha
    split at h1
    ·rename_i kd hk;obtain ⟨h2, h3⟩ := h1;simp only [Bool.and_eq_true, decide_eq_true_eq] at h2;have hd := fun T'' => Yul (T' := T'') (dst := dst) (type := type) (pos := pos) (after := after) (guard := guard) (Ycr ha) hx h2.2 h2.1;rw [Yzy hk _ h2.1] at hd;exact .inl ⟨_, _, _, _, h3, .one hl, Ys, hd _⟩
    obtain ⟨h2, h3⟩ := Ya h1;obtain ⟨h4, h5⟩ := h3;exact .inl ⟨_, _, _, _, h5, .one hl, Ys, Yul (Ycr ha) hx (of_decide_eq_true h4) (by simpa [Nat.blt_eq] using h2)⟩
   ·rename_i ha
    split at h1
    ·rename_i n hn;obtain ⟨h2, h3⟩ := Ya h1;obtain ⟨h4, h5⟩ := h3;exact .inl ⟨_, _, _, _, h5, .one hl, Ys, Y2j (Ycr ha) (Ycq hn) hx (of_decide_eq_true h4) (by simpa [Nat.ble_eq] using h2)⟩
    ·exact h1.elim
   ·exact h1.elim
  ·exact h0.elim
 ·exact .inr h
theorem Yu7 {ts : List Ty} {xs : Dt} {i j n : Nat} {vs : List AV} {K : List Cl -> Prop} (hn : vs.length = n) (hj : j + n <= ts.length) (h : Yz0 ts xs i j n vs K) :
  ∃ row, K row /\ ∀ φ, Yz ts row = (Yz ts (xs.getD i [])).take j ++ AV.concL φ vs ++ (Yz ts (xs.getD i [])).drop (j + n) := by
 have key : (Ykq ts j fun t1 => Yiu t1 n fun t2 => clsK t2 vs fun cs => K (Yc0 (xs.getD i []) j cs)) -> ∃ row, K row /\ ∀ φ, Yz ts row = (Yz ts (xs.getD i [])).take j ++ AV.concL φ vs ++ (Yz ts (xs.getD i [])).drop (j + n) := fun h => by
  obtain ⟨h1, h2⟩ := Yb8 h;obtain ⟨h3, h4⟩ := Ybw h2;obtain ⟨cs, h5, h6, h7, h8, _⟩ := Yhf h4;have hl : ((ts.drop j).take n).length = n := by simp; omega
  refine ⟨_, h5, fun φ => ?_⟩;rw [Yo1 ts _ j cs (by omega), h7, hl, h6 φ]
 unfold Yz0 at h;cases j with
 | zero =>
  cases hb : Nat.beq n ts.length with
  | true =>
   rw [hb] at h;have e := Ye.1 hb;obtain ⟨cs, h1, h2, h3, h4, _⟩ := Yhf h;refine ⟨cs, h1, fun φ => ?_⟩;rw [h2 φ, Nat.zero_add, List.drop_eq_nil_of_le (by rw [Ybr]; omega)];simp
  | false => rw [hb] at h; exact key h
 | succ j => exact key h
theorem Yqu {c : Cx} (ht : TabOk c.P c.tt) {T : TypeId} {p v : AV} {x y : Operand} {hp : Heap} {k : KE} {D : Prop} (hx : At tm x p) (hy : At tm y v) (hj : v.rd = true) (h : Yqv c T p v hp k D) : Res1 c.P { dst, op := .store T x y, type, pos, after, guard } tm hp k \/ D := by
 unfold Yqv at h
 split at h
 ·obtain ⟨it, hl, h0⟩ := Yf h
  split at h0
  ·obtain ⟨hz, h00⟩ := Ya h0;simp only [Bool.and_eq_true, Ye] at hz;obtain ⟨rfl, rfl⟩ := hz;have h1 := Yj ht h00
   split at h1
   ·rename_i n hn;rcases Yb5 h1 with ⟨kv, u, h2, hc, hr⟩ | h2
    ·obtain ⟨kd, ns, h3, h4, h5⟩ := Ykd h2;obtain ⟨h6, h7⟩ := Ya h3;simp only [Bool.and_eq_true, Ye, decide_eq_true_eq] at h6;obtain ⟨rfl, rfl⟩ := h6;obtain ⟨h8, h9⟩ := h7;obtain ⟨cs', g1, g2, g3, g4, g5⟩ := Yo8 h9;exact .inl ⟨_, _, _, _, g1, .one hl, fun i hi => by simpa [keys] using hi, Y4p (Ycq hn) hx hy hj hc h5 (of_decide_eq_true h8) fun φ => by have := g5 φ; simpa using this⟩
    ·exact h2.elim
   ·exact h1.elim
  ·obtain ⟨hz, h00⟩ := Ya h0;obtain rfl := Ye.1 hz;have h1 := Yj ht h00
   split at h1
   ·rename_i n hn;obtain ⟨vs, h2, hc, _⟩ := Ydk h1;obtain ⟨h3, h4⟩ := Ya h2;simp only [Bool.and_eq_true, Nat.ble_eq] at h3;obtain ⟨⟨⟨h31, h32⟩, h33⟩, h34⟩ := h3;obtain ⟨row, h5, h6⟩ := Yu7 (Y2 h31) h34 h4;obtain ⟨h7, h8⟩ := h5;exact .inl ⟨_, _, _, _, h8, .one hl, fun i hi => by simpa [keys] using hi, Y18 (Ycq hn) hx hy hj hc (Y2 h31) (by omega) h32 (of_decide_eq_true h7) h34 h6⟩
   ·exact h1.elim
  ·exact h0.elim
 ·exact .inr h
theorem Yon {c : Cx} (ht : TabOk c.P c.tt) {T : TypeId} {s j : AV} {x ix : Operand} {hp : Heap} {k : KE} {D : Prop} (hx : At tm x s) (hj : At tm ix j) (h : Ymf c T s j k D) : Res1 c.P { dst, op := .index T x ix, type, pos, after, guard } tm hp k \/ D := by
 unfold Ymf at h
 split at h
 ·rename_i cs kd i;have h1 := Yj ht h
  split at h1
  ·rename_i n sz hq;obtain ⟨kn, ns, h2, h3, h4⟩ := Ykd h1;obtain ⟨h5, h6⟩ := Ya h2;simp only [Bool.and_eq_true, Ye] at h5;obtain ⟨rfl, h5⟩ := h5;obtain ⟨h7, h8⟩ := h6;simp only [Bool.and_eq_true, decide_eq_true_eq] at h7;refine .inl ⟨_, _, _, _, h8, .nil _, Ys, Does.pure fun φ a ho w => ?_⟩;obtain ⟨e, hu, hs, hb⟩ := Yfw hq;have e1 := ho x (by simp [Op.operands]) _ hx (by simp);have e2 := ho ix (by simp [Op.operands]) _ hj (by simp);simp only [AV.conc] at e1 e2;have hv : (AV.concL φ cs).toArray[i.toNat * 1]? = some (.int kn (ns.getD i.toNat 0)) := by
    have hi : i.toNat < ns.length := by omega
    simp [h4 φ, hi, List.getD_eq_getElem?_getD]
   simp only [execOp, Instr.index, e1, e2, asIntOf, Sem.run_bind, Sem.run_pure, Result.andThen_ok, run_underlying hu w, h7.1, h7.2, and_self, if_true, Ybc hs, part, Yc2 hb, Bool.false_eq_true, if_false, hv, AV.conc]
  ·exact h1.elim
 ·exact .inr h
theorem Yoo {P : Program} {T : TypeId} {i : Nat} {s : AV} {x : Operand} {hp : Heap} {k : KE} {D : Prop} (hx : At tm x s) (h : Ymg P T i s k D) : Res1 P { dst, op := .field T x i, type, pos, after, guard } tm hp k \/ D := by
 unfold Ymg at h
 split at h
 ·rename_i cs
  split at h
  ·rename_i fs hu
   split at h
   ·rename_i f hf;obtain ⟨v, h1, h2⟩ := Ygg h;refine .inl ⟨_, _, _, _, h1, .nil _, Ys, Does.pure fun φ a ho w => ?_⟩;have e1 := ho x (by simp [Op.operands]) _ hx (by simp);simp only [AV.conc] at e1;simp only [execOp, Instr.field, e1, Sem.run_bind, Sem.run_pure, Result.andThen_ok, run_underlying hu w, hf, asAgg, h2 φ w]
   ·exact h.elim
  ·exact h.elim
 ·exact .inr h
theorem Yq0 {c : Cx} (ht : TabOk c.P c.tt) {T : TypeId} {i : Nat} {p : AV} {x : Operand} {hp : Heap} {k : KE} {D : Prop} (hx : At tm x p) (h : Yq1 c T i p k D) : Res1 c.P { dst, op := .fieldAddr T x i, type, pos, after, guard } tm hp k \/ D := by
 unfold Yq1 at h
 split at h
 ·have h1 := Yj ht h;obtain ⟨f, h2, h3⟩ := Ybh h1
  split at h3
  ·exact .inl ⟨_, _, _, _, Yhb.1 h3, .nil _, Ys, Y2m (Yfe h2) hx⟩
  ·exact h3.elim
 ·have h1 := Yj ht h;obtain ⟨f, h2, h3⟩ := Ybh h1
  split at h3
  ·exact .inl ⟨_, _, _, _, Yhb.1 h3, .nil _, Ys, Yuo (Yfe h2) hx⟩
  ·exact h3.elim
 ·exact .inr h
theorem Yvb {c : Cx} (ht : TabOk c.P c.tt) {tys : Array TypeId} {v : AV} {x : Operand} {hp : Heap} {k : KE} {D : Prop} (hx : At tm x v) (hj : v.rd = true) (h : Yz3 c tys.toList v hp k D) :
  Res1 c.P { dst, op := .call { callee := .builtin .len, args := #[x], argTypes := tys }, type, pos, after, guard } tm hp k \/ D := by
 obtain ⟨tys⟩ := tys;unfold Yz3 at h
 split at h
 ·rename_i ts r
  split at h
  ·rename_i T hT;have hT : tys = [T] := hT;subst hT;have h1 := Yj ht h
   split at h1
   ·rename_i q hq;obtain ⟨e, sz, by_, zs⟩ := q;refine .inl ⟨_, _, _, _, h1, .nil _, Ys, Yhd hq hx hj fun φ w0 M R w hS => ?_⟩;obtain ⟨A, c, hv, _⟩ := r.inv;exact ⟨A, c, hv⟩
   ·exact h1.elim
  ·exact h.elim
 ·rename_i id;obtain ⟨it, hl, h0⟩ := Yf h
  split at h0
  ·split at h0
   ·rename_i T hT;have hT : tys = [T] := hT;subst hT;have h1 := Yj ht h0
    split at h1
    ·rename_i q hq;obtain ⟨e, sz, by_, zs⟩ := q;obtain ⟨h2, h3⟩ := Ya h1;refine .inl ⟨_, _, _, _, h3, .one hl, Ys, Yhd hq hx hj fun φ w0 M R w hS => ?_⟩;have := (Yku (Nat.le_of_ble_eq_true h2) (by simpa [Yb] using hS)).1;exact ⟨_, _, by simp only [AV.conc, this]; rfl⟩
    ·exact h1.elim
   ·exact h0.elim
  ·exact h0.elim
 ·rename_i id off lo n;obtain ⟨it, hl, h0⟩ := Yf h
  split at h0
  ·split at h0
   ·rename_i T hT;have hT : tys = [T] := hT;subst hT;have h1 := Yj ht h0
    split at h1
    ·rename_i q hq;obtain ⟨e, sz, by_, zs⟩ := q;exact .inl ⟨_, _, _, _, h1, .nil _, Ys, Yhd hq hx hj fun φ w0 M R w hS => ⟨_, _, rfl⟩⟩
    ·exact h1.elim
   ·exact h0.elim
  ·exact .inr h0
 ·split at h
  ·rename_i T hT;have hT : tys = [T] := hT;subst hT;have h1 := Yj ht h
   split at h1
   ·rename_i q hq;obtain ⟨e, sz, by_, zs⟩ := q;exact .inl ⟨_, _, _, _, h1, .nil _, Ys, Yhd hq hx hj fun φ w0 M R w hS => ⟨_, _, rfl⟩⟩
   ·exact h1.elim
  ·exact h.elim
 ·exact .inr h
def mmB : Bool -> Builtin
 | true => .max
 | false => .min
theorem d_mm {mx : Bool} {x y : Operand} {a b : AV} {k : IntKind} {m n : Int} (hx : At tm x a) (hxj : a.rd = true) (hy : At tm y b) (hyj : b.rd = true) (ha : ∀ φ, a.conc φ = .int k m) (hb : ∀ φ, b.conc φ = .int k n) (tys : Array TypeId) :
  Does P { dst, op := .call { callee := .builtin (mmB mx), args := #[x, y], argTypes := tys }, type, pos, after, guard } tm [] (.si k (match mx with | true => max m n | false => min m n)) [] [] :=
 Does.pure fun φ ac ho w => by
  have e1 := ho x (by simp [Op.operands, Call.operands]) _ hx hxj;have e2 := ho y (by simp [Op.operands, Call.operands]) _ hy hyj;rw [ha φ] at e1;rw [hb φ] at e2;unfold execOp;cases mx with
  | true =>
   have e : (if m < n then n else m) = max m n := by rw [Int.max_def]; split <;> split <;> omega
   simp only [mmB, resolve, invoke, builtin, Sem.run_bind, Sem.run_pure, Result.andThen_ok, List.map_toArray, List.map_cons, List.map_nil, e1, e2, run_max_int2, AV.conc, e]
  | false =>
   have e : (if n < m then n else m) = min m n := by rw [Int.min_def]; split <;> split <;> omega
   simp only [resolve, invoke, builtin, Sem.run_bind, Sem.run_pure, Result.andThen_ok, List.map_toArray, List.map_cons, List.map_nil, e1, e2, run_min_int2, AV.conc, e, mmB]
theorem Yo3 {mx : Bool} {a b : AV} {x y : Operand} {K : K1} {D : Prop} (hx : At tm x a) (hxj : a.rd = true) (hy : At tm y b) (hyj : b.rd = true) (tys : Array TypeId) (h : Y3i mx a b K D) :
  (∃ r, K r /\ Does P { dst, op := .call { callee := .builtin (mmB mx), args := #[x, y], argTypes := tys }, type, pos, after, guard } tm [] r [] []) \/ D := by
 unfold Y3i at h
 split at h
 ·obtain ⟨h1, h2⟩ := Ya h;obtain rfl := of_decide_eq_true h1;exact .inl (by cases mx <;> exact ⟨_, h2, d_mm hx hxj hy hyj (fun φ => rfl) (fun φ => rfl) tys⟩)
 ·obtain ⟨h1, h2⟩ := Ya h;obtain rfl := of_decide_eq_true h1;exact .inl (by cases mx <;> exact ⟨_, h2, d_mm hx hxj hy hyj (fun φ => rfl) (fun φ => rfl) tys⟩)
 ·obtain ⟨h1, h2⟩ := Ya h;obtain rfl := of_decide_eq_true h1;exact .inl (by cases mx <;> exact ⟨_, h2, d_mm hx hxj hy hyj (fun φ => rfl) (fun φ => rfl) tys⟩)
 ·exact .inr h
theorem Y6 {x : Option Operand} {dflt : Nat} {K : Nat -> Prop} (h : Ydw tm x dflt K) : ∃ n, K n /\ BoundS tm x dflt n := by
 unfold Ydw at h
 split at h
 ·exact ⟨_, h, rfl⟩
 ·rename_i x;obtain ⟨v, hj, hx, h1⟩ := Yd h
  split at h1
  ·exact ⟨_, h1, _, _, hx, hj, fun φ => rfl⟩
  ·rename_i k i;obtain ⟨h2, h3⟩ := h1;have := of_decide_eq_true h2;exact ⟨_, h3, _, _, hx, hj, fun φ => show Value.int k i = .int k ((i.toNat : Nat) : Int) by rw [Int.toNat_of_nonneg this]⟩
  ·exact h1.elim
theorem Yqw {c : Cx} (ht : TabOk c.P c.tt) {T : TypeId} {s : AV} {x : Operand} {lo hi mx : Option Operand} {hp : Heap} {k : KE} {D : Prop} (hx : At tm x s) (h : Yqx c T tm s lo hi mx hp k D) : Res1 c.P { dst, op := .slice T x lo hi mx, type, pos, after, guard } tm hp k \/ D := by
 unfold Yqx at h
 split at h
 ·split at h
  ·have h1 := Yj ht h
   split at h1
   ·rename_i e sz by_ zs hs;obtain ⟨h2, h3⟩ := Ya h1;obtain ⟨l, h4, hl⟩ := Y6 h3;obtain ⟨hh, h5, hhi⟩ := Y6 h4;obtain ⟨h6, h7⟩ := h5;simp only [Bool.and_eq_true, decide_eq_true_eq] at h6;exact .inl ⟨_, _, _, _, h7, .nil _, Ys, Y2a hs (Ye.1 h2) hx hl hhi h6.1 h6.2⟩
   ·exact h1.elim
  ·rename_i m
   split at h
   ·have h1 := Yj ht h
    split at h1
    ·rename_i e sz by_ zs hs;obtain ⟨h2, h3⟩ := Ya h1;obtain ⟨l, h4, hl⟩ := Y6 h3;obtain ⟨hh, h5, hhi⟩ := Y6 h4;obtain ⟨h6, h7⟩ := Ya h5;simp only [Bool.and_eq_true, Ye] at h6;obtain ⟨rfl, rfl⟩ := h6;cases hi with
     | none => exact absurd hl (by simp [BoundS])
     | some hi => exact .inl ⟨_, _, _, _, h7, .nil _, Ys, Y4s hs hx hl hhi⟩
    ·exact h1.elim
   ·exact h.elim
 ·rename_i id;obtain ⟨it, hl, h0⟩ := Yf h
  split at h0
  ·split at h0
   ·have h1 := Yj ht h0
    split at h1
    ·rename_i e sz by_ zs hs;obtain ⟨h2, h3⟩ := Ya h1;simp only [Bool.and_eq_true, Nat.ble_eq, Ye] at h2;obtain ⟨l, h4, hlo⟩ := Y6 h3;obtain ⟨hh, h5, hhi⟩ := Y6 h4;obtain ⟨h6, h7⟩ := h5;simp only [Bool.and_eq_true, decide_eq_true_eq] at h6;exact .inl ⟨_, _, _, _, h7, .one hl, Ys, Y19 hs h2.1 (by omega) hx hlo hhi h6.1 h6.2⟩
    ·exact h1.elim
   ·exact h0.elim
  ·exact .inr h0
 ·exact .inr h
theorem Y9 : ∀ {ts us : List Ty}, Ycc.sameTs ts us = true -> ts = us /\ ∀ k, ∀ ts', tyAt ts k ≠ .sl ts'
 | [], [], _ => ⟨rfl, fun k ts' h => by cases h⟩
 | t :: ts, u :: us, h => by
  unfold Ycc.sameTs at h
  split at h
  ·rename_i h1;obtain ⟨h2, h3⟩ := Y9 h;have e : t = u /\ ∀ ts', t ≠ .sl ts' := by
    cases t <;> cases u <;> simp_all [Ycc.sameTy]
   refine ⟨by rw [e.1, h2], fun k ts' => ?_⟩;cases k with
   | zero => exact e.2 ts'
   | succ k => exact h3 k ts'
  ·cases h
 | [], _ :: _, h => by simp [Ycc.sameTs] at h
 | _ :: _, [], h => by simp [Ycc.sameTs] at h
theorem Ykm {ts : List Ty} {xs : Dt} (hts : 0 < ts.length) {j : Nat} {u : Value} (h : (Yl ts xs)[j]? = some u) : ∃ i k, i < xs.length /\ k < ts.length /\ j = i * ts.length + k /\ u = (tyAt ts k).val (cel xs i k) := by
 have hj : j < xs.length * ts.length := by rw [<- Yq]; exact (List.getElem?_eq_some_iff.1 h).1
 have hi : j / ts.length < xs.length := (Nat.div_lt_iff_lt_mul hts).2 hj;have hk : j % ts.length < ts.length := Nat.mod_lt _ hts;have e : j = j / ts.length * ts.length + j % ts.length := by rw [Nat.mul_comm]; exact (Nat.div_add_mod j ts.length).symm
 refine ⟨_, _, hi, hk, e, ?_⟩;rw [e, Yjo ts xs _ _ hi hk, List.getElem?_eq_getElem hk, Option.map_some, Option.some.injEq] at h;rw [<- h, Yeb, List.getD_eq_getElem?_getD, List.getElem?_eq_getElem hk, Option.getD_some]
theorem RdV.scalar {t : Ty} {u : Value} {c : Cl} (h : RdV t u c) (ht : ∀ ts, t ≠ .sl ts) : u = t.val c := by
 cases t with
 | int k => exact h.isInt
 | bool => exact h.isBool
 | str => exact h.isStr
 | sl ts => exact absurd rfl (ht ts)
theorem srcRo {ts : List Ty} (hts : 0 < ts.length) (hsc : ∀ k ts', tyAt ts k ≠ .sl ts') (r : Ro ts) (hs : Heap) : Yjy (.rs ts r) hs ts r.xs := fun φ w0 M R w hS => by
 obtain ⟨A, c, hv, _, _, u, h1, _⟩ := r.inv;refine ⟨A, c, hv, ?_⟩;rcases Nat.eq_zero_or_pos r.xs.length with h0 | h0
 ·exact .inl h0
 ·obtain ⟨b, off, rfl, hb, _⟩ := h1 (fun e => by rw [e] at h0; simp at h0);refine .inr ⟨b, off, rfl, fun j u hu => ?_⟩;obtain ⟨i, k, hi, hk, rfl, rfl⟩ := Ykm hts hu;have h2 := r.cell hi hk;rw [<- (r.ok i k).scalar (hsc k)];have := Y1v hS h2.2 h2.1;rwa [hv] at this
theorem Yz9 {ts : List Ty} (hts : 0 < ts.length) {T id n : Nat} {xs : Dt} {x : AV} (h : OwnSl T ts xs id n x) : Yjy x [(id, .arr T ts xs)] ts (xs.take n) := fun φ w0 M R w hS => by
 have hS' : St w0 M ((It.arr T ts xs).conc φ id :: R) w := by simpa [Yb] using hS
 obtain ⟨hc, hn⟩ := h.conc hts hS';have hl : (xs.take n).length = n := by simp; omega
 refine ⟨_, _, by rw [hc, hl], ?_⟩;rcases Nat.eq_zero_or_pos n with h0 | h0
 ·exact .inl (by rw [hl, h0])
 ·rw [Ydm hts (by omega) hS'];refine .inr ⟨_, _, rfl, fun j u hu => ?_⟩;obtain ⟨i, k, hi, hk, rfl, rfl⟩ := Ykm hts hu;rw [hl] at hi;have e : cel (xs.take n) i k = cel xs i k := by
   have : (xs.take n).getD i [] = xs.getD i [] := by simp only [List.getD_eq_getElem?_getD, List.getElem?_take, if_pos hi]
   unfold cel; rw [this]
  rw [Nat.zero_add, e, <- Yey φ];exact Ybg hS' (Ylt (T := T) (by omega) hk φ)
theorem Yz7 {ts : List Ty} (hts : 0 < ts.length) {T id l n : Nat} {xs : Dt} (hl : l + n <= xs.length) : Yjy (.rwp id ts.length l n) [(id, .arr T ts xs)] ts ((xs.drop l).take n) := fun φ w0 M R w hS => by
 have hS' : St w0 M ((It.arr T ts xs).conc φ id :: R) w := by simpa [Yb] using hS
 have hlen : ((xs.drop l).take n).length = n := by simp; omega
 rcases Nat.eq_zero_or_pos n with h0 | h0
 ·refine ⟨_, _, by rw [hlen]; rfl, .inl (by rw [hlen, h0])⟩
 ·refine ⟨_, _, by rw [Yhl hts hS' hl h0, hlen], .inr ⟨_, _, rfl, fun j u hu => ?_⟩⟩;obtain ⟨i, k, hi, hk, rfl, rfl⟩ := Ykm hts hu;rw [hlen] at hi;have e : cel ((xs.drop l).take n) i k = cel xs (l + i) k := by
   have : ((xs.drop l).take n).getD i [] = xs.getD (l + i) [] := by simp only [List.getD_eq_getElem?_getD, List.getElem?_take, if_pos hi, List.getElem?_drop]
   unfold cel; rw [this]
  rw [e, <- Yey φ, <- Nat.add_assoc, <- Nat.add_mul];exact Ybg hS' (Ylt (T := T) (by omega) hk φ)
theorem Yvk {x : AV} {hs : Heap} {ts : List Ty} (h : ∀ φ, ∃ A c, x.conc φ = .slice A 0 c) : Yjy x hs ts [] := fun φ w0 M R w hS => by
 obtain ⟨A, c, e⟩ := h φ;exact ⟨A, c, e, .inl rfl⟩
theorem Ycu {ts : List Ty} (hts : 0 < ts.length) {x : AV} {hp : Heap} {K : Heap -> Dt -> Prop} (h : Ycc ts x hp K) : ∃ hs ys, K hs ys /\ PartOf hs hp /\ Yjy x hs ts ys := by
 unfold Ycc at h
 split at h
 ·rename_i A n c;obtain ⟨h1, h2⟩ := Ya h;obtain rfl := Ye.1 h1;exact ⟨_, _, h2, .nil _, Yvk fun φ => ⟨_, _, rfl⟩⟩
 ·exact ⟨_, _, h, .nil _, Yvk fun φ => ⟨_, _, rfl⟩⟩
 ·obtain ⟨h1, h2⟩ := Ya h;obtain ⟨rfl, h3⟩ := Y9 h1;exact ⟨_, _, h2, .nil _, srcRo hts h3 _ _⟩
 ·obtain ⟨it, hl, h0⟩ := Yf h
  split at h0
  ·rename_i xs;obtain ⟨h1, h2⟩ := Ya h0;obtain ⟨e, h3⟩ := Y9 h1;subst e;refine ⟨_, _, h2, .one hl, ?_⟩;have key : ∀ (T id : Nat) (ts : List Ty), 0 < ts.length -> Yjy (.rw id) [(id, .arr T ts xs)] ts xs := fun T id ts hts => by
    have := Yz9 hts (T := T) (id := id) (n := List.length xs) (xs := xs) (x := .rw id) (.inl ⟨rfl, rfl⟩);rwa [List.take_length] at this
   exact key _ _ _ hts
  ·exact h0.elim
 ·rename_i id off lo m;obtain ⟨it, hl, h0⟩ := Yf h
  split at h0
  ·split at h0
   ·rename_i hm;obtain rfl := Ye.1 hm;exact ⟨_, _, h0, .nil _, Yvk fun φ => ⟨_, _, rfl⟩⟩
   ·obtain ⟨news, h1, h2, h3, h4⟩ := Yfd h0;obtain ⟨ys, h5, h6, h7, _⟩ := Ydc h1;refine ⟨_, _, h5, .one hl, fun φ w0 M R w hS => ?_⟩;have hS' := (by simpa [Yb] using hS : St w0 M ((It.row _ _ _ _).conc φ id :: R) w);have hnil := Ybj h2 φ id w0 M R w hS';refine ⟨_, _, by simp only [AV.conc, hnil, Bool.false_eq_true, if_false, h6]; rfl, .inr ⟨_, _, rfl, fun j u hu => ?_⟩⟩;exact Ybg hS' (h3 φ j u (by rw [h7 φ]; exact hu))
  ·obtain ⟨h1, h2⟩ := Ya h0;simp only [Bool.and_eq_true, Ye] at h1;obtain ⟨⟨h11, rfl⟩, rfl⟩ := h1;obtain ⟨rfl, h3⟩ := Y9 h11;obtain ⟨h4, h5⟩ := h2;exact ⟨_, _, h5, .one hl, Yz9 hts (.inr ⟨rfl, of_decide_eq_true h4⟩)⟩
  ·exact h0.elim
 ·rename_i id sz' l m;obtain ⟨it, hl, h0⟩ := Yf h
  split at h0
  ·obtain ⟨h1, h2⟩ := Ya h0;simp only [Bool.and_eq_true, Ye] at h1;obtain ⟨h11, rfl⟩ := h1;obtain ⟨rfl, h3⟩ := Y9 h11;obtain ⟨h4, h5⟩ := h2;exact ⟨_, _, h5, .one hl, Yz7 hts (of_decide_eq_true h4)⟩
  ·exact h0.elim
 ·exact h.elim
theorem Ycl {id : Nat} {it : It} : ∀ {hs : Heap}, Yco.disjB hs [(id, it)] = true -> id ∉ keys hs
 | [], _ => by simp [keys]
 | p :: hs, h => by
  unfold Yco.disjB at h
  split at h
  ·rename_i h1;have h2 := Ycl h;simp only [keys, List.map_cons, List.mem_cons, not_or];refine ⟨fun e => ?_, h2⟩;rw [Yt] at h1;simp [e] at h1
  ·cases h
theorem PartOf.cons {hs hp : Heap} {id : Nat} {it : It} (h : PartOf hs hp) (hl : look hp id = some it) (hn : id ∉ keys hs) : PartOf ((id, it) :: hs) hp :=
 ⟨by simp only [keys, List.map_cons, List.nodup_cons]; exact ⟨hn, h.nd⟩, fun p hp => by
  rcases List.mem_cons.1 hp with rfl | hp
  ·exact hl
  ·exact h.all p hp⟩
theorem Yef {n b : Nat} (h : n * b <= 140737488355328) (hb : 1 <= b) : n <= maxLen := by
 have : n * 1 <= n * b := Nat.mul_le_mul_left _ hb;unfold maxLen;omega
theorem Yor {c : Cx} (ht : TabOk c.P c.tt) {T : TypeId} {sv xv : AV} {s x : Operand} {hp : Heap} {k : KE} {id' : Nat} (hsv : At tm s sv) (hsj : sv.rd = true) (hx : At tm x xv) (hxj : xv.rd = true) (h : Yco c T id' sv xv hp k) :
  Res1 c.P { dst, op := .call { callee := .builtin .append, args := #[s, x], argTypes := #[T, T] }, type, pos, after, guard } tm hp k := by
 have h1 := Yj ht h
 split at h1
 ·exact h1.elim
 ·rename_i e sz by_ zs hs;obtain ⟨h2, h3⟩ := Ya h1;simp only [Bool.and_eq_true, Nat.ble_eq] at h2;obtain ⟨⟨h21, h22⟩, h23⟩ := h2;have hz := Y2 h21
  split at h3
  ·obtain ⟨ts, h4, h5, _⟩ := Ye8 h3;have hsz : sz = ts.length := by omega
   subst hsz;obtain ⟨hs', ys, h6, h7, h8⟩ := Ycu h22 h4;obtain ⟨h9, h10⟩ := h6;have h9 := of_decide_eq_true h9;exact ⟨_, _, _, _, h10, h7, Ys, Y2t hs hz h22 hsv hx hxj h8 (Yef h9 h23) h9⟩
  ·rename_i ts' q;obtain ⟨ts, h4, h5, _⟩ := Ye8 h3;have hsz : sz = ts.length := by omega
   subst hsz;obtain ⟨hs', ys, h6, h7, h8⟩ := Ycu h22 h4;obtain ⟨h9, h10⟩ := h6;simp only [Bool.and_eq_true, decide_eq_true_eq] at h9;exact ⟨_, _, _, _, h10, h7, Ys, Y2r hs hz h22 hsv h9.1.1.1 h9.1.1.2 hx hxj h8 h9.1.2 (Yef h9.2 h23) h9.2⟩
  ·rename_i id;obtain ⟨it, hl, h4⟩ := Yf h3
   split at h4
   ·rename_i T' ts xs;obtain ⟨h5, h6⟩ := Ya h4;simp only [Bool.and_eq_true, Ye] at h5;obtain ⟨rfl, rfl⟩ := h5;obtain ⟨hs', ys, h7, h8, h9⟩ := Ycu h22 h6;obtain ⟨h10, h11⟩ := Ya h7;obtain ⟨h12, h13⟩ := h11;have h12 := of_decide_eq_true h12;have hne := Ycl h10;exact ⟨_, _, _, _, h13, h8.cons hl hne, fun i hi => by simp [keys] at hi ⊢; exact .inl hi, Y2u hs hz h22 hsv hx hxj h9 hne (Yef h12 h23) h12⟩
   ·exact h4.elim
  ·rename_i id off lo n;obtain ⟨it, hl, h4⟩ := Yf h3
   split at h4
   ·rename_i T' sz' n' cs;obtain ⟨h5, h6⟩ := Ya h4;simp only [Bool.and_eq_true, Ye] at h5;obtain ⟨⟨⟨⟨rfl, rfl⟩, rfl⟩, rfl⟩, rfl⟩ := h5;obtain ⟨ts, h7, h8, _⟩ := Ye8 h6;have hsz : sz' = ts.length := by omega
    subst hsz;obtain ⟨xs, h9, h10, h11, _⟩ := Ydc h7;obtain ⟨hs', ys, h12, h13, h14⟩ := Ycu h22 h9;obtain ⟨h15, h16⟩ := Ya h12;obtain ⟨h17, h18⟩ := h16;have h17 := of_decide_eq_true h17;have hne := Ycl h15;refine ⟨_, _, _, _, h18, h13.cons hl hne, fun i hi => by simp [keys] at hi ⊢; exact .inl hi, Y2s hs hz h22 hsv hsj (fun φ w0 M R w hS => ?_) hx hxj h14 hne (Yef h17 h23) h17⟩;simp only [It.conc, AV.conc, h11 φ, h10, Nat.sub_zero] at hS ⊢;exact hS
   ·exact h4.elim
  ·exact h3.elim
theorem Yu8 {p : AV} {x : Operand} {hp : Heap} {k : KE} {D : Prop} (hx : At tm x p) (hj : p.rd = true) (h : Yz2 p k D) : Res1 P { dst, op := .nilCheck x, type, pos, after, guard } tm hp k \/ D := by
 unfold Yz2 at h
 split at h
 ·refine .inl ⟨_, _, _, _, h, .nil _, Ys, Does.pure fun φ a ho w => ?_⟩;have e := ho x (by simp [Op.operands]) _ hx hj;simp only [AV.conc] at e;simp [execOp, e, AV.conc]
 ·refine .inl ⟨_, _, _, _, h, .nil _, Ys, Does.pure fun φ a ho w => ?_⟩;have e := ho x (by simp [Op.operands]) _ hx hj;simp only [AV.conc] at e;simp [execOp, e, AV.conc]
 ·exact .inr h
theorem Yom {c : Cx} (ht : TabOk c.P c.tt) {T : TypeId} {ok : Bool} {m i : AV} {x ix : Operand} {hp : Heap} {k : KE} {D : Prop} (hx : At tm x m) (hi : At tm ix i) (h : Yme c T ok m i hp k D) : Res1 c.P { dst, op := .lookup T x ix ok, type, pos, after, guard } tm hp k \/ D := by
 unfold Yme at h
 split at h
 ·obtain ⟨it, hl, h1⟩ := Yf h
  split at h1
  ·split at h1
   ·rcases Yb5 h1 with ⟨kd, n, h2, hc, hr⟩ | h2
    ·obtain ⟨h3, h4⟩ := Ya h2;simp only [Bool.and_eq_true, decide_eq_true_eq] at h3;obtain ⟨rfl, h3⟩ := h3;exact .inl ⟨_, _, _, _, h4, .one hl, Ys, Y2g h3 hx hi hr hc⟩
    ·exact h2.elim
   ·exact h1.elim
  ·exact .inr h1
 ·exact .inr h
theorem Yoh {c : Cx} (ht : TabOk c.P c.tt) {T : TypeId} {m i v : AV} {x ix y : Operand} {hp : Heap} {k : KE} {D : Prop} (hx : At tm x m) (hi : At tm ix i) (hy : At tm y v) (h : Yl7 c T m i v hp k D) : Res1 c.P { dst, op := .mapUpdate T x ix y, type, pos, after, guard } tm hp k \/ D := by
 unfold Yl7 at h
 split at h
 ·obtain ⟨it, hl, h1⟩ := Yf h
  split at h1
  ·rcases Yb5 h1 with ⟨kd, n, h2, hc, hr⟩ | h2
   ·rcases Yb5 h2 with ⟨ke, u, h5, hc2, hr2⟩ | h5
    ·obtain ⟨h3, h4⟩ := Ya h5;simp only [Bool.and_eq_true, decide_eq_true_eq] at h3;obtain ⟨⟨rfl, rfl⟩, h3⟩ := h3;exact .inl ⟨_, _, _, _, h4, .one hl, by intro j hj; simpa [keys] using hj, Y17 h3 hx hi hr hc hy hr2 hc2⟩
    ·exact h5.elim
   ·exact h2.elim
  ·exact .inr h1
 ·exact .inr h
theorem Y0j {d : Nat} {T e : TypeId} (hu : P.underlying T = some (.slice e)) (A : Option Addr) (n c : Nat) (w : World) : (Op.equalIn (d + 1) T (.slice A n c) (.slice none 0 0)).run P w = .ok A.isNone w := by
 cases A <;> simp [Op.equalIn, Sem.run_bind, run_underlying hu w]
theorem Ysx {T : TypeId} (h : Ymo P T = true) : ∃ e, P.underlying T = some (.slice e) := by
 unfold Ymo at h
 split at h
 ·rename_i e he; exact ⟨e, he⟩
 ·cases h
def Y4b : Bool -> BinOp
 | true => .neq
 | false => .eql
theorem Yyk {T : TypeId} {neq : Bool} (h : Ymo P T = true) (x y : Operand) (A : Option Addr) (n c : Nat) : Yjz P (Y4b neq) T x y (.slice A n c) (.slice none 0 0) (.bool (match neq with | true => !A.isNone | false => A.isNone)) := fun w => by
 obtain ⟨e, hu⟩ := Ysx h;have e1 : (Op.equal T (.slice A n c) (.slice none 0 0)).run P w = .ok A.isNone w := Y0j (d := 9999) hu A n c w;cases neq <;> simp [Y4b, eqGuard, binOp, e1, Sem.run_bind]
theorem Yr0 {T T' : TypeId} {neq : Bool} {x y : Operand} {a : AV} {hs : Heap} {val : AV} (hT : Ymo P T = true) (hx : At tm x a) (ja : a.rd = true) (hy : At tm y (.v (.slice none 0 0)))
  (hv : ∀ (φ : Phi) (w0 : World) (M : List Nat) (R : RL) (w : World), St w0 M (Yb φ hs ++ R) w -> ∃ A n c, a.conc φ = .slice A n c /\ val.conc φ = .bool (match neq with | true => !A.isNone | false => A.isNone)) :
  Does P { dst, op := .binOp (Y4b neq) T x y T', type, pos, after, guard } tm hs val [] [] :=
 fun φ w0 M R ac w K Q ho _ hS kk => by
  obtain ⟨A, n, c, h1, h2⟩ := hv φ w0 M R w hS;have e1 := ho.ev (x := x) (by simp [Op.operands]) hx ja;have e2 := ho.ev (x := y) (by simp [Op.operands]) hy (by simp);rw [h1] at e1;have h4 := kk φ w (Agree.refl _ _) (by simpa [Yh] using hS);rw [h2] at h4;exact Y5f e1 e2 (Yyk hT x y A n c w) h4
theorem Ym8 {c : Cx} {T T' : TypeId} {neq : Bool} {a b : AV} {x y : Operand} {hp : Heap} {k : KE} {D : Prop} (hx : At tm x a) (ja : a.rd = true) (hy : At tm y b) (h : Yxd c neq T a b hp k D) :
  Res1 c.P { dst, op := .binOp (Y4b neq) T x y T', type, pos, after, guard } tm hp k \/ D := by
 unfold Yxd at h
 split at h
 ·split at h
  ·exact .inr h
  ·rename_i hT
   split at h
   ·rename_i id off lo n;obtain ⟨it, hl, h1⟩ := Yf h
    split at h1
    ·rename_i hlive;refine .inl ⟨_, _, _, _, h1, .one hl, Ys, Yr0 hT hx ja hy fun φ w0 M R w hS => ?_⟩;have hn := Ybj hlive φ id w0 M R w hS;simp only [AV.conc, hn, Bool.false_eq_true, if_false];exact ⟨_, _, _, rfl, by cases neq <;> rfl⟩
    ·exact .inr h1
   ·rename_i ts r
    split at h
    ·refine .inl ⟨_, _, _, _, h, .nil _, Ys, Yr0 hT hx ja hy fun φ w0 M R w hS => ?_⟩;obtain ⟨A, c, hv, _⟩ := r.inv;simp only [AV.conc, hv];exact ⟨_, _, _, rfl, by cases A <;> rfl⟩
    ·refine .inl ⟨_, _, _, _, h, .nil _, Ys, Yr0 hT hx ja hy fun φ w0 M R w hS => ?_⟩;obtain ⟨A, c, hv, _⟩ := r.inv;simp only [AV.conc, hv];exact ⟨_, _, _, rfl, by cases A <;> rfl⟩
   ·rename_i id;obtain ⟨it, hl, h1⟩ := Yf h
    split at h1
    ·rename_i T2 ts xs;obtain ⟨h2, h3⟩ := Ya h1;obtain ⟨h4, h5⟩ := h3;refine .inl ⟨_, _, _, _, h5, .one hl, Ys, Yr0 hT hx ja hy fun φ w0 M R w hS => ?_⟩;have hn := Ydm (Nat.le_of_ble_eq_true h2) (of_decide_eq_true h4) hS;simp only [AV.conc, hn, Bool.false_eq_true, if_false];exact ⟨_, _, _, rfl, by cases neq <;> rfl⟩
    ·exact .inr h1
   ·exact .inr h
 ·exact .inr h
theorem Yv1 {c : Cx} {op : BinOp} {T T' : TypeId} {a b : AV} {x y : Operand} {hp : Heap} {k : KE} {D : Prop} (hx : At tm x a) (ja : a.rd = true) (hy : At tm y b) (h : Y09 c op T a b hp k D) :
  Res1 c.P { dst, op := .binOp op T x y T', type, pos, after, guard } tm hp k \/ D := by
 unfold Y09 at h
 split at h
 ·exact Ym8 (neq := false) hx ja hy h
 ·exact Ym8 (neq := true) hx ja hy h
 ·exact .inr h
theorem Ysn {c : Cx} (ht : TabOk c.P c.tt) {T : TypeId} {xv yv : AV} {x y : Operand} {hp : Heap} {k : KE} {id : Nat} {D : Prop} (hx : At tm x xv) (hy : At tm y yv) (h : Yu9 c T id xv yv k D) : Res1 c.P { dst, op := .makeSlice T x y, type, pos, after, guard } tm hp k \/ D := by
 unfold Yu9 at h
 split at h
 ·rename_i kl n;rcases Yb5 h with ⟨kc, m, h1, hc, hr⟩ | h1
  ·have h2 := Yj ht h1
   split at h2
   ·exact h2.elim
   ·rename_i e sz by_ zs hs;obtain ⟨h3, h4⟩ := Ya h2;simp only [Bool.and_eq_true, Nat.ble_eq] at h3;obtain ⟨ts, h5, h6, h7⟩ := Ye8 h4;obtain ⟨h8, h9⟩ := h5;simp only [Bool.and_eq_true, decide_eq_true_eq] at h8;obtain ⟨⟨rfl, h82⟩, h83⟩ := h8;have e : ((n.toNat : Nat) : Int) = n := Int.toNat_of_nonneg h82;have hm : n.toNat <= maxLen := by
     have : 1 * n.toNat <= by_ * n.toNat := Nat.mul_le_mul_right _ h3.2;unfold maxLen; omega
    exact .inl ⟨_, _, _, _, h9, .nil _, Ys, Y2e hs (Y2 h3.1) h6 h7 hx rfl (kl := kl) (kc := kc) (fun φ => by simp only [AV.conc, e]) hy hr (fun φ => by rw [hc φ, e]) h83 hm⟩
  ·exact h1.elim
 ·exact .inr h
end
theorem Res1.op {c : Cx} {o : Oper} {tm : List AV} {hp : Heap} {k kp : KE} (h : Res1 c.P o tm hp k) : OpRes c o tm hp k kp := .inl h
theorem Ysh {c : Cx} {o : Oper} {tm : List AV} {hp : Heap} {k kp : KE} (hc : HandOk c) (h : Yet c o tm hp k kp) : OpRes c o tm hp k kp := by
 have old : Yd1 c o tm hp k kp -> OpRes c o tm hp k kp := fun h => by rw [Y3f] at h; exact Yx5 hc h
 obtain ⟨dst, op, type, pos, after, guard⟩ := o;unfold Yet at h
 split at h
 ·rename_i hop;dsimp only at hop; subst hop;obtain ⟨a, ja, hx, h1⟩ := Yd h;obtain ⟨b, jb, hy, h2⟩ := Yd h1;rcases Yvi h2 _ _ with ⟨r, h3, h4⟩ | h3
  ·exact .pure h3 (d_bin hx hy ja jb h4)
  ·exact (Yv1 hx ja hy h3).elim Res1.op old
 ·rename_i hop;dsimp only at hop; subst hop;obtain ⟨a, ja, hx, h1⟩ := Yd h;rcases Yx9 (P := c.P) h1 with ⟨r, h3, _, h4⟩ | h3
  ·exact .pure h3 (Y7k hx ja h4)
  ·exact old h3
 ·rename_i hop;dsimp only at hop; subst hop;obtain ⟨a, ja, hx, h1⟩ := Yd h;rcases Yst h1 with ⟨r, h3, _, h4⟩ | h3
  ·refine .pure h3 (Does.pure fun φ ac ho w => ?_);have e := ho _ (by simp [Op.operands]) _ hx ja;unfold execOp;simp only [e, Sem.run_bind, h4 φ w, Result.andThen_ok, Sem.run_pure]
  ·exact old h3
 ·rename_i hop;dsimp only at hop; subst hop;rcases Ysm (P := c.P) h with ⟨r, h3, h4⟩ | h3
  ·exact .pure h3 h4
  ·exact old h3
 ·rename_i hop;dsimp only at hop; subst hop;obtain ⟨a, ja, hx, h1⟩ := Yd h;obtain ⟨b, jb, hy, h2⟩ := Yd h1;exact (Yvd hc.tab hx hy h2).elim Res1.op old
 ·rename_i hop;dsimp only at hop; subst hop;obtain ⟨a, ja, hx, h1⟩ := Yd h;obtain ⟨b, jb, hy, h2⟩ := Yd h1;exact (Yon hc.tab hx hy h2).elim Res1.op old
 ·rename_i hop;dsimp only at hop; subst hop;obtain ⟨a, ja, hx, h1⟩ := Yd h;exact (Yoo hx h1).elim Res1.op old
 ·rename_i hop;dsimp only at hop; subst hop;obtain ⟨a, ja, hx, h1⟩ := Yd h;exact (Yso hc.tab hx h1).elim Res1.op old
 ·rename_i hop;dsimp only at hop; subst hop;obtain ⟨a, ja, hx, h1⟩ := Yd h;obtain ⟨b, jb, hy, h2⟩ := Yd h1;exact (Yqu hc.tab hx hy jb h2).elim Res1.op old
 ·rename_i hop;dsimp only at hop; subst hop;obtain ⟨a, ja, hx, h1⟩ := Yd h;exact (Yq0 hc.tab hx h1).elim Res1.op old
 ·rename_i hop;dsimp only at hop; subst hop;obtain ⟨a, ja, hx, h1⟩ := Yd h;exact (Yqw hc.tab hx h1).elim Res1.op old
 ·rename_i hop;dsimp only at hop; subst hop;obtain ⟨a, ja, hx, h1⟩ := Yd h;obtain ⟨b, jb, hy, h2⟩ := Yd h1;exact (Ysn hc.tab hx hy h2).elim Res1.op old
 ·rename_i hop;dsimp only at hop; subst hop;obtain ⟨m, jm, hx, h1⟩ := Yd h;exact (Yu8 hx jm h1).elim Res1.op old
 ·rename_i hop;dsimp only at hop; subst hop;obtain ⟨m, jm, hx, h1⟩ := Yd h;obtain ⟨i, ji, hi, h2⟩ := Yd h1;exact (Yom hc.tab hx hi h2).elim Res1.op old
 ·rename_i hop;dsimp only at hop; subst hop;obtain ⟨m, jm, hx, h1⟩ := Yd h;obtain ⟨i, ji, hi, h2⟩ := Yd h1;obtain ⟨v, jv, hy, h3⟩ := Yd h2;exact (Yoh hc.tab hx hi hy h3).elim Res1.op old
 ·rename_i cl hop;dsimp only at hop; subst hop;obtain ⟨callee, ⟨args⟩, tys⟩ := cl;dsimp only at h
  split at h
  ·split at h
   ·rename_i x;obtain ⟨v, jv, hx, h1⟩ := Yd h;exact (Yvb hc.tab hx jv h1).elim Res1.op old
   ·rename_i x y;obtain ⟨a, ja, hx, h1⟩ := Yd h;obtain ⟨b, jb, hy, h2⟩ := Yd h1;rcases Yo3 (P := c.P) (mx := false) hx ja hy jb tys h2 with ⟨r, h3, h4⟩ | h3
    ·exact .pure h3 h4
    ·exact old h3
   ·rename_i x y;obtain ⟨a, ja, hx, h1⟩ := Yd h;obtain ⟨b, jb, hy, h2⟩ := Yd h1;rcases Yo3 (P := c.P) (mx := true) hx ja hy jb tys h2 with ⟨r, h3, h4⟩ | h3
    ·exact .pure h3 h4
    ·exact old h3
   ·rename_i s x;obtain ⟨a, ja, hx, h1⟩ := Yd h;obtain ⟨b, jb, hy, h2⟩ := Yd h1
    split at h2
    ·obtain ⟨tys⟩ := tys;dsimp only at h2
     split at h2
     ·obtain ⟨h3, h4⟩ := Ya h2;obtain rfl := Ye.1 h3;exact Res1.op (Yor hc.tab hx ja hy jb h4)
     ·exact h2.elim
    ·exact old h2
   ·exact old h
  ·exact old h
 ·exact old h
end Go.Proofs.YtladoaeefkpdiaaGreatDoor
namespace Go.Proofs.YtladoaeefkpdiaaGreatDoor
open Go.RowKit
attribute [local irreducible] Go.Oper.wp
@[reducible] def atW (w : World) : InW := ⟨w, w.heap.size, fun b => b < w.heap.size, fun _ h => h⟩
theorem St.nowF {W : InW} {w0 w : World} {M : List Nat} {L : RL} (F : Nat -> Prop) (h : @St W w0 M L w) : @St (atF w F) w [] [] w :=
 @St.start (atF w F) w (@InOk.mk (atF w F) w [] (Nat.le_refl _) (by simp) (Below.refl _ _))
theorem RdV.nowF {W : InW} {w0 w : World} {M : List Nat} {L : RL} (h : @St W w0 M L w) {F : Nat -> Prop} (hF : ∀ b, W.F b -> F b) {t : Ty} {v : Value} {c : Cl} (hr : @RdV W t v c) : @RdV (atF w F) t v c :=
 RdV.mono2 (W1 := W) (W2 := atF w F) (fun b hb => ⟨Nat.lt_of_lt_of_le (W.lt b hb) (Nat.le_trans h.inw.base h.kept.size), hF b hb⟩) (fun b hb => h.belowIn.block b (W.lt b hb)) hr
theorem Y1w {w : World} {r : Res} (h : r.holds w) {b : Nat} (hb : b ∈ r.foot) : ¬ r.frz b := by
 cases r with
 | blk _ _ => exact fun h => h
 | row _ _ _ _ _ => exact fun h => h
 | abs own fz p => exact h.2.1 b hb
theorem St.farZ [InW] {w0 w : World} {M : List Nat} {L : RL} (h : St w0 M L w) {x r : Res} (hx : x ∈ L) (hr : r ∈ L) {b : Nat} (hb : b ∈ x.foot) : ¬ r.frz b := fun hz => by
 rcases Classical.em (x = r) with e | e
 ·subst e; exact Y1w (h.has _ hx) hb hz
 ·obtain ⟨s, t, rfl⟩ := List.append_of_mem hx;have hp := (List.perm_middle.pairwise_iff (fun h => apart.symm h)).1 h.sep;have := (List.pairwise_cons.1 hp).1 r (by
   simp only [List.mem_append, List.mem_cons] at hr ⊢;rcases hr with hr | hr | hr
   ·exact .inl hr
   ·exact absurd hr.symm e
   ·exact .inr hr)
  exact this.1 b hb (.inr hz)
theorem St.back0 [InW] {w0 w w' : World} {M : List Nat} {L1 L L2 : RL} {F' : Nat -> Prop} (h : St w0 M (L1 ++ L) w) (ck : Kept w.heap.size [] w w') (ch : ∀ r ∈ L2, r.holds w') (co : ∀ r ∈ L2, ∀ b ∈ r.foot, w.heap.size <= b) (cs : L2.Pairwise apart) (cz : ∀ r ∈ L2, ∀ b, r.frz b -> w.heap.size <= b \/ F' b)
  (hF : ∀ r ∈ L2, ∀ b, r.frz b -> F' b -> InW.F b \/ (∃ q ∈ L1, q.in_ b) \/ ∃ q ∈ L, q.frz b) : St w0 M (L2 ++ L) w' := by
 have hsep := List.pairwise_append.1 h.sep;have hL : St w0 M L w := h.sub (List.sublist_append_right _ _);refine ⟨h.kept.trans ck h.size (by simp), ?_, ?_, ?_, h.inw, ?_⟩
 ·intro x hx;rcases List.mem_append.1 hx with hx | hx
  ·exact ch x hx
  ·have hx' := hL.has x hx;exact Res.keep hx' fun b hb => ck.block b (Res.lt2 hx' b hb) (by simp)
 ·intro x hx b hb;rcases List.mem_append.1 hx with hx | hx
  ·exact .inl (Nat.le_trans h.size (co x hx b hb))
  ·exact hL.own x hx b hb
 ·refine List.pairwise_append.2 ⟨cs, hL.sep, fun x hx y hy => ⟨fun b hb hb' => ?_, fun b hb hb' => ?_⟩⟩
  ·have h1 := co x hx b hb;have := Res.lt2 (hL.has y hy) b hb';omega
  ·have hlt := Res.lt (hL.has y hy) b hb;rcases hb' with hb' | hb'
   ·have := co x hx b hb'; omega
   ·rcases cz x hx b hb' with h' | h'
    ·omega
    ·rcases hF x hx b hb' h' with h2 | ⟨q, hq, h2⟩ | ⟨q, hq, h2⟩
     ·exact hL.farF hy hb h2
     ·exact (hsep.2.2 q hq y hy).2 b hb h2
     ·exact hL.farZ hy hq hb h2
 ·intro x hx b hb;rcases List.mem_append.1 hx with hx | hx
  ·rcases cz x hx b hb with h' | h'
   ·exact .inl (Nat.le_trans h.size h')
   ·rcases hF x hx b hb h' with h2 | ⟨q, hq, h2⟩ | ⟨q, hq, h2⟩
    ·exact .inr (.inr h2)
    ·rcases h2 with h2 | h2
     ·rcases h.own q (List.mem_append_left _ hq) b h2 with h3 | h3
      ·exact .inl h3
      ·exact .inr (.inl h3)
     ·exact h.fz q (List.mem_append_left _ hq) b h2
    ·exact hL.fz q hq b h2
  ·exact hL.fz x hx b hb
theorem St.back {W W' : InW} {w0 w w' : World} {M : List Nat} {L1 L L2 : RL} (h : @St W w0 M (L1 ++ L) w) (hc : @St W' w [] L2 w') (hF : ∀ r ∈ L2, ∀ b, r.frz b -> W'.F b -> W.F b \/ (∃ q ∈ L1, q.in_ b) \/ ∃ q ∈ L, q.frz b) : @St W w0 M (L2 ++ L) w' :=
 @St.back0 W w0 w w' M L1 L L2 W'.F h (@St.kept W' _ _ _ _ hc) (@St.has W' _ _ _ _ hc) (fun r hr b hb => (@St.own W' _ _ _ _ hc r hr b hb).resolve_right (by simp)) (@St.sep W' _ _ _ _ hc)
  (fun r hr b hb => (@St.fz W' _ _ _ _ hc r hr b hb).elim .inl fun h => .inr (h.resolve_left (by simp))) hF
def Yn0 (t : Ty) (c : Cl) : Prop := match t with | .int _ => ∃ n, c = .i n | .bool => ∃ b, c = .b b | .str => ∃ s, c = .s s | .sl _ => ∃ xs, c = .l xs
section
variable [W : InW]
theorem Y1m {h : Heap} {i : Nat} (hm : i ∈ keys h) : ∃ x, look h i = some x := by
 cases hl : look h i with
 | some x => exact ⟨x, rfl⟩
 | none =>
  obtain ⟨q, hq, e⟩ := List.mem_map.1 hm;exact absurd hl (by
   clear hm
   induction h with
   | nil => cases hq
   | cons p h ih =>
    rw [Yt]
    split
    ·simp
    ·rename_i hne;rcases List.mem_cons.1 hq with rfl | hq
     ·exact absurd e hne
     ·intro h2; rw [Yt, if_neg hne] at hl; exact ih hl hq h2)
def addH (hs : Heap) (id : Nat) (it : It) (K : Heap -> Prop) : Prop := match look hs id with | some _ => K hs | none => K ((id, it) :: hs)
theorem Ydx {hs hp : Heap} {id : Nat} {it : It} {K : Heap -> Prop} (h : addH hs id it K) (hpart : PartOf hs hp) (hl : look hp id = some it) : ∃ hs', K hs' /\ PartOf hs' hp /\ (∀ p ∈ hs, p ∈ hs') /\ (id, it) ∈ hs' := by
 unfold addH at h
 split at h
 ·rename_i x hx;refine ⟨hs, h, hpart, fun p hp => hp, ?_⟩;have h1 := Yba hx;have h2 := hpart.all _ h1;rw [hl] at h2;cases h2;exact h1
 ·rename_i hx;refine ⟨_, h, hpart.cons hl fun hm => ?_, fun p hp => List.mem_cons_of_mem _ hp, List.mem_cons_self⟩;obtain ⟨x, hx2⟩ := Y1m hm;rw [hx] at hx2; cases hx2
def Yb1 : Nat -> Ty -> Ty -> Bool
 | 0, _, _ => false
 | n + 1, t, u => match t, u with
  | .int k, .int k' => decide (k = k')
  | .bool, .bool => true
  | .str, .str => true
  | .sl ts, .sl us => sameL n ts us
  | _, _ => false
where
 sameL (n : Nat) : List Ty -> List Ty -> Bool
  | [], [] => true
  | t :: ts, u :: us => match Yb1 n t u with | true => sameL n ts us | false => false
  | _, _ => false
theorem Y8 : ∀ (n : Nat) (t u : Ty), Yb1 n t u = true -> t = u
 | 0, _, _, h => by simp [Yb1] at h
 | n + 1, t, u, h => by
  have hL : ∀ ts us : List Ty, Yb1.sameL n ts us = true -> ts = us := by
   intro ts
   induction ts with
   | nil => intro us h; cases us <;> simp_all [Yb1.sameL]
   | cons t ts ih =>
    intro us h;cases us with
    | nil => simp [Yb1.sameL] at h
    | cons u us =>
     unfold Yb1.sameL at h
     split at h
     ·rename_i h1;rw [Y8 n t u h1, ih us h]
     ·cases h
  cases t <;> cases u <;> simp only [Yb1, Bool.false_eq_true, decide_eq_true_eq] at h
  ·rw [h]
  ·rfl
  ·rfl
  ·rw [hL _ _ h]
def Ywl (t : Ty) (x : AV) (hp hs : Heap) (K : Heap -> Cl -> Prop) : Prop :=
 match t with
 | .int k => (match x with | .si k' n => Yc (decide (k' = k)) (K hs (.i n)) | .v (.int k' n) => Yc (decide (k' = k)) (K hs (.i n)) | _ => Stuck 401)
 | .bool => (match x with | .sb b => K hs (.b b) | .v (.bool b) => K hs (.b b) | _ => Stuck 402)
 | .str => (match x with | .ss s => K hs (.s s) | .v (.string s) => K hs (.s s) | _ => Stuck 403)
 | .sl ts => (match x with
  | .rs ts' r => Yc (Yb1 9 (.sl ts') (.sl ts)) (K hs (.l r.xs))
  | .v (.slice _ n _) => Yc (Nat.beq n 0) (K hs (.l []))
  | .emp _ => K hs (.l [])
  | .opq id => Yu hp id fun it => (match it with | .fro ts' xs => Yc (Yb1 9 (.sl ts') (.sl ts)) (addH hs id (.fro ts' xs) fun hs => K hs (.l xs)) | _ => Stuck 404)
  | .rw id => Yu hp id fun it => (match it with
   | .arr T ts' xs => Yc (Ycc.sameTs ts' ts && Nat.ble 1 ts.length) (addH hs id (.arr T ts' xs) fun hs => K hs (.l xs))
   | .nst T ts' xs => Yc (Yb1 9 (.sl ts') (.sl ts)) (addH hs id (.nst T ts' xs) fun hs => K hs (.l xs))
   | _ => Stuck 404)
  | .sl id off lo m => Yu hp id fun it => (match it with
   | .arr T ts' xs => Yc (Ycc.sameTs ts' ts && Nat.ble 1 ts.length && Nat.beq off 0 && Nat.beq lo 0) (Need (decide (m <= xs.length)) (addH hs id (.arr T ts' xs) fun hs => K hs (.l (xs.take m))))
   | .row T sz n cs => (match Nat.beq m 0 with
    | true => K hs (.l [])
    | false => Yc (Nat.ble 1 ts.length && Nat.ble m 4611686018427387904 && Nat.ble (lo + m) n && Nat.beq off (lo * sz)) (Yy2 (.row T sz n cs) off m ts.length fun news => Yc (Ycc.sameTs ts ts) (Ys5 ts m news fun ys => addH hs id (.row T sz n cs) fun hs => K hs (.l ys))))
   | _ => Stuck 405)
  | .rwp id sz' l m => Yu hp id fun it => (match it with
   | .arr T ts' xs => Yc (Ycc.sameTs ts' ts && Nat.ble 1 ts.length && Nat.beq sz' ts.length) (Need (decide (l + m <= xs.length)) (addH hs id (.arr T ts' xs) fun hs => K hs (.l ((xs.drop l).take m))))
   | .nst T ts' xs => Yc (Yb1 9 (.sl ts') (.sl ts) && Nat.beq sz' ts.length) (Need (decide (l + m <= xs.length)) (addH hs id (.nst T ts' xs) fun hs => K hs (.l ((xs.drop l).take m))))
   | _ => Stuck 405)
  | _ => Stuck 406)
def InB (φ : Phi) (hs : Heap) (b : Nat) : Prop := InW.F b \/ ∃ p ∈ hs, (p.2.conc φ p.1).in_ b
theorem InB.mono {φ : Phi} {hs hs' : Heap} (hh : ∀ p ∈ hs, p ∈ hs') {b : Nat} (h : InB φ hs b) : InB φ hs' b := h.elim .inl fun ⟨p, hp, hb⟩ => .inr ⟨p, hh p hp, hb⟩
def ReadsIn (hs : Heap) (t : Ty) (x : AV) (c : Cl) : Prop :=
 ∀ (φ : Phi) (w0 : World) (M : List Nat) (L : RL) (w : World), St w0 M L w -> (∀ p ∈ hs, p.2.conc φ p.1 ∈ L) -> @RdV (atF w (InB φ hs)) t (x.conc φ) c
theorem ReadsIn.mono {hs hs' : Heap} {t : Ty} {x : AV} {c : Cl} (h : ReadsIn hs t x c) (hh : ∀ p ∈ hs, p ∈ hs') : ReadsIn hs' t x c := fun φ w0 M L w hS hm =>
 (h φ w0 M L w hS fun p hp => hm p (hh p hp)).grow (fun b h1 h2 => ⟨h1, h2.mono hh⟩) fun _ _ _ => rfl
theorem St.front {w0 w : World} {M : List Nat} {L : RL} (h : St w0 M L w) {r : Res} (hr : r ∈ L) : ∃ R, St w0 M (r :: R) w := by
 obtain ⟨s, t, rfl⟩ := List.append_of_mem hr;exact ⟨_, h.perm List.perm_middle⟩
theorem Y22 {w : World} {b off : Nat} {u : Value} (h : w.cell? ⟨b, off, none⟩ = some u) : b < w.heap.size := by
 unfold World.cell? at h;rcases Nat.lt_or_ge b w.heap.size with hb | hb
 ·exact hb
 ·simp [Array.getElem?_eq_none hb] at h
theorem Ymm {xv : AV} {hs : Heap} {ts : List Ty} {ys : Dt} {id : Nat} {it : It} (hts : 0 < ts.length) (hsc : ∀ k ts', tyAt ts k ≠ .sl ts')
  (hlen : ∀ (φ : Phi) (w0 : World) (M : List Nat) (R : RL) (w : World), St w0 M (it.conc φ id :: R) w -> ys.length <= maxLen /\ ∀ A m c, xv.conc φ = .slice A m c -> m <= c /\ ∀ b off, 0 < ys.length -> A = some ⟨b, off, none⟩ -> (it.conc φ id).in_ b)
  (h : Yjy xv [(id, it)] ts ys) (hm : (id, it) ∈ hs) : ReadsIn hs (.sl ts) xv (.l ys) := fun φ w0 M L w hS hall => by
 obtain ⟨R, hS'⟩ := hS.front (hall _ hm);obtain ⟨A, c, h1, h2⟩ := h φ w0 M R w (by simpa [Yb] using hS');obtain ⟨h3, h4⟩ := hlen φ w0 M R w hS';obtain ⟨hc, hin⟩ := h4 _ _ _ h1;rw [h1];refine @RdV.sl (atF w (InB φ hs)) ts A c (.l ys) (fun i k => (tyAt ts k).val (cel ys i k)) hc h3 (fun hne => ?_) (fun i k t hi ht => ?_)
 ·obtain ⟨b, off, rfl, h5⟩ := h2.resolve_left (fun e => hne (List.length_eq_zero_iff.1 e));have key : ∀ i k, i < ys.length -> k < ts.length -> w.cell? ⟨b, off + i * ts.length + k, none⟩ = some ((tyAt ts k).val (cel ys i k)) := fun i k hi hk => by
   rw [Nat.add_assoc];refine h5 _ _ ?_;rw [Yjo ts ys i k hi hk, List.getElem?_eq_getElem hk, Option.map_some, Yeb, List.getD_eq_getElem?_getD, List.getElem?_eq_getElem hk, Option.getD_some]
  have hpos : 0 < ys.length := by
   cases ys with
   | nil => exact absurd rfl hne
   | cons _ _ => simp
  exact ⟨b, off, rfl, ⟨Y22 (key 0 0 hpos hts), .inr ⟨_, hm, hin b off hpos rfl⟩⟩, key⟩
 ·have e : tyAt ts k = t := by rw [Yeb, List.getD_eq_getElem?_getD, ht]; rfl
  subst e
  show @RdV (atF w (InB φ hs)) (tyAt ts k) ((tyAt ts k).val (cel ys i k)) (cel ys i k)
  have hn := hsc k;generalize cel ys i k = cc;generalize tyAt ts k = t at hn;cases t with
  | int kd => exact @RdV.int (atF w (InB φ hs)) kd cc
  | bool => exact @RdV.bool (atF w (InB φ hs)) cc
  | str => exact @RdV.str (atF w (InB φ hs)) cc
  | sl ts' => exact absurd rfl (hn ts')
theorem Yja {hs : Heap} {ts : List Ty} {x : AV} (h : ∀ φ, ∃ A c, x.conc φ = .slice A 0 c) : ReadsIn hs (.sl ts) x (.l []) := fun φ w0 M L w hS hall => by
 obtain ⟨A, c, e⟩ := h φ;rw [e];exact @RdV.sl (atF w (InB φ hs)) ts A c (.l []) (fun _ _ => undef) (Nat.zero_le _) (Nat.zero_le _) (fun hn => absurd rfl hn) (fun i k t hi => by simp [Cl.lst] at hi)
theorem Ytc {hs : Heap} {ts : List Ty} {T id n : Nat} {xs : Dt} {x : AV} (hts : 0 < ts.length) (hsc : ∀ k ts', tyAt ts k ≠ .sl ts') (ho : OwnSl T ts xs id n x) (hm : (id, It.arr T ts xs) ∈ hs) : ReadsIn hs (.sl ts) x (.l (xs.take n)) :=
 Ymm hts hsc (fun φ w0 M R w hS => by
  obtain ⟨h1, h2⟩ := ho.conc hts hS;obtain ⟨h3, h4⟩ := Yip hts hS;refine ⟨by rw [List.length_take]; omega, fun A m c e => ?_⟩;rw [h1] at e;cases e;refine ⟨by omega, fun b off hp he => ?_⟩;cases hn : (φ id).nil with
  | true => simp [hn] at he
  | false =>
   simp only [hn, Bool.false_eq_true, if_false, Option.some.injEq, Addr.mk.injEq] at he;exact .inl (by simp [It.conc, Res.foot, hn, Value.ownBlock, he.1])) (Yz9 hts ho) hm
theorem Y0h {hs : Heap} {ts : List Ty} {T id l n : Nat} {xs : Dt} (hts : 0 < ts.length) (hsc : ∀ k ts', tyAt ts k ≠ .sl ts') (hl : l + n <= xs.length) (hm : (id, It.arr T ts xs) ∈ hs) : ReadsIn hs (.sl ts) (.rwp id ts.length l n) (.l ((xs.drop l).take n)) :=
 Ymm hts hsc (fun φ w0 M R w hS => by
  obtain ⟨h3, h4⟩ := Yip hts hS;refine ⟨by rw [List.length_take, List.length_drop]; omega, fun A m c e => ?_⟩;have e' := e;simp only [AV.conc, Value.slice.injEq] at e;refine ⟨by omega, fun b off hp he => ?_⟩;rw [List.length_take, List.length_drop] at hp;rw [Yhl hts hS hl (by omega)] at e';simp only [Value.slice.injEq] at e';rw [he] at e';simp only [Option.some.injEq, Addr.mk.injEq] at e';have hnil := Ydm hts (by omega) hS;exact .inl (by simp [It.conc, Res.foot, hnil, Value.ownBlock, e'.1.1])) (Yz7 hts hl) hm
theorem Y1x {hs : Heap} {ts : List Ty} {id : Nat} {xs : Dt} (hm : (id, It.fro ts xs) ∈ hs) : ReadsIn hs (.sl ts) (.opq id) (.l xs) := fun φ w0 M L w hS hall => by
 have h := Yxq (hS.has _ (hall _ hm));exact RdV.grow (w := w) h (fun b h1 h2 => ⟨h1, .inr ⟨_, hm, .inr h2⟩⟩) fun _ _ _ => rfl
theorem Yph {w : World} {F F' : Nat -> Prop} {ts : List Ty} {A : Option Addr} {c : Nat} {vs : List Value} {xs : Dt} (hc : xs.length <= c) (hm : xs.length <= maxLen) (hF : ∀ b, b < w.heap.size -> F b -> F' b)
  (ha : xs ≠ [] -> ∃ b off, A = some ⟨b, off, none⟩ /\ b < w.heap.size /\ F' b /\ ∀ j u, vs[j]? = some u -> w.cell? ⟨b, off + j, none⟩ = some u) (hr : RowsRd w F ts vs xs) : @RdV (atF w F') (.sl ts) (.slice A xs.length c) (.l xs) := by
 refine @RdV.sl (atF w F') ts A c (.l xs) (fun i k => vs.getD (i * ts.length + k) undef) hc hm (fun hne => ?_) (fun i k t hi ht => ?_)
 ·obtain ⟨b, off, h1, h2, h3, h4⟩ := ha hne;refine ⟨b, off, h1, ⟨h2, h3⟩, fun i k hi hk => ?_⟩;obtain ⟨u, h5, _⟩ := hr i k ts[k] hi (List.getElem?_eq_getElem hk);rw [Nat.add_assoc];refine h4 _ _ ?_;rw [List.getD_eq_getElem?_getD, h5]; rfl
 ·obtain ⟨u, h5, h6⟩ := hr i k t hi ht;rw [List.getD_eq_getElem?_getD, h5];exact h6.grow (fun b h1 h2 => ⟨h1, hF b h1 h2⟩) fun _ _ _ => rfl
theorem Ydz {w0 w : World} {M : List Nat} {R : RL} {φ : Phi} {id T : Nat} {ts : List Ty} {xs : Dt} (h : St w0 M ((It.nst T ts xs).conc φ id :: R) w) : (φ id).fn = xs.length /\ ∃ vs, w.ownsRow 0 T ts.length (.slice (if (φ id).nil then none else some ⟨(φ id).b, 0, none⟩) (φ id).fn (φ id).c) (φ id).fn vs /\ RowsRd w (φ id).F ts vs xs := by
 obtain ⟨h1, vs, h2, h3⟩ := Y7v (h.look Look.head);exact ⟨h1.symm, vs, h2, h3⟩
theorem Yd8 {w0 w : World} {M : List Nat} {R : RL} {φ : Phi} {id T : Nat} {ts : List Ty} {xs : Dt} (hn : 0 < xs.length) (h : St w0 M ((It.nst T ts xs).conc φ id :: R) w) : (φ id).nil = false := by
 obtain ⟨e, vs, hh, _⟩ := Ydz h;cases hnil : (φ id).nil with
 | false => rfl
 | true =>
  rw [hnil] at hh;rcases hh.2 with ⟨_, h0⟩ | ⟨g, cap, cur, hg, _⟩
  ·omega
  ·simp at hg
theorem Yrh {w0 w : World} {M : List Nat} {R : RL} {φ : Phi} {id T : Nat} {ts : List Ty} {xs : Dt} (h : St w0 M ((It.nst T ts xs).conc φ id :: R) w) : xs.length <= (φ id).c /\ xs.length <= maxLen := by
 obtain ⟨e, vs, hh, _⟩ := Ydz h;rcases hh.2 with ⟨_, h0⟩ | ⟨g, cap, cur, hg, _, _, hnc, hm, _⟩
 ·omega
 ·simp only [Value.slice.injEq] at hg; omega
theorem Yxb {φ : Phi} {id T : Nat} {ts : List Ty} {xs : Dt} (hnil : (φ id).nil = false) : ((It.nst T ts xs).conc φ id).in_ (φ id).b := .inl (by simp [It.conc, Res.nst, Res.foot, hnil, Value.ownBlock])
theorem Y05 {hs : Heap} {ts : List Ty} {T id : Nat} {xs : Dt} (hm : (id, It.nst T ts xs) ∈ hs) : ReadsIn hs (.sl ts) (.rw id) (.l xs) := fun φ w0 M L w hS hall => by
 obtain ⟨R, hS'⟩ := hS.front (hall _ hm);obtain ⟨e, vs, hrow, hr⟩ := Ydz hS';obtain ⟨h1, h2⟩ := Yrh hS'
 show @RdV (atF w (InB φ hs)) (.sl ts) (.slice (if (φ id).nil then none else some ⟨(φ id).b, 0, none⟩) (φ id).fn (φ id).c) (.l xs)
 rw [e] at hrow ⊢;refine Yph (F := (φ id).F) (vs := vs) h1 h2 (fun b _ hb => .inr ⟨_, hm, .inr hb⟩) (fun hne => ?_) hr;have hpos : 0 < xs.length := List.length_pos_iff.2 hne;have hnil := Yd8 hpos hS';have hlt := Res.lt2 (hS'.has _ List.mem_cons_self) (φ id).b (Yxb hnil);exact ⟨_, _, by rw [hnil]; rfl, hlt, .inr ⟨_, hm, Yxb hnil⟩, fun j u hu => by rw [Nat.zero_add]; exact Yew hrow hu⟩
theorem Ymv {w : World} {F : Nat -> Prop} {ts : List Ty} {vs : List Value} {xs : Dt} {l n : Nat} (h : RowsRd w F ts vs xs) (hl : l + n <= xs.length) : RowsRd w F ts (vs.drop (l * ts.length)) ((xs.drop l).take n) := fun i k t hi ht => by
 rw [List.length_take, List.length_drop] at hi;obtain ⟨u, h1, h2⟩ := h (l + i) k t (by omega) ht;refine ⟨u, by rw [List.getElem?_drop, <- h1]; congr 1; rw [Nat.add_mul]; omega, ?_⟩;have e : cel ((xs.drop l).take n) i k = cel xs (l + i) k := by
  unfold cel;have e2 : ((xs.drop l).take n).getD i [] = xs.getD (l + i) [] := by
   rw [List.getD_eq_getElem?_getD, List.getD_eq_getElem?_getD, List.getElem?_take, if_pos (by omega), List.getElem?_drop]
  rw [e2]
 rwa [e]
theorem Ym7 {T : Nat} {ts : List Ty} {xs : Dt} {id l n : Nat} {w0 w : World} {M : List Nat} {R : RL} {φ : Phi} (hS : St w0 M ((It.nst T ts xs).conc φ id :: R) w) (hl : l + n <= xs.length) (hn : 0 < n) :
  (AV.rwp id ts.length l n).conc φ = .slice (some ⟨(φ id).b, l * ts.length, none⟩) n ((φ id).c - l) := by
 have hc := (Yrh hS).1;have hnil := Yd8 (by omega) hS;simp only [AV.conc, hnil, Bool.false_eq_true, if_false];rw [if_neg (show ¬ (φ id).c = l by omega), Option.map_some, Yp, Nat.zero_add]
theorem Yy0 {hs : Heap} {ts : List Ty} {T id l n : Nat} {xs : Dt} (hl : l + n <= xs.length) (hm : (id, It.nst T ts xs) ∈ hs) : ReadsIn hs (.sl ts) (.rwp id ts.length l n) (.l ((xs.drop l).take n)) := fun φ w0 M L w hS hall => by
 obtain ⟨R, hS'⟩ := hS.front (hall _ hm);obtain ⟨e, vs, hrow, hr⟩ := Ydz hS';obtain ⟨h1, h2⟩ := Yrh hS';rcases Nat.eq_zero_or_pos n with h0 | h0
 ·subst h0;have := Yja (hs := hs) (ts := ts) (x := .rwp id ts.length l 0) (fun φ => ⟨_, _, rfl⟩) φ w0 M L w hS hall;rwa [List.take_zero]
 ·rw [Ym7 hS' hl h0];have hnil := Yd8 (by omega) hS';have hlt := Res.lt2 (hS'.has _ List.mem_cons_self) (φ id).b (Yxb hnil);have hlen : ((xs.drop l).take n).length = n := by rw [List.length_take, List.length_drop]; omega
  have := Yph (w := w) (F := (φ id).F) (F' := InB φ hs) (ts := ts) (A := some ⟨(φ id).b, l * ts.length, none⟩) (c := (φ id).c - l) (vs := vs.drop (l * ts.length)) (xs := (xs.drop l).take n) (by dsimp only at h1; omega) (by dsimp only at h1 h2; omega) (fun b _ hb => .inr ⟨_, hm, .inr hb⟩)
   (fun _ => ⟨_, _, rfl, hlt, .inr ⟨_, hm, Yxb hnil⟩, fun j u hu => by rw [List.getElem?_drop] at hu; exact Yew hrow hu⟩) (Ymv hr hl)
  rwa [hlen] at this
theorem Yfk {t : Ty} {x : AV} {hp hs : Heap} {K : Heap -> Cl -> Prop} (h : Ywl t x hp hs K) (hpart : PartOf hs hp) : ∃ hs' c, K hs' c /\ PartOf hs' hp /\ (∀ p ∈ hs, p ∈ hs') /\ Yn0 t c /\ ReadsIn hs' t x c := by
 have keep : ∀ p ∈ hs, p ∈ hs := fun p hp => hp;unfold Ywl at h
 split at h
 ·split at h
  ·obtain ⟨h1, h2⟩ := Ya h;obtain rfl := of_decide_eq_true h1;exact ⟨_, _, h2, hpart, keep, ⟨_, rfl⟩, fun φ w0 M L w hS _ => @RdV.int (atF w (InB φ hs)) _ (.i _)⟩
  ·obtain ⟨h1, h2⟩ := Ya h;obtain rfl := of_decide_eq_true h1;exact ⟨_, _, h2, hpart, keep, ⟨_, rfl⟩, fun φ w0 M L w hS _ => @RdV.int (atF w (InB φ hs)) _ (.i _)⟩
  ·exact h.elim
 ·split at h
  ·exact ⟨_, _, h, hpart, keep, ⟨_, rfl⟩, fun φ w0 M L w hS _ => @RdV.bool (atF w (InB φ hs)) (.b _)⟩
  ·exact ⟨_, _, h, hpart, keep, ⟨_, rfl⟩, fun φ w0 M L w hS _ => @RdV.bool (atF w (InB φ hs)) (.b _)⟩
  ·exact h.elim
 ·split at h
  ·exact ⟨_, _, h, hpart, keep, ⟨_, rfl⟩, fun φ w0 M L w hS _ => @RdV.str (atF w (InB φ hs)) (.s _)⟩
  ·exact ⟨_, _, h, hpart, keep, ⟨_, rfl⟩, fun φ w0 M L w hS _ => @RdV.str (atF w (InB φ hs)) (.s _)⟩
  ·exact h.elim
 ·split at h
  ·rename_i ts' r;obtain ⟨h1, h2⟩ := Ya h;have e := Y8 _ _ _ h1;simp only [Ty.sl.injEq] at e;subst e;exact ⟨_, _, h2, hpart, keep, ⟨_, rfl⟩, fun φ w0 M L w hS _ => RdV.nowF hS (fun b hb => .inl hb) r.2⟩
  ·obtain ⟨h1, h2⟩ := Ya h;obtain rfl := Ye.1 h1;exact ⟨_, _, h2, hpart, keep, ⟨_, rfl⟩, Yja fun φ => ⟨_, _, rfl⟩⟩
  ·exact ⟨_, _, h, hpart, keep, ⟨_, rfl⟩, Yja fun φ => ⟨_, _, rfl⟩⟩
  ·obtain ⟨it, hl, h0⟩ := Yf h
   split at h0
   ·rename_i ts' xs;obtain ⟨h1, h2⟩ := Ya h0;have e := Y8 _ _ _ h1;simp only [Ty.sl.injEq] at e;subst e;obtain ⟨hs', h3, h4, h5, h6⟩ := Ydx h2 hpart hl;exact ⟨_, _, h3, h4, h5, ⟨_, rfl⟩, Y1x h6⟩
   ·exact h0.elim
  ·obtain ⟨it, hl, h0⟩ := Yf h
   split at h0
   ·obtain ⟨h1, h2⟩ := Ya h0;simp only [Bool.and_eq_true, Nat.ble_eq] at h1;obtain ⟨e, hsc⟩ := Y9 h1.1;subst e;obtain ⟨hs', h3, h4, h5, h6⟩ := Ydx h2 hpart hl;have hts := h1.2;refine ⟨_, _, h3, h4, h5, ⟨_, rfl⟩, ?_⟩;have key : ∀ (T id : Nat) (ts : List Ty) (xs : Dt), 0 < ts.length -> (∀ k ts', tyAt ts k ≠ .sl ts') -> (id, It.arr T ts xs) ∈ hs' -> ReadsIn hs' (.sl ts) (.rw id) (.l xs) := fun T id ts xs a b c => by
     have := Ytc a b (T := T) (id := id) (n := List.length xs) (x := .rw id) (.inl ⟨rfl, rfl⟩) c;rwa [List.take_length] at this
    exact key _ _ _ _ hts hsc h6
   ·obtain ⟨h1, h2⟩ := Ya h0;have e := Y8 _ _ _ h1;simp only [Ty.sl.injEq] at e;subst e;obtain ⟨hs', h3, h4, h5, h6⟩ := Ydx h2 hpart hl;exact ⟨_, _, h3, h4, h5, ⟨_, rfl⟩, Y05 h6⟩
   ·exact h0.elim
  ·rename_i id off lo m;obtain ⟨it, hl, h0⟩ := Yf h
   split at h0
   ·obtain ⟨h1, h2⟩ := Ya h0;simp only [Bool.and_eq_true, Nat.ble_eq, Ye] at h1;obtain ⟨⟨⟨h11, h12⟩, rfl⟩, rfl⟩ := h1;obtain ⟨e, hsc⟩ := Y9 h11;subst e;obtain ⟨h3, h4⟩ := h2;obtain ⟨hs', h5, h6, h7, h8⟩ := Ydx h4 hpart hl;exact ⟨_, _, h5, h6, h7, ⟨_, rfl⟩, Ytc h12 hsc (.inr ⟨rfl, of_decide_eq_true h3⟩) h8⟩
   ·rename_i T sz n cs
    split at h0
    ·rename_i hm;obtain rfl := Ye.1 hm;exact ⟨_, _, h0, hpart, keep, ⟨_, rfl⟩, Yja fun φ => ⟨_, _, rfl⟩⟩
    ·obtain ⟨h1, h2⟩ := Ya h0;simp only [Bool.and_eq_true, Nat.ble_eq, Ye] at h1;obtain ⟨⟨⟨h11, h12⟩, h13⟩, rfl⟩ := h1;obtain ⟨news, h3, h4, h5, _⟩ := Yfd h2;obtain ⟨hsc, h3⟩ := Ya h3;obtain ⟨ys, h6, h7, h8, _⟩ := Ydc h3;obtain ⟨hs', h9, h10, h11', h12'⟩ := Ydx h6 hpart hl;refine ⟨_, _, h9, h10, h11', ⟨_, rfl⟩, Ymm h11 (Y9 hsc).2 (fun φ w0 M R w hS => ⟨by unfold maxLen; omega, fun A m' c e => ?_⟩) (fun φ w0 M R w hS => ?_) h12'⟩
     ·have hc := Yj9 hS;have e' := e;simp only [AV.conc, Value.slice.injEq] at e;refine ⟨by omega, fun b off' hp he => ?_⟩;have hnil := Ybj h4 φ id w0 M R w hS;rw [he, hnil] at e;simp only [Bool.false_eq_true, if_false, Option.some.injEq, Addr.mk.injEq] at e;exact .inl (by simp [It.conc, Res.foot, hnil, Value.ownBlock, e.1.1])
     ·have hS' := (by simpa [Yb] using hS : St w0 M ((It.row T sz n cs).conc φ id :: R) w);have hnil := Ybj h4 φ id w0 M R w hS';refine ⟨_, _, by simp only [AV.conc, hnil, Bool.false_eq_true, if_false, h7]; rfl, .inr ⟨_, _, rfl, fun j u hu => ?_⟩⟩;exact Ybg hS' (h5 φ j u (by rw [h8 φ]; exact hu))
   ·exact h0.elim
  ·rename_i id sz' l m;obtain ⟨it, hl, h0⟩ := Yf h
   split at h0
   ·obtain ⟨h1, h2⟩ := Ya h0;simp only [Bool.and_eq_true, Nat.ble_eq, Ye] at h1;obtain ⟨⟨h11, h12⟩, rfl⟩ := h1;obtain ⟨e, hsc⟩ := Y9 h11;subst e;obtain ⟨h3, h4⟩ := h2;obtain ⟨hs', h5, h6, h7, h8⟩ := Ydx h4 hpart hl;exact ⟨_, _, h5, h6, h7, ⟨_, rfl⟩, Y0h h12 hsc (of_decide_eq_true h3) h8⟩
   ·obtain ⟨h1, h2⟩ := Ya h0;simp only [Bool.and_eq_true, Ye] at h1;obtain ⟨h11, rfl⟩ := h1;have e := Y8 _ _ _ h11;simp only [Ty.sl.injEq] at e;subst e;obtain ⟨h3, h4⟩ := h2;obtain ⟨hs', h5, h6, h7, h8⟩ := Ydx h4 hpart hl;exact ⟨_, _, h5, h6, h7, ⟨_, rfl⟩, Yy0 (of_decide_eq_true h3) h8⟩
   ·exact h0.elim
  ·exact h.elim
def Y6r : List Ty -> Bool
 | [] => false
 | .sl _ :: _ => true
 | _ :: ts => Y6r ts
abbrev DK := Ty -> AV -> Heap -> Heap -> (Heap -> Cl -> Prop) -> Prop
def Y21 (D : DK) : List Ty -> List AV -> Heap -> Heap -> (Heap -> List Cl -> Prop) -> Prop
 | [], [], hp, hs, K => K hs []
 | t :: ts, x :: xs, hp, hs, K => D t x hp hs fun hs c => Y21 D ts xs hp hs fun hs cs => K hs (c :: cs)
 | _, _, _, _, _ => Stuck 410
def Y3s (D : DK) (ts : List Ty) : Nat -> List AV -> Heap -> Heap -> (Heap -> Dt -> Prop) -> Prop
 | 0, cs, hp, hs, K => (match cs with | [] => K hs [] | _ => Stuck 411)
 | m + 1, cs, hp, hs, K => Yiu cs ts.length fun r => Ykq cs ts.length fun rest => Y21 D ts r hp hs fun hs l => Y3s D ts m rest hp hs fun hs ys => K hs (l :: ys)
def Yuj : Nat -> DK
 | 0, t, x, hp, hs, K => Ywl t x hp hs K
 | f + 1, t, x, hp, hs, K => match t, x with
  | .sl ts, .sl id off lo m => (match Y6r ts with
   | false => Ywl t x hp hs K
   | true => (match look hp id with
    | some (.row T sz n cs) => (match Nat.ble 1 m with
     | true => Yc (Nat.beq sz ts.length && Nat.ble 1 ts.length && Nat.ble m 4611686018427387904 && Nat.ble (lo + m) n && Nat.ble 1 n && Nat.beq off (lo * sz)) (Ykq cs off fun r => Yiu r (m * ts.length) fun news => addH hs id (.row T sz n cs) fun hs => Y3s (Yuj f) ts m news hp hs fun hs ys => K hs (.l ys))
     | false => Ywl t x hp hs K)
    | _ => Ywl t x hp hs K))
  | _, _ => Ywl t x hp hs K
def DOk (D : DK) : Prop := ∀ (t : Ty) (x : AV) (hp hs : Heap) (K : Heap -> Cl -> Prop), D t x hp hs K -> PartOf hs hp -> ∃ hs' c, K hs' c /\ PartOf hs' hp /\ (∀ p ∈ hs, p ∈ hs') /\ Yn0 t c /\ ReadsIn hs' t x c
theorem Ynz {D : DK} (hD : DOk D) : ∀ {ts : List Ty} {xs : List AV} {hp hs : Heap} {K : Heap -> List Cl -> Prop}, Y21 D ts xs hp hs K -> PartOf hs hp -> ∃ hs' cs, K hs' cs /\ PartOf hs' hp /\ (∀ p ∈ hs, p ∈ hs') /\ xs.length = ts.length /\ cs.length = ts.length /\
  ∀ (k : Nat) (t : Ty), ts[k]? = some t -> ∃ x, xs[k]? = some x /\ ReadsIn hs' t x (cs.getD k .z)
 | [], [], hp, hs, K, h, hpart => ⟨hs, [], h, hpart, fun p hp => hp, rfl, rfl, fun k t e => by simp at e⟩
 | t :: ts, x :: xs, hp, hs, K, h, hpart => by
  obtain ⟨hs1, c, h1, h2, h3, h4, h5⟩ := hD _ _ _ _ _ h hpart;obtain ⟨hs2, cs, k1, k2, k3, k4, k5, k6⟩ := Ynz hD h1 h2;refine ⟨hs2, c :: cs, k1, k2, fun p hp => k3 p (h3 p hp), by simp [k4], by simp [k5], fun k t' e => ?_⟩;cases k with
  | zero =>
   simp only [List.getElem?_cons_zero, Option.some.injEq] at e;subst e;exact ⟨x, rfl, h5.mono k3⟩
  | succ k =>
   obtain ⟨y, y1, y2⟩ := k6 k t' (by simpa using e);exact ⟨y, by simpa using y1, by simpa using y2⟩
 | [], _ :: _, _, _, _, h, _ => h.elim
 | _ :: _, [], _, _, _, h, _ => h.elim
theorem Yj8 {D : DK} (hD : DOk D) {ts : List Ty} : ∀ {m : Nat} {cs : List AV} {hp hs : Heap} {K : Heap -> Dt -> Prop}, Y3s D ts m cs hp hs K -> PartOf hs hp -> ∃ hs' ys, K hs' ys /\ PartOf hs' hp /\ (∀ p ∈ hs, p ∈ hs') /\ ys.length = m /\
  ∀ (i k : Nat) (t : Ty), i < m -> ts[k]? = some t -> ∃ x, cs[i * ts.length + k]? = some x /\ ReadsIn hs' t x (cel ys i k)
 | 0, cs, hp, hs, K, h, hpart => by
  cases cs with
  | nil => exact ⟨hs, [], h, hpart, fun p hp => hp, rfl, fun i k t hi => by omega⟩
  | cons _ _ => exact h.elim
 | m + 1, cs, hp, hs, K, h, hpart => by
  obtain ⟨h1, h2⟩ := Ybw h;obtain ⟨_, h3⟩ := Yb8 h2;obtain ⟨hs1, l, h4, h5, h6, h7, h8, h9⟩ := Ynz hD h3 hpart;obtain ⟨hs2, ys, k1, k2, k3, k4, k5⟩ := Yj8 hD h4 h5;refine ⟨hs2, l :: ys, k1, k2, fun p hp => k3 p (h6 p hp), by simp [k4], fun i k t hi ht => ?_⟩;have hk : k < ts.length := by
   rcases Nat.lt_or_ge k ts.length with a | a
   ·exact a
   ·rw [List.getElem?_eq_none a] at ht; cases ht
  cases i with
  | zero =>
   obtain ⟨x, x1, x2⟩ := h9 k t ht;refine ⟨x, ?_, x2.mono k3⟩;rw [List.getElem?_take, if_pos hk] at x1;rw [Nat.zero_mul, Nat.zero_add];exact x1
  | succ i =>
   obtain ⟨x, x1, x2⟩ := k5 i k t (by omega) ht;refine ⟨x, ?_, x2⟩;rw [List.getElem?_drop] at x1;rw [show (i + 1) * ts.length + k = ts.length + (i * ts.length + k) by rw [Nat.add_mul]; omega];exact x1
theorem Yd9 : ∀ f, DOk (Yuj f)
 | 0 => fun t x hp hs K h hpart => Yfk h hpart
 | f + 1 => fun t x hp hs K h hpart => by
  unfold Yuj at h
  split at h
  ·rename_i ts id off lo m
   split at h
   ·exact Yfk h hpart
   ·split at h
    ·rename_i T sz n cs hl
     split at h
     ·rename_i hm;rw [Nat.ble_eq] at hm;obtain ⟨h1, h2⟩ := Ya h;simp only [Bool.and_eq_true, Nat.ble_eq, Ye] at h1;obtain ⟨⟨⟨⟨⟨rfl, h12⟩, h13⟩, h14⟩, h15⟩, rfl⟩ := h1;obtain ⟨h3, h4⟩ := Yb8 h2;obtain ⟨h5, h6⟩ := Ybw h4;obtain ⟨hs1, h7, h8, h9, h10⟩ := Ydx h6 hpart hl;obtain ⟨hs2, ys, k1, k2, k3, k4, k5⟩ := Yj8 (Yd9 f) h7 h8;refine ⟨_, _, k1, k2, fun p hp => k3 p (h9 p hp), ⟨_, rfl⟩, fun φ w0 M L w hS hall => ?_⟩;obtain ⟨R, hS'⟩ := hS.front (hall _ (k3 _ h10));have hnil : (φ id).nil = false := Ydd h15 hS';have hcap : n <= (φ id).c := Yj9 hS';have hcell : ∀ i k x, cs[lo * ts.length + (i * ts.length + k)]? = some x -> w.cell? ⟨(φ id).b, lo * ts.length + i * ts.length + k, none⟩ = some (x.conc φ) := fun i k x hx => by
       refine Ybg hS' (k := lo * ts.length + i * ts.length + k) (v := x.conc φ) ?_
       show (AV.concL φ cs)[_]? = _
       rw [Yck, Nat.add_assoc, hx];rfl
      have hrow : ∀ i k t, i < m -> ts[k]? = some t -> ∃ x, cs[lo * ts.length + (i * ts.length + k)]? = some x /\ ReadsIn hs2 t x (cel ys i k) := fun i k t hi ht => by
       obtain ⟨x, x1, x2⟩ := k5 i k t hi ht;refine ⟨x, ?_, x2⟩;rw [List.getElem?_take] at x1
       split at x1
       ·rwa [List.getElem?_drop] at x1
       ·cases x1
      show @RdV (atF w (InB φ hs2)) (.sl ts) (.slice (if (φ id).nil then none else some ⟨(φ id).b, lo * ts.length, none⟩) m ((φ id).c - lo)) (.l ys)
      rw [hnil];have e := @RdV.sl (atF w (InB φ hs2)) ts (some ⟨(φ id).b, lo * ts.length, none⟩) ((φ id).c - lo) (.l ys) (fun i k => (cs.getD (lo * ts.length + (i * ts.length + k)) .junk).conc φ)
       (by show ys.length <= _; omega) (by show ys.length <= _; unfold maxLen; omega) (fun _ => ?_) (fun i k t hi ht => ?_)
      ·rw [show (Cl.l ys).lst.length = m from k4] at e;exact e
      ·have key : ∀ i k, i < ys.length -> k < ts.length -> w.cell? ⟨(φ id).b, lo * ts.length + i * ts.length + k, none⟩ = some ((cs.getD (lo * ts.length + (i * ts.length + k)) .junk).conc φ) := fun i k hi hk => by
        obtain ⟨x, x1, _⟩ := hrow i k ts[k] (by omega) (List.getElem?_eq_getElem hk);rw [hcell i k x x1, List.getD_eq_getElem?_getD, x1];rfl
       exact ⟨_, _, rfl, ⟨Y22 (key 0 0 (by omega) (by omega)), .inr ⟨_, k3 _ h10, .inl (by simp [It.conc, Res.foot, hnil, Value.ownBlock])⟩⟩, key⟩
      ·obtain ⟨x, x1, x2⟩ := hrow i k t (by have : i < ys.length := hi; omega) ht;rw [show (cs.getD (lo * ts.length + (i * ts.length + k)) AV.junk) = x by rw [List.getD_eq_getElem?_getD, x1]; rfl];exact x2 φ w0 M L w hS fun p hp => hall p hp
     ·exact Yfk h hpart
    ·exact Yfk h hpart
  ·exact Yfk h hpart
end
end Go.Proofs.YtladoaeefkpdiaaGreatDoor
namespace Go.Proofs.YtladoaeefkpdiaaGreatDoor
open Go.RowKit
variable [InW]
attribute [local irreducible] Go.Oper.wp
def It.own : It -> Bool
 | .fro .. => false
 | .dead => false
 | _ => true
def memN (i : Nat) : List Nat -> Bool
 | [] => false
 | j :: l => match Nat.beq j i with | true => true | false => memN i l
theorem Ylm {i : Nat} : ∀ {l : List Nat}, memN i l = true ↔ i ∈ l
 | [] => by simp [memN]
 | j :: l => by
  unfold memN;cases h : Nat.beq j i with
  | true => simp [Ye.1 h]
  | false =>
   have := Y4.1 h;simp only [List.mem_cons];exact ⟨fun h => .inr (Ylm.1 h), fun h => Ylm.2 (h.resolve_left fun e => this e.symm)⟩
def Yeh : Heap -> Heap
 | [] => []
 | p :: hs => match p.2.own with | true => (p.1, .dead) :: Yeh hs | false => Yeh hs
def Yji (us : List Nat) (p : Nat × It) : Nat × It := if memN p.1 us = true then (p.1, .dead) else p
theorem Ydi : ∀ {hs : Heap}, ∀ p ∈ Yeh hs, p.2 = .dead /\ p.1 ∈ keys hs
 | [], p, hp => by cases hp
 | q :: hs, p, hp => by
  unfold Yeh at hp
  split at hp
  ·rcases List.mem_cons.1 hp with rfl | hp
   ·exact ⟨rfl, by simp [keys]⟩
   ·have := Ydi p hp;exact ⟨this.1, by simp only [keys, List.map_cons, List.mem_cons]; exact .inr this.2⟩
  ·have := Ydi p hp;exact ⟨this.1, by simp only [keys, List.map_cons, List.mem_cons]; exact .inr this.2⟩
theorem Yzx {i : Nat} : ∀ {hs : Heap}, (keys hs).Nodup -> upd hs i .dead = hs.map fun p => if p.1 = i then (p.1, .dead) else p
 | [], _ => rfl
 | q :: hs, hn => by
  simp only [keys, List.map_cons, List.nodup_cons] at hn;unfold upd;cases hb : Nat.beq q.1 i with
  | true =>
   have e := Ye.1 hb;simp only [List.map_cons, e, if_true, List.cons.injEq, true_and];symm;refine (List.map_congr_left fun p hp => ?_).trans (List.map_id' _);rw [if_neg];intro h;exact hn.1 (by rw [e, <- h]; exact List.mem_map_of_mem hp)
  | false =>
   simp only [List.map_cons, if_neg (Y4.1 hb), Yzx hn.2]
theorem Yfs : ∀ {us hs : Heap}, (keys hs).Nodup -> (∀ p ∈ us, p.2 = .dead) -> Yh hs us = hs.map (Yji (keys us))
 | [], hs, _, _ => by
  have : Yji [] = id := by funext p; simp [Yji, memN]
  simp [Yh, keys, this]
 | u :: us, hs, hn, hd => by
  have h1 : u.2 = .dead := hd u List.mem_cons_self;have h2 : (keys (upd hs u.1 .dead)).Nodup := by rw [Ylq]; exact hn
  rw [Yh, h1, Yfs h2 fun p hp => hd p (List.mem_cons_of_mem _ hp), Yzx hn, List.map_map];refine List.map_congr_left fun p hp => ?_;simp only [Function.comp]
  by_cases e : p.1 = u.1
  ·simp only [e, if_true, Yji, keys, List.map_cons, memN, Nat.beq_refl]
   split <;> simp
  ·simp only [if_neg e, Yji, keys, List.map_cons, memN, Y4.2 (Ne.symm e)]
def SetF (φ : Phi) (hs : Heap) (us : List Nat) (b : Nat) : Prop := InW.F b \/ ∃ p ∈ hs, (p.2.conc φ p.1).frz b \/ p.1 ∈ us /\ b ∈ (p.2.conc φ p.1).foot
theorem InB.set {φ : Phi} {hs : Heap} {b : Nat} (h : InB φ hs b) : SetF φ hs (keys (Yeh hs)) b := by
 rcases h with h | ⟨p, hp, h⟩
 ·exact .inl h
 ·refine .inr ⟨p, hp, ?_⟩;rcases h with h | h
  ·refine .inr ⟨?_, h⟩;have ho : p.2.own = true := by
    cases hi : p.2 <;> first | rfl | (rw [hi] at h; simp [It.conc, Res.foot, Res.fro, Value.ownBlock] at h)
   clear h
   induction hs with
   | nil => cases hp
   | cons q hs ih =>
    unfold Yeh;rcases List.mem_cons.1 hp with rfl | hp
    ·rw [ho]; simp [keys]
    ·split
     ·simp only [keys, List.map_cons, List.mem_cons]; exact .inr (ih hp)
     ·exact ih hp
  ·exact .inl h
theorem Ynv (φ : Phi) (us : List Nat) (p : Nat × It) : ((Yji us p).2.conc φ (Yji us p).1 = Res.row (.slice none 0 0) 0 0 0 [] /\ p.1 ∈ us) \/ (Yji us p = p /\ p.1 ∉ us) := by
 unfold Yji
 split
 ·rename_i h; exact .inl ⟨rfl, Ylm.1 h⟩
 ·rename_i h; exact .inr ⟨rfl, fun hm => h (Ylm.2 hm)⟩
theorem Yrd {α : Type} {R : Res -> Res -> Prop} (hsy : ∀ a b, R a b -> R b a) {f : α -> Res} : ∀ {l : List α}, (l.map f).Pairwise R -> ∀ p ∈ l, ∀ q ∈ l, p ≠ q -> R (f p) (f q)
 | [], _, p, hp, _, _, _ => by cases hp
 | a :: l, h, p, hp, q, hq, hne => by
  simp only [List.map_cons, List.pairwise_cons] at h;rcases List.mem_cons.1 hp with e | hp2
  ·rcases List.mem_cons.1 hq with e2 | hq2
   ·exact absurd (e.trans e2.symm) hne
   ·rw [e]; exact h.1 _ (List.mem_map.2 ⟨q, hq2, rfl⟩)
  ·rcases List.mem_cons.1 hq with e2 | hq2
   ·rw [e2]; exact hsy _ _ (h.1 _ (List.mem_map.2 ⟨p, hp2, rfl⟩))
   ·exact Yrd hsy h.2 p hp2 q hq2 hne
theorem Yim {b : Nat} : ¬ (Res.row (.slice none 0 0) 0 0 0 []).in_ b := fun h => h.elim (by simp [Res.foot, Value.ownBlock]) fun h => h
theorem St.give {φ : Phi} {w0 w : World} {M : List Nat} {hs us : Heap} {A R X : RL} (h : St w0 M (Yb φ hs ++ R) w) (hn : (keys hs).Nodup) (hd : ∀ p ∈ us, p.2 = .dead) (hX : ∀ x ∈ X, x.holds w) (hXs : X.Pairwise apart)
  (hXf : ∀ x ∈ X, ∀ b ∈ x.foot, ∃ p ∈ hs, p.1 ∈ keys us /\ b ∈ (p.2.conc φ p.1).foot) (hXz : ∀ x ∈ X, ∀ b, x.frz b -> SetF φ hs (keys us) b) : St w0 M (X ++ (Yb φ (Yh hs us) ++ R)) w := by
 have hsep := List.pairwise_append.1 h.sep;have hp := Yrd (fun a b => apart.symm) (f := fun p : Nat × It => p.2.conc φ p.1) hsep.1;have hm : ∀ p ∈ hs, p.2.conc φ p.1 ∈ Yb φ hs := fun p hp => List.mem_map.2 ⟨p, hp, rfl⟩;rw [Yfs hn hd, <- List.append_assoc];have hdead : (Res.row (.slice none 0 0) 0 0 0 []).holds w := ⟨by simp, .inl ⟨rfl, rfl⟩⟩;have hmem : ∀ r ∈ Yb φ (hs.map (Yji (keys us))), r = Res.row (.slice none 0 0) 0 0 0 [] \/ ∃ p ∈ hs, p.1 ∉ keys us /\ r = p.2.conc φ p.1 := fun r hr => by
  obtain ⟨q, hq, rfl⟩ := List.mem_map.1 hr;obtain ⟨p, hpm, rfl⟩ := List.mem_map.1 hq;rcases Ynv φ (keys us) p with ⟨e, _⟩ | ⟨e, h2⟩
  ·exact .inl e
  ·exact .inr ⟨p, hpm, h2, by rw [e]⟩
 refine St.repack h (L2 := X ++ Yb φ (hs.map (Yji (keys us)))) ?_ ?_ ?_ ?_
 ·intro r hr;rcases List.mem_append.1 hr with hr | hr
  ·exact hX r hr
  ·rcases hmem r hr with rfl | ⟨p, hpm, _, rfl⟩
   ·exact hdead
   ·exact h.has _ (List.mem_append_left _ (hm p hpm))
 ·intro r hr b hb;rcases List.mem_append.1 hr with hr | hr
  ·obtain ⟨p, hpm, _, hb⟩ := hXf r hr b hb;exact ⟨_, hm p hpm, hb⟩
  ·rcases hmem r hr with rfl | ⟨p, hpm, _, rfl⟩
   ·exact absurd (.inl hb) Yim
   ·exact ⟨_, hm p hpm, hb⟩
 ·intro r hr b hb;rcases List.mem_append.1 hr with hr | hr
  ·rcases hXz r hr b hb with h1 | ⟨p, hpm, h1⟩
   ·exact .inl h1
   ·exact .inr ⟨_, hm p hpm, h1.elim .inr fun h => .inl h.2⟩
  ·rcases hmem r hr with rfl | ⟨p, hpm, _, rfl⟩
   ·exact False.elim hb
   ·exact .inr ⟨_, hm p hpm, .inr hb⟩
 ·refine List.pairwise_append.2 ⟨hXs, ?_, fun x hx r hr => ?_⟩
  ·unfold Yb;rw [List.map_map, List.pairwise_map];have h2 := List.pairwise_map.1 hsep.1;refine h2.imp fun {p q} hpq => ?_;simp only [Function.comp];rcases Ynv φ (keys us) p with ⟨e, _⟩ | ⟨e, _⟩
   ·rw [e]; exact ⟨fun b hb => absurd (.inl hb) Yim, fun b _ => Yim⟩
   ·rw [e];rcases Ynv φ (keys us) q with ⟨e, _⟩ | ⟨e, _⟩
    ·rw [e]; exact ⟨fun b _ => Yim, fun b hb => absurd (.inl hb) Yim⟩
    ·rw [e]; exact hpq
  ·rcases hmem r hr with rfl | ⟨p, hpm, hnp, rfl⟩
   ·exact ⟨fun b _ => Yim, fun b hb => absurd (.inl hb) Yim⟩
   ·refine ⟨fun b hb => ?_, fun b hb hb' => ?_⟩
    ·obtain ⟨q, hqm, hq, hb⟩ := hXf x hx b hb;exact (hp q hqm p hpm fun e => hnp (e ▸ hq)).1 b hb
    ·rcases hb' with hb' | hb'
     ·obtain ⟨q, hqm, hq, hb'⟩ := hXf x hx b hb';exact (hp q hqm p hpm fun e => hnp (e ▸ hq)).2 b hb (.inl hb')
     ·rcases hXz x hx b hb' with h1 | ⟨q, hqm, h1⟩
      ·exact h.farF (List.mem_append_left _ (hm p hpm)) hb h1
      ·rcases h1 with h1 | h1
       ·exact h.farZ (List.mem_append_left _ (hm p hpm)) (List.mem_append_left _ (hm q hqm)) hb h1
       ·exact (hp q hqm p hpm fun e => hnp (e ▸ h1.1)).2 b hb (.inl h1.2)
theorem St.dups {w0 w : World} {M : List Nat} {L R D : RL} (h : St w0 M (L ++ R) w) (hD : ∀ r ∈ D, r.foot = [] /\ r.holds w /\ ∀ b, r.frz b -> InW.F b \/ ∃ q ∈ L, q.frz b) : St w0 M (D ++ (L ++ R)) w := by
 have hsep := List.pairwise_append.1 h.sep;rw [<- List.append_assoc];refine St.repack h ?_ ?_ ?_ ?_
 ·intro r hr;rcases List.mem_append.1 hr with hr | hr
  ·exact (hD r hr).2.1
  ·exact h.has _ (List.mem_append_left _ hr)
 ·intro r hr b hb;rcases List.mem_append.1 hr with hr | hr
  ·rw [(hD r hr).1] at hb; cases hb
  ·exact ⟨r, hr, hb⟩
 ·intro r hr b hb;rcases List.mem_append.1 hr with hr | hr
  ·rcases (hD r hr).2.2 b hb with h1 | ⟨q, hq, h1⟩
   ·exact .inl h1
   ·exact .inr ⟨q, hq, .inr h1⟩
  ·exact .inr ⟨r, hr, .inr hb⟩
 ·have nof : ∀ r ∈ D, ∀ b, ¬ b ∈ r.foot := fun r hr b hb => by rw [(hD r hr).1] at hb; cases hb
  refine List.pairwise_append.2 ⟨?_, hsep.1, fun x hx y hy => ⟨fun b hb => absurd hb (nof x hx b), fun b hb hb' => ?_⟩⟩
  ·have : ∀ l : RL, (∀ r ∈ l, r ∈ D) -> l.Pairwise apart := by
    intro l
    induction l with
    | nil => intro _; exact List.Pairwise.nil
    | cons a l ih =>
     intro hl;refine List.Pairwise.cons (fun y hy => ⟨fun b hb => absurd hb (nof a (hl a List.mem_cons_self) b), fun b hb => absurd hb (nof y (hl y (List.mem_cons_of_mem _ hy)) b)⟩) (ih fun r hr => hl r (List.mem_cons_of_mem _ hr))
   exact this D fun r hr => hr
  ·rcases hb' with hb' | hb'
   ·exact nof x hx b hb'
   ·rcases (hD x hx).2.2 b hb' with h1 | ⟨q, hq, h1⟩
    ·exact h.farF (List.mem_append_left _ hy) hb h1
    ·exact h.farZ (List.mem_append_left _ hy) (List.mem_append_left _ hq) hb h1
def Res.rdl (F : Nat -> Prop) (ts : List Ty) (vs : List Value) (xs : Dt) : Res := .abs [] F fun w => RowsRd w F ts vs xs
theorem Ys8 {F : Nat -> Prop} {ts : List Ty} {vs : List Value} {xs : Dt} {w : World} (hb : ∀ b, F b -> b < w.heap.size) (h : RowsRd w F ts vs xs) : (Res.rdl F ts vs xs).holds w :=
 ⟨fun b h => hb b (h.resolve_left (by simp)), by simp, fun w' hk => h.grow (fun b h1 h2 => ⟨Ygj h1 (hk b (.inr h2)), h2⟩) fun b _ h2 => hk b (.inr h2)⟩
theorem Y7m {F : Nat -> Prop} {ts : List Ty} {vs : List Value} {xs : Dt} {w : World} (h : (Res.rdl F ts vs xs).holds w) : RowsRd w F ts vs xs := h.2.2 w fun _ _ => rfl
theorem St.joinN {w0 w : World} {M : List Nat} {R : RL} {v : Value} {e : TypeId} {ts : List Ty} {n : Nat} {vs : List Value} {xs : Dt} {F : Nat -> Prop} (h : St w0 M (.row v e ts.length n vs :: Res.rdl F ts vs xs :: R) w) (hn : xs.length = n) : St w0 M (.nst v e ts n xs F :: R) w := by
 have h1 := h.has _ List.mem_cons_self;have h2 := h.has _ (List.mem_cons_of_mem _ List.mem_cons_self);have hsep := (List.pairwise_cons.1 h.sep).1 _ List.mem_cons_self;refine St.repack (L1 := [.row v e ts.length n vs, Res.rdl F ts vs xs]) (L2 := [.nst v e ts n xs F]) h ?_ ?_ ?_ (by simp)
 ·intro r hr;rw [List.mem_singleton] at hr;subst hr;exact Ygw (fun b hb => Res.lt2 h2 b (.inr hb)) (fun b hb hz => hsep.1 b hb (.inr hz)) ⟨hn, vs, h1, Y7m h2⟩
 ·intro r hr b hb;rw [List.mem_singleton] at hr;subst hr;exact ⟨_, List.mem_cons_self, hb⟩
 ·intro r hr b hb;rw [List.mem_singleton] at hr;subst hr;exact .inr ⟨_, List.mem_cons_of_mem _ List.mem_cons_self, .inr hb⟩
theorem Y5t {xs ys : Dt} {i j : Nat} (h : xs[i]? = ys[j]?) (k : Nat) : cel xs i k = cel ys j k := by
 unfold cel;simp only [List.getD_eq_getElem?_getD, h]
theorem Yyl {w : World} {F : Nat -> Prop} {ts : List Ty} {vs us : List Value} {xs ys : Dt} (hl : vs.length = xs.length * ts.length) (h1 : RowsRd w F ts vs xs) (h2 : RowsRd w F ts us ys) : RowsRd w F ts (vs ++ us) (xs ++ ys) := fun i k t hi ht => by
 have hk : k < ts.length := by
  rcases Nat.lt_or_ge k ts.length with a | a
  ·exact a
  ·rw [List.getElem?_eq_none a] at ht; cases ht
 rcases Nat.lt_or_ge i xs.length with h | h
 ·obtain ⟨u, h3, h4⟩ := h1 i k t h ht;have hlt : i * ts.length + k < vs.length := (List.getElem?_eq_some_iff.1 h3).1;refine ⟨u, by rw [List.getElem?_append_left hlt, h3], ?_⟩;have e : cel (xs ++ ys) i k = cel xs i k := Y5t (List.getElem?_append_left h) k;rwa [e]
 ·rw [List.length_append] at hi;obtain ⟨u, h3, h4⟩ := h2 (i - xs.length) k t (by omega) ht;have e1 : i * ts.length = xs.length * ts.length + (i - xs.length) * ts.length := by rw [<- Nat.add_mul]; congr 1; omega
  refine ⟨u, ?_, ?_⟩
  ·rw [List.getElem?_append_right (by rw [hl]; omega), hl, <- h3]
   congr 1
   omega
  ·have e : cel (xs ++ ys) i k = cel ys (i - xs.length) k := Y5t (List.getElem?_append_right h) k;rwa [e]
end Go.Proofs.YtladoaeefkpdiaaGreatDoor
namespace Go.Proofs.YtladoaeefkpdiaaGreatDoor
open Go.RowKit
variable [InW]
attribute [local irreducible] Go.Oper.wp
section
variable {P : Program} {tm : List AV} {dst : Option Tmp} {type : TypeId} {pos : String} {after : Array Edge} {guard : Option (Nat × Bool)}
def Yca (d j : Nat) : Nat := 3 * (j * 1024 + d) + 2
theorem SetF.lt {w0 w : World} {M : List Nat} {L : RL} {φ : Phi} {hs : Heap} {us : List Nat} (hS : St w0 M L w) (hm : ∀ p ∈ hs, p.2.conc φ p.1 ∈ L) {b : Nat} (h : SetF φ hs us b) : b < w.heap.size := by
 rcases h with h | ⟨p, hp, h⟩
 ·exact Nat.lt_of_lt_of_le (InW.lt b h) (Nat.le_trans hS.inw.base hS.kept.size)
 ·exact Res.lt2 (hS.has _ (hm p hp)) b (h.elim .inr fun h => .inl h.2)
theorem SetF.nil {φ : Phi} {hs : Heap} {b : Nat} (h : SetF φ hs [] b) : InW.F b \/ ∃ q ∈ Yb φ hs, q.frz b := by
 rcases h with h | ⟨p, hp, h⟩
 ·exact .inl h
 ·exact .inr ⟨_, List.mem_map.2 ⟨p, hp, rfl⟩, h.resolve_right fun h => by cases h.1⟩
theorem Ydp {φ : Phi} {hs : Heap} {R : RL} : ∀ p ∈ hs, p.2.conc φ p.1 ∈ Yb φ hs ++ R := fun p hp => List.mem_append_left _ (List.mem_map.2 ⟨p, hp, rfl⟩)
def Yoe (φ : Phi) (hs : Heap) (w : World) (ts : List Ty) (xs : Dt) (i b off : Nat) : Prop :=
 ∃ u : Nat -> Value, ∀ k, k < ts.length -> w.cell? ⟨b, off + k, none⟩ = some (u k) /\ @RdV (atF w (SetF φ hs [])) (tyAt ts k) (u k) (cel xs i k)
theorem Ylf {ts : List Ty} {k : Nat} (hk : k < ts.length) : ts[k]? = some (tyAt ts k) := by
 rw [Yeb, List.getD_eq_getElem?_getD, List.getElem?_eq_getElem hk, Option.getD_some]
theorem Y06 {w0 w : World} {M : List Nat} {R : RL} {φ : Phi} {id T i : Nat} {ts : List Ty} {xs : Dt} (hS : St w0 M (Yb φ [(id, It.nst T ts xs)] ++ R) w) (hi : i < xs.length) : Yoe φ [(id, .nst T ts xs)] w ts xs i (φ id).b (i * ts.length) := by
 have hS' : St w0 M ((It.nst T ts xs).conc φ id :: R) w := hS;obtain ⟨e, vs, hrow, hr⟩ := Ydz hS';refine ⟨fun k => vs.getD (i * ts.length + k) undef, fun k hk => ?_⟩;obtain ⟨u, h1, h2⟩ := hr i k _ hi (Ylf hk);have e1 : vs.getD (i * ts.length + k) undef = u := by rw [List.getD_eq_getElem?_getD, h1]; rfl
 simp only [e1];exact ⟨Yew hrow h1, h2.grow (fun b h1 h2 => ⟨h1, .inr ⟨_, List.mem_cons_self, .inl h2⟩⟩) fun _ _ _ => rfl⟩
theorem Yt7 {w0 w : World} {M : List Nat} {R : RL} {φ : Phi} {id i : Nat} {ts : List Ty} {xs : Dt} (hS : St w0 M (Yb φ [(id, It.fro ts xs)] ++ R) w) (hi : i < xs.length) : ∃ b off c, (φ id).v = .slice (some ⟨b, off, none⟩) xs.length c /\ Yoe φ [(id, .fro ts xs)] w ts xs i b (off + i * ts.length) := by
 obtain ⟨v', hv'⟩ : ∃ v', v' = (φ id).v := ⟨_, rfl⟩;have h := Yxq (hS.has _ List.mem_cons_self);unfold froP at h
 change @RdV (atF w (φ id).F) (.sl ts) (φ id).v (.l xs) at h
 rw [<- hv'] at h ⊢;cases h with
 | sl _ A c _ u hc hm ha hr =>
  simp only [Cl.lst] at hc hm ha hr;obtain ⟨b, off, rfl, h2, h3⟩ := ha (fun e => by rw [e] at hi; simp at hi);refine ⟨b, off, c, rfl, fun k => u i k, fun k hk => ⟨h3 i k hi hk, (hr i k _ hi (Ylf hk)).grow (fun b h1 h2 => ⟨h1, .inr ⟨_, List.mem_cons_self, .inl h2⟩⟩) fun _ _ _ => rfl⟩⟩
noncomputable def Yy3 (d : Nat) (ts : List Ty) (xs : Dt) (i k : Nat) : AV := match tyAt ts k with | .sl _ => .opq (Yca d k) | t => Yie t (cel xs i k)
noncomputable def Y6g (d : Nat) (ts : List Ty) (xs : Dt) (i k : Nat) : Heap := match tyAt ts k with | .sl ts' => [(Yca d k, .fro ts' (cel xs i k).lst)] | _ => []
noncomputable def Yk3 (d : Nat) (ts : List Ty) (xs : Dt) (i : Nat) : Nat -> Nat -> List AV
 | _, 0 => []
 | k, n + 1 => Yy3 d ts xs i k :: Yk3 d ts xs i (k + 1) n
noncomputable def Yga (d : Nat) (ts : List Ty) (xs : Dt) (i : Nat) : Nat -> Nat -> Heap
 | _, 0 => []
 | k, n + 1 => Y6g d ts xs i k ++ Yga d ts xs i (k + 1) n
noncomputable def isSlT (t : Ty) : Bool := match t with | .sl _ => true | _ => false
theorem Yke {d : Nat} {ts : List Ty} {xs : Dt} {i : Nat} : ∀ {n k : Nat} {p : Nat × It}, p ∈ Yga d ts xs i k n ↔ ∃ j ts', k <= j /\ j < k + n /\ tyAt ts j = .sl ts' /\ p = (Yca d j, .fro ts' (cel xs i j).lst)
 | 0, k, p => by simp only [Yga, List.not_mem_nil, false_iff]; rintro ⟨j, ts', h1, h2, _⟩; omega
 | n + 1, k, p => by
  simp only [Yga, List.mem_append, Yke (n := n) (k := k + 1)];constructor
  ·rintro (h | ⟨j, ts', h1, h2, h3, h4⟩)
   ·unfold Y6g at h
    split at h
    ·rename_i ts' e;rw [List.mem_singleton] at h;exact ⟨k, ts', Nat.le_refl _, by omega, e, h⟩
    ·cases h
   ·exact ⟨j, ts', by omega, by omega, h3, h4⟩
  ·rintro ⟨j, ts', h1, h2, h3, h4⟩;rcases Nat.eq_or_lt_of_le h1 with e | e
   ·subst e;refine .inl ?_;unfold Y6g;rw [h3, h4];exact List.mem_singleton.2 rfl
   ·exact .inr ⟨j, ts', by omega, by omega, h3, h4⟩
theorem Y1c {d j : Nat} (hd : d < 1024) : Yca d j / 3072 = j := by unfold Yca; omega
noncomputable def phiL (φ : Phi) (hs : Heap) (d : Nat) (ts : List Ty) (k n : Nat) (u : Nat -> Value) : Phi := fun id =>
 if id = Yca d (id / 3072) /\ k <= id / 3072 /\ id / 3072 < k + n /\ isSlT (tyAt ts (id / 3072)) = true then ⟨0, false, 0, none, 0, u (id / 3072), SetF φ hs []⟩ else φ id
theorem Y0u {φ : Phi} {hs : Heap} {d : Nat} {ts ts' : List Ty} {k n : Nat} {u : Nat -> Value} (hd : d < 1024) {j : Nat} (h1 : k <= j) (h2 : j < k + n) (h3 : tyAt ts j = .sl ts') : phiL φ hs d ts k n u (Yca d j) = ⟨0, false, 0, none, 0, u j, SetF φ hs []⟩ := by
 unfold phiL;rw [Y1c hd, if_pos ⟨rfl, h1, h2, by rw [h3]; rfl⟩]
theorem Ykb {φ : Phi} {hs : Heap} {d : Nat} {ts : List Ty} {k n : Nat} {u : Nat -> Value} (xs : Dt) (i : Nat) : Agree (keys (Yga d ts xs i k n)) φ (phiL φ hs d ts k n u) := fun id hid => by
 unfold phiL;rw [if_neg];rintro ⟨h1, h2, h3, h4⟩;cases ht : tyAt ts (id / 3072) with
 | sl ts' => exact hid (List.mem_map.2 ⟨_, Yke.2 ⟨id / 3072, ts', h2, h3, ht, rfl⟩, h1.symm⟩)
 | _ => rw [ht] at h4; cases h4
theorem Y0f (W : InW) {t : Ty} {v : Value} {c : Cl} (h : @RdV W t v c) (hs : ∀ ts', t ≠ .sl ts') : v = t.val c := by
 cases t with
 | int kd => exact @RdV.isInt W _ _ _ h
 | bool => exact @RdV.isBool W _ _ h
 | str => exact @RdV.isStr W _ _ h
 | sl ts' => exact absurd rfl (hs ts')
theorem Ypv {φ : Phi} {hs : Heap} {d : Nat} {ts : List Ty} {xs : Dt} {i k n : Nat} {u : Nat -> Value} (hd : d < 1024) {j : Nat} (h1 : k <= j) (h2 : j < k + n) (hr : (∀ ts', tyAt ts j ≠ .sl ts') -> u j = (tyAt ts j).val (cel xs i j)) : (Yy3 d ts xs i j).conc (phiL φ hs d ts k n u) = u j := by
 unfold Yy3
 split
 ·rename_i ts' e;simp only [AV.conc, Y0u hd h1 h2 e]
 ·rename_i t hne;rw [Yey];exact (hr fun ts' e => hne ts' e).symm
theorem Ypu {d : Nat} {ts : List Ty} {xs : Dt} {i : Nat} : ∀ (n k j : Nat), (Yk3 d ts xs i k n)[j]? = if j < n then some (Yy3 d ts xs i (k + j)) else none
 | 0, k, j => by simp [Yk3]
 | n + 1, k, 0 => by simp [Yk3]
 | n + 1, k, j + 1 => by simp [Yk3, Ypu n (k + 1) j, show k + 1 + j = k + (j + 1) by omega]
theorem Ypy {φ : Phi} {w0 w : World} {M : List Nat} {R : RL} {hs : Heap} {d : Nat} {ts : List Ty} {xs : Dt} {i k n : Nat} {u : Nat -> Value} (hd : d < 1024) (hnew : NewFor (keys (Yga d ts xs i k n)) tm hs) (hS : St w0 M (Yb φ hs ++ R) w)
  (hu : ∀ j, k <= j -> j < k + n -> @RdV (atF w (SetF φ hs [])) (tyAt ts j) (u j) (cel xs i j)) : St w0 M (Yb (phiL φ hs d ts k n u) (hs ++ Yga d ts xs i k n) ++ R) w := by
 have eh : Yb (phiL φ hs d ts k n u) hs = Yb φ hs := Ybm (Ykb xs i) fun i hi => (hnew i hi).2;rw [Yn, eh];have := hS.dups (D := Yb (phiL φ hs d ts k n u) (Yga d ts xs i k n)) fun r hr => by
  obtain ⟨p, hp, rfl⟩ := List.mem_map.1 hr;obtain ⟨j, ts', h1, h2, h3, rfl⟩ := Yke.1 hp;have e : (It.fro ts' (cel xs i j).lst).conc (phiL φ hs d ts k n u) (Yca d j) = Res.fro (u j) ts' (cel xs i j).lst (SetF φ hs []) := by simp only [It.conc, Y0u hd h1 h2 h3]
  rw [show ((Yca d j, It.fro ts' (cel xs i j).lst).2.conc (phiL φ hs d ts k n u) (Yca d j, It.fro ts' (cel xs i j).lst).1) = _ from e];refine ⟨rfl, Yjm (fun b hb => SetF.lt hS Ydp hb) ?_, fun b hb => SetF.nil hb⟩;have := hu j h1 h2;rw [h3] at this;exact @RdV.lst (atF w (SetF φ hs [])) _ _ _ this
 exact this.perm (by rw [<- List.append_assoc]; exact List.perm_append_comm.append_right R)
theorem Ywo {T : TypeId} {x : Operand} {pv : AV} {hs : Heap} {ts : List Ty} {xs : Dt} {i j d : Nat} (hd : d < 1024) (ha : Yfp P T false) (hx : At tm x pv) (hxj : pv.rd = true) (hj : j < ts.length)
  (hat : ∀ (φ : Phi) (w0 : World) (M : List Nat) (R : RL) (w : World), St w0 M (Yb φ hs ++ R) w -> ∃ b off, pv.conc φ = .pointer (some ⟨b, off + j, none⟩) /\ Yoe φ hs w ts xs i b off) :
  Does P { dst, op := .load T x, type, pos, after, guard } tm hs (Yy3 d ts xs i j) [] (Yga d ts xs i j 1) :=
 fun φ w0 M R a w K Q ho hn hS kk => by
  obtain ⟨b, off, h1, u, h2⟩ := hat φ w0 M R w hS;have h3 := Yr (ho.ev (x := x) (by simp [Op.operands]) hx hxj);rw [h1] at h3;unfold Oper.wp execOp;simp only [h3, Sem.run_bind, Ycx ha (h2 j hj).1, Result.andThen_ok, Sem.run_pure, Oper.upon];have h4 := kk (phiL φ hs d ts j 1 u) w (Ykb xs i) (by
   simp only [Yh];exact Ypy hd hn hS fun k hk hk2 => by
    have e : k = j := by omega
    rw [e]; exact (h2 j hj).2)
  rwa [Ypv hd (Nat.le_refl _) (by omega) (Y0f _ (h2 j hj).2)] at h4
theorem Ywn {T : TypeId} {x : Operand} {pv : AV} {hs : Heap} {ts : List Ty} {xs : Dt} {i j n d : Nat} (hd : d < 1024) (ha : Yfp P T true) (hs' : Ycd P T n) (hx : At tm x pv) (hxj : pv.rd = true) (hj : j + n <= ts.length)
  (hat : ∀ (φ : Phi) (w0 : World) (M : List Nat) (R : RL) (w : World), St w0 M (Yb φ hs ++ R) w -> ∃ b off, pv.conc φ = .pointer (some ⟨b, off + j, none⟩) /\ Yoe φ hs w ts xs i b off) :
  Does P { dst, op := .load T x, type, pos, after, guard } tm hs (.agg (Yk3 d ts xs i j n)) [] (Yga d ts xs i j n) :=
 fun φ w0 M R a w K Q ho hn hS kk => by
  obtain ⟨b, off, h1, u, h2⟩ := hat φ w0 M R w hS;have h3 := Yr (ho.ev (x := x) (by simp [Op.operands]) hx hxj);rw [h1] at h3;have hc : AV.concL (phiL φ hs d ts j n u) (Yk3 d ts xs i j n) = (List.range n).map fun k => u (j + k) := by
   refine List.ext_getElem? fun k => ?_;rw [Yck, Ypu, List.getElem?_map]
   split
   ·rename_i hk;simp only [Option.map_some, Ypv hd (show j <= j + k by omega) (show j + k < j + n by omega) (Y0f _ (h2 (j + k) (by omega)).2)];rw [List.getElem?_range hk];rfl
   ·rename_i hk;rw [List.getElem?_eq_none (by simpa using hk)]; rfl
  have hcs : Yog w b (off + j) ((List.range n).map fun k => u (j + k)) := fun k v hk => by
   rw [List.getElem?_map] at hk;rcases Nat.lt_or_ge k n with h | h
   ·rw [List.getElem?_range h] at hk;simp only [Option.map_some, Option.some.injEq] at hk;subst hk;rw [Nat.add_assoc];exact (h2 (j + k) (by omega)).1
   ·rw [List.getElem?_eq_none (by simpa using h)] at hk; cases hk
  unfold Oper.wp execOp;simp only [h3, Sem.run_bind, Yds ha hs' (by simp) hcs, Result.andThen_ok, Sem.run_pure, Oper.upon];have h4 := kk (phiL φ hs d ts j n u) w (Ykb xs i) (by
   simp only [Yh];exact Ypy hd hn hS fun k hk hk2 => (h2 k (by omega)).2)
  simp only [AV.conc, hc] at h4;exact h4
end
end Go.Proofs.YtladoaeefkpdiaaGreatDoor
namespace Go.Proofs.YtladoaeefkpdiaaGreatDoor
open Go.RowKit
variable [InW]
attribute [local irreducible] Go.Oper.wp
section
variable {P : Program} {tm : List AV} {dst : Option Tmp} {type : TypeId} {pos : String} {after : Array Edge} {guard : Option (Nat × Bool)}
theorem Yyc {w0 w : World} {M : List Nat} {R : RL} {K : Act -> World -> Prop} {Q : Exit -> Act -> World -> Prop} {a : Act} {T e : TypeId} {by_ sz m c n : Nat} {zs : Array Value} {s x : Operand} {v : Value} {A : Option Addr} {vs news : List Value} (h : St w0 M (.row v e sz n vs :: R) w) (ht : SliceOf P T e sz by_ zs) (hz : zs.size = sz) (hsz : 0 < sz)
  (hs : a.eval s = v) (hx : a.eval x = .slice A m c) (hl : news.length = m * sz) (hsrc : m = 0 \/ ∃ b off, A = some ⟨b, off, none⟩ /\ ∀ j u, news[j]? = some u -> w.cell? ⟨b, off + j, none⟩ = some u) (h1 : ∀ u ∈ news, u.oneCell' = true) (h63 : n + m <= maxLen) (hb : (n + m) * by_ <= 140737488355328)
  (kk : ∀ v' w', St w0 M (.row v' e sz (n + m) (vs ++ news) :: R) w' -> K (a.put dst v') w') :
  Oper.wp P { dst, op := .call { callee := .builtin .append, args := #[s, x], argTypes := #[T, T] }, type, pos, after, guard } a w K Q := by
 rcases Nat.eq_zero_or_pos m with h0 | h0
 ·subst h0;have hn : news = [] := List.length_eq_zero_iff.1 (by rw [hl, Nat.zero_mul]);subst hn;have hrow := h.row .head;obtain ⟨A', c', hv, hc'⟩ : ∃ A' c', v = .slice A' n c' /\ n <= c' := by
   rcases hrow.2 with ⟨rfl, rfl⟩ | ⟨g, cap, cur, rfl, _, _, hnc, _⟩
   ·exact ⟨none, 0, rfl, Nat.le_refl _⟩
   ·exact ⟨_, _, rfl, hnc⟩
  obtain ⟨i, z, hi, hz1, hz2, his, hib⟩ := ht.parts;have hsrc : Src P i.size T (.slice A 0 c) 0 [] w := by
   cases A with
   | none => exact Src.ofNil w ht.1 c
   | some b => exact Src.ofSlice w ht.1 b 0 c [] (by simp) (by simp) (by simp)
  have hr := run_append_nothing w T T type e i ht.1 hi A' n c' hc' _ hsrc;have h4 := kk v w (by simpa using h);unfold Oper.wp execOp;simp only [resolve, invoke, builtin, Sem.run_bind, Sem.run_pure, Result.andThen_ok, List.map_toArray, List.map_cons, List.map_nil, hs, hx];rw [hv] at h4 ⊢;rw [hr];exact h4
 ·obtain ⟨b, off, rfl, hcell⟩ := hsrc.resolve_left (by omega);exact Ygh (news := news) h ht hz hsz (by rw [Yb7, hs]) (by rw [Yb7, hx]) .head hl (fun j u hj => by rw [Yp]; exact hcell j u hj) h1 h63 hb fun v' w' _ hS' => kk v' w' hS'
def SrcN (xv : AV) (hs us : Heap) (ts : List Ty) (ys : Dt) : Prop :=
 ∀ (φ : Phi) (w0 : World) (M : List Nat) (R : RL) (w : World), St w0 M (Yb φ hs ++ R) w -> ∃ A c vs, xv.conc φ = .slice A ys.length c /\ vs.length = ys.length * ts.length /\ (ys.length = 0 \/ ∃ b off, A = some ⟨b, off, none⟩ /\ ∀ j u, vs[j]? = some u -> w.cell? ⟨b, off + j, none⟩ = some u) /\ (∀ u ∈ vs, u.oneCell' = true) /\ RowsRd w (SetF φ hs (keys us)) ts vs ys
def DstN (sv : AV) (ds : Heap) (e : Nat) (ts : List Ty) (xs : Dt) : Prop :=
 ∀ (φ : Phi) (w0 : World) (M : List Nat) (R : RL) (w : World), St w0 M (Yb φ ds ++ R) w -> ∃ vs, w.ownsRow 0 e ts.length (sv.conc φ) xs.length vs /\ (∀ b ∈ (sv.conc φ).ownBlock.toList, ∃ p ∈ ds, b ∈ (p.2.conc φ p.1).foot) /\ RowsRd w (SetF φ ds []) ts vs xs
def Yel (ds : Heap) : Heap := ds.map fun p => (p.1, .dead)
theorem Y0s {W : InW} {t : Ty} {v : Value} {c : Cl} (h : @RdV W t v c) : v.oneCell' = true := by cases h <;> rfl
theorem Yp2 (ds : Heap) : keys (Yel ds) = keys ds := by simp [keys, Yel]
theorem Ytz {φ φ' : Phi} {ks : List Nat} (hag : Agree ks φ φ') {hs : Heap} {us : List Nat} (h : ∀ i ∈ ks, hasH i hs = false) : Yb φ' (hs.map (Yji us)) = Yb φ (hs.map (Yji us)) := by
 unfold Yb;rw [List.map_map, List.map_map];refine List.map_congr_left fun p hp => ?_;simp only [Function.comp];unfold Yji
 split
 ·rfl
 ·exact Yhq hag (fun hm => (Yx (h _ hm) hp).1 rfl) _ fun i hi => (Yx (h i hi) hp).2
theorem Yhe {T e : TypeId} {by_ id' : Nat} {zs : List AV} {s x : Operand} {sv xv : AV} {ds hs us : Heap} {ts : List Ty} {xs ys : Dt} (ht : (mkTI P T).slice = some (e, ts.length, by_, zs)) (hz : zs.length = ts.length) (hsz : 0 < ts.length) (hsv : At tm s sv) (hsj : sv.rd = true) (hx : At tm x xv) (hxj : xv.rd = true)
  (hdst : DstN sv ds e ts xs) (hsrc : SrcN xv hs us ts ys) (hnd : (keys (ds ++ hs)).Nodup) (hus : ∀ p ∈ us, p.2 = .dead) (hkey : ∀ i ∈ keys us, i ∈ keys hs)
  (h63 : xs.length + ys.length <= maxLen) (hb : (xs.length + ys.length) * by_ <= 140737488355328) :
  Does P { dst, op := .call { callee := .builtin .append, args := #[s, x], argTypes := #[T, T] }, type, pos, after, guard } tm (ds ++ hs) (.rw id') (Yel ds ++ us) [(id', .nst e ts (xs ++ ys))] :=
 fun φ w0 M R a w K Q ho hn hS kk => by
  have e1 := ho s (by simp [Op.operands, Call.operands]) _ hsv hsj;have e2 := ho x (by simp [Op.operands, Call.operands]) _ hx hxj;have hSd : St w0 M (Yb φ ds ++ (Yb φ hs ++ R)) w := by rw [Yn, List.append_assoc] at hS; exact hS
  have hSs : St w0 M (Yb φ hs ++ (Yb φ ds ++ R)) w := hSd.perm (by rw [<- List.append_assoc, <- List.append_assoc]; exact List.perm_append_comm.append_right R);obtain ⟨vs, d1, d2, d3⟩ := hdst φ w0 M _ w hSd;obtain ⟨A, c, us', s1, s2, s3, s4, s5⟩ := hsrc φ w0 M _ w hSs;rw [s1] at e2;have hkd : ∀ p ∈ ds, ∀ q ∈ hs, p.1 ≠ q.1 := fun p hp q hq e => by
   rw [Ybo, List.nodup_append] at hnd;exact hnd.2.2 _ (List.mem_map_of_mem hp) _ (List.mem_map_of_mem hq) e
  have hmd : ∀ p ∈ ds, p ∈ ds ++ hs := fun p hp => List.mem_append_left _ hp;have hms : ∀ p ∈ hs, p ∈ ds ++ hs := fun p hp => List.mem_append_right _ hp;have hpm := Yrd (fun a b => apart.symm) (f := fun p : Nat × It => p.2.conc φ p.1) (List.pairwise_append.1 hS.sep).1
  let Fn : Nat -> Prop := fun b => SetF φ ds [] b \/ SetF φ hs (keys us) b
  have hFlt : ∀ b, Fn b -> b < w.heap.size := fun b hb => hb.elim (SetF.lt hSd Ydp) (SetF.lt hSs Ydp);have hdead : ∀ p ∈ Yel ds ++ us, p.2 = .dead := fun p hp => by
   rcases List.mem_append.1 hp with hp | hp
   ·obtain ⟨q, _, rfl⟩ := List.mem_map.1 hp; rfl
   ·exact hus p hp
  have hkm : ∀ p ∈ ds, p.1 ∈ keys (Yel ds ++ us) := fun p hp => by
   rw [Ybo, Yp2];exact List.mem_append_left _ (List.mem_map_of_mem hp)
  have hvl : vs.length = xs.length * ts.length := d1.1;have h2 := St.give (X := [.row (sv.conc φ) e ts.length xs.length vs, Res.rdl Fn ts (vs ++ us') (xs ++ ys)]) (us := Yel ds ++ us) (A := []) hS hnd hdead ?_ ?_ ?_ ?_
  ·refine Yyc h2 (Yi ht φ).1 (by simp [Yg, hz]) hsz e1 e2 s2 s3 s4 h63 hb fun v' w' hS' => ?_;have hJ := hS'.joinN (by simp);obtain ⟨hd, hfn, hv⟩ := Ymw (hS'.row .head);subst hv;have hag := Ym φ id' { hd with F := Fn };have hnx := (hn id' (by simp [keys])).2;have eh : Yb (fun i => if i = id' then { hd with F := Fn } else φ i) (Yh (ds ++ hs) (Yel ds ++ us)) = Yb φ (Yh (ds ++ hs) (Yel ds ++ us)) := by
    rw [Yfs hnd hdead];exact Ytz hag fun i hi => by rw [List.mem_singleton.1 hi]; exact hnx
   have := kk _ w' hag (by
    rw [Yn, eh];have e3 : Yb (fun i => if i = id' then { hd with F := Fn } else φ i) [(id', It.nst e ts (xs ++ ys))] = [Res.nst (.slice (if hd.nil then none else some ⟨hd.b, 0, none⟩) (xs.length + ys.length) hd.c) e ts (xs.length + ys.length) (xs ++ ys) Fn] := by simp [Yb, It.conc, hfn]
    rw [e3, List.append_assoc];exact hJ.perm (by simpa using List.perm_middle.symm))
   simpa [AV.conc, hfn] using this
  ·intro r hr;simp only [List.mem_cons, List.not_mem_nil, or_false] at hr;rcases hr with rfl | rfl
   ·exact d1
   ·exact Ys8 hFlt (Yyl hvl (d3.grow (fun b h1 h2 => ⟨h1, .inl h2⟩) fun _ _ _ => rfl) (s5.grow (fun b h1 h2 => ⟨h1, .inr h2⟩) fun _ _ _ => rfl))
  ·refine List.Pairwise.cons (fun r hr => ?_) (by simp);rw [List.mem_singleton] at hr;subst hr;refine ⟨fun b hb hb' => ?_, fun b hb => by simp [Res.rdl, Res.foot] at hb⟩;obtain ⟨p, hp, hpb⟩ := d2 b hb;have hpL := Ydp (φ := φ) (R := R) p (hmd p hp);rcases hb' with hb' | hb'
   ·simp [Res.rdl, Res.foot] at hb'
   ·have hb' : Fn b := hb';rcases hb' with hb' | hb'
    ·rcases SetF.nil hb' with h1 | ⟨q, hq, h1⟩
     ·exact hS.farF hpL hpb h1
     ·obtain ⟨q', hq', rfl⟩ := List.mem_map.1 hq;exact hS.farZ hpL (Ydp q' (hmd q' hq')) hpb h1
    ·rcases hb' with h1 | ⟨q, hq, h1⟩
     ·exact hS.farF hpL hpb h1
     ·rcases h1 with h1 | h1
      ·exact hS.farZ hpL (Ydp q (hms q hq)) hpb h1
      ·exact (hpm p (hmd p hp) q (hms q hq) fun e => hkd p hp q hq (by rw [e])).1 b hpb (.inl h1.2)
  ·intro r hr b hb;simp only [List.mem_cons, List.not_mem_nil, or_false] at hr;rcases hr with rfl | rfl
   ·obtain ⟨p, hp, hpb⟩ := d2 b hb;exact ⟨p, hmd p hp, hkm p hp, hpb⟩
   ·simp [Res.rdl, Res.foot] at hb
  ·intro r hr b hb;simp only [List.mem_cons, List.not_mem_nil, or_false] at hr;rcases hr with rfl | rfl
   ·exact False.elim hb
   ·have hb : Fn b := hb;rcases hb with hb | hb
    ·rcases hb with h1 | ⟨q, hq, h1⟩
     ·exact .inl h1
     ·exact .inr ⟨q, hmd q hq, .inl (h1.resolve_right fun h => by cases h.1)⟩
    ·rcases hb with h1 | ⟨q, hq, h1⟩
     ·exact .inl h1
     ·refine .inr ⟨q, hms q hq, h1.imp (fun h => h) fun h => ⟨?_, h.2⟩⟩;rw [Ybo];exact List.mem_append_right _ h.1
theorem Y50 {xv : AV} {hs : Heap} {ts : List Ty} {ys : Dt} (hts : 0 < ts.length) (h : ReadsIn hs (.sl ts) xv (.l ys)) : SrcN xv hs (Yeh hs) ts ys := fun φ w0 M R w hS => by
 have hr := h φ w0 M _ w hS Ydp;generalize xv.conc φ = v at hr;cases hr with
 | sl _ A c _ u hc hm ha hr =>
  simp only [Cl.lst] at hc hm ha hr ⊢;have hget : ∀ i k, i < ys.length -> k < ts.length -> ((List.range (ys.length * ts.length)).map fun j => u (j / ts.length) (j % ts.length))[i * ts.length + k]? = some (u i k) := fun i k hi hk => by
   have hlt : i * ts.length + k < ys.length * ts.length := by
    have := Nat.mul_le_mul_right ts.length (show i + 1 <= ys.length by omega);rw [Nat.add_mul] at this; omega
   rw [List.getElem?_map, List.getElem?_range hlt, Option.map_some];rw [Nat.mul_comm, Nat.mul_add_div hts, Nat.div_eq_of_lt hk, Nat.add_zero, Nat.mul_add_mod, Nat.mod_eq_of_lt hk]
  refine ⟨A, c, (List.range (ys.length * ts.length)).map fun j => u (j / ts.length) (j % ts.length), rfl, by simp, ?_, ?_, ?_⟩
  ·rcases Nat.eq_zero_or_pos ys.length with h0 | h0
   ·exact .inl h0
   ·obtain ⟨b, off, rfl, _, h3⟩ := ha (fun e => by rw [e] at h0; simp at h0);refine .inr ⟨b, off, rfl, fun j v hj => ?_⟩;rw [List.getElem?_map] at hj;rcases Nat.lt_or_ge j (ys.length * ts.length) with hlt | hge
    ·rw [List.getElem?_range hlt] at hj;simp only [Option.map_some, Option.some.injEq] at hj;subst hj;have h4 : j / ts.length < ys.length := Nat.div_lt_of_lt_mul (by rwa [Nat.mul_comm]);have h5 := h3 (j / ts.length) (j % ts.length) h4 (Nat.mod_lt _ hts);rwa [Nat.add_assoc, Nat.mul_comm (j / ts.length), Nat.div_add_mod] at h5
    ·rw [List.getElem?_eq_none (by simpa using hge)] at hj; cases hj
  ·intro v hv;obtain ⟨j, hj, rfl⟩ := List.mem_map.1 hv;rw [List.mem_range] at hj;have h4 : j / ts.length < ys.length := Nat.div_lt_of_lt_mul (by rwa [Nat.mul_comm]);exact Y0s (hr (j / ts.length) (j % ts.length) _ h4 (Ylf (Nat.mod_lt _ hts)))
  ·intro i k t hi ht;have hk : k < ts.length := by
    rcases Nat.lt_or_ge k ts.length with a | a
    ·exact a
    ·rw [List.getElem?_eq_none a] at ht; cases ht
   exact ⟨_, hget i k hi hk, (hr i k t hi ht).grow (fun b h1 h2 => ⟨h1, h2.set⟩) fun _ _ _ => rfl⟩
theorem Yw4 {w : World} {F : Nat -> Prop} {ts : List Ty} {vs : List Value} {xs : Dt} (hts : 0 < ts.length) (hl : vs.length = xs.length * ts.length) (h : RowsRd w F ts vs xs) : ∀ u ∈ vs, u.oneCell' = true := fun u hu => by
 obtain ⟨j, hj, rfl⟩ := List.getElem_of_mem hu;rw [hl] at hj;have h4 : j / ts.length < xs.length := Nat.div_lt_of_lt_mul (by rwa [Nat.mul_comm]);obtain ⟨v, h5, h6⟩ := h (j / ts.length) (j % ts.length) _ h4 (Ylf (Nat.mod_lt _ hts));rw [Nat.mul_comm, Nat.div_add_mod, List.getElem?_eq_getElem (by rw [hl]; exact hj)] at h5;cases h5;exact Y0s h6
theorem Y3j {ts : List Ty} {T id : Nat} {xs : Dt} (hts : 0 < ts.length) : SrcN (.rw id) [(id, .nst T ts xs)] [] ts xs := fun φ w0 M R w hS => by
 have hS' : St w0 M ((It.nst T ts xs).conc φ id :: R) w := hS;obtain ⟨e, vs, hrow, hr⟩ := Ydz hS';have hl : vs.length = xs.length * ts.length := by rw [<- e]; exact hrow.1
 refine ⟨_, _, vs, by simp only [AV.conc, e]; rfl, hl, ?_, Yw4 hts hl hr, hr.grow (fun b h1 h2 => ⟨h1, .inr ⟨_, List.mem_cons_self, .inl h2⟩⟩) fun _ _ _ => rfl⟩;rcases Nat.eq_zero_or_pos xs.length with h0 | h0
 ·exact .inl h0
 ·refine .inr ⟨(φ id).b, 0, by rw [Yd8 h0 hS']; rfl, fun j u hu => ?_⟩;rw [Nat.zero_add];exact Yew hrow hu
theorem Yz8 {ts : List Ty} {T id l n : Nat} {xs : Dt} (hts : 0 < ts.length) (hl : l + n <= xs.length) : SrcN (.rwp id ts.length l n) [(id, .nst T ts xs)] [] ts ((xs.drop l).take n) := fun φ w0 M R w hS => by
 have hS' : St w0 M ((It.nst T ts xs).conc φ id :: R) w := hS;obtain ⟨e, vs, hrow, hr⟩ := Ydz hS';have hvl : vs.length = xs.length * ts.length := by rw [<- e]; exact hrow.1
 have hlen : ((xs.drop l).take n).length = n := by rw [List.length_take, List.length_drop]; omega
 rcases Nat.eq_zero_or_pos n with h0 | h0
 ·subst h0;refine ⟨_, _, [], by rw [hlen]; rfl, by simp, .inl hlen, by simp, fun i k t hi => by rw [hlen] at hi; omega⟩
 ·have hp := Ymv hr hl;have hle : n * ts.length <= (vs.drop (l * ts.length)).length := by
   rw [List.length_drop, hvl, <- Nat.sub_mul]; exact Nat.mul_le_mul_right _ (by omega)
  have hp2 : RowsRd w (φ id).F ts ((vs.drop (l * ts.length)).take (n * ts.length)) ((xs.drop l).take n) := fun i k t hi ht => by
   obtain ⟨u, h1, h2⟩ := hp i k t hi ht;rw [hlen] at hi;have hk : k < ts.length := by
    rcases Nat.lt_or_ge k ts.length with a | a
    ·exact a
    ·rw [List.getElem?_eq_none a] at ht; cases ht
   have hlt : i * ts.length + k < n * ts.length := by
    have := Nat.mul_le_mul_right ts.length (show i + 1 <= n by omega);rw [Nat.add_mul] at this; omega
   exact ⟨u, by rw [List.getElem?_take, if_pos hlt, h1], h2⟩
  have hl2 : ((vs.drop (l * ts.length)).take (n * ts.length)).length = ((xs.drop l).take n).length * ts.length := by rw [List.length_take, hlen]; omega
  refine ⟨_, _, (vs.drop (l * ts.length)).take (n * ts.length), by rw [Ym7 hS' hl h0, hlen], hl2, .inr ⟨_, _, rfl, fun j u hu => ?_⟩, Yw4 hts hl2 hp2, hp2.grow (fun b h1 h2 => ⟨h1, .inr ⟨_, List.mem_cons_self, .inl h2⟩⟩) fun _ _ _ => rfl⟩;rw [List.getElem?_take] at hu
  split at hu
  ·rw [List.getElem?_drop] at hu; exact Yew hrow hu
  ·cases hu
theorem Y4m {ts : List Ty} {T id : Nat} {xs : Dt} : DstN (.rw id) [(id, .nst T ts xs)] T ts xs := fun φ w0 M R w hS => by
 have hS' : St w0 M ((It.nst T ts xs).conc φ id :: R) w := hS;obtain ⟨e, vs, hrow, hr⟩ := Ydz hS';refine ⟨vs, by simp only [AV.conc]; rw [<- e]; exact hrow, fun b hb => ⟨_, List.mem_cons_self, hb⟩, hr.grow (fun b h1 h2 => ⟨h1, .inr ⟨_, List.mem_cons_self, .inl h2⟩⟩) fun _ _ _ => rfl⟩
theorem Y4n {ts : List Ty} {e : Nat} : DstN (.v (.slice none 0 0)) [] e ts [] := fun φ w0 M R w hS =>
 ⟨[], ⟨by simp, .inl ⟨rfl, rfl⟩⟩, fun b hb => by simp [AV.conc, Value.ownBlock] at hb, fun i k t hi => by simp at hi⟩
theorem Y4l {ts : List Ty} {T id : Nat} : DstN (.sl id 0 0 0) [(id, .row T ts.length 0 [])] T ts [] := fun φ w0 M R w hS => by
 have hS' : St w0 M ((It.row T ts.length 0 []).conc φ id :: R) w := hS;have hrow : w.ownsRow 0 T ts.length (.slice (if (φ id).nil then none else some ⟨(φ id).b, 0, none⟩) 0 (φ id).c) 0 [] := hS'.look Look.head;exact ⟨[], hrow, fun b hb => ⟨_, List.mem_cons_self, hb⟩, fun i k t hi => by simp at hi⟩
end
end Go.Proofs.YtladoaeefkpdiaaGreatDoor
