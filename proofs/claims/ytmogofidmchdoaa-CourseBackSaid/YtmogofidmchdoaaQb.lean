/-
  A machine over abstract states, proved sound: the help of the proof of a law.
-/
import Derived.Test.YtmogofidmchdoaaQa
import Derived.RangeFuncRecord
import Derived.OrdersIn
import Derived.LoopNIn
set_option linter.unusedVariables false
set_option linter.unusedSectionVars false
set_option linter.unusedSimpArgs false
namespace Go.Proofs.Ytmogofidmchdoaa
open Go.RowKit
variable [InW]
attribute [local irreducible] Go.Oper.wp
section
variable {P : Program} {tm : List AV} {dst : Option Tmp} {type : TypeId} {pos : String} {after : Array Edge} {guard : Option (Nat × Bool)}
noncomputable def Y0q : (t : Ty) -> (u : Value) -> (c : Cl) -> RdV t u c -> AV
 | .int k, _, c, _ => .si k c.int
 | .bool, _, c, _ => .sb c.bool
 | .str, _, c, _ => .ss c.str
 | .sl ts, u, c, h => .rs ts ⟨(u, c.lst), h.lst⟩
theorem Ysv (φ : Phi) (t : Ty) (u : Value) (c : Cl) (h : RdV t u c) : (Y0q t u c h).conc φ = u := by
 cases t with
 | int k => exact h.isInt.symm
 | bool => exact h.isBool.symm
 | str => exact h.isStr.symm
 | sl ts => rfl
noncomputable def Ymx {ts : List Ty} (r : Ro ts) (i k : Nat) : AV := Y0q (tyAt ts k) (r.val i k) (cel r.xs i k) (r.ok i k)
noncomputable def Yed {ts : List Ty} (r : Ro ts) (i : Nat) : Nat -> Nat -> List AV
 | _, 0 => []
 | k, n + 1 => Ymx r i k :: Yed r i (k + 1) n
theorem Ykl {ts : List Ty} (r : Ro ts) (i : Nat) : ∀ (n k j : Nat), (Yed r i k n)[j]? = if j < n then some (Ymx r i (k + j)) else none
 | 0, k, j => by simp [Yed]
 | n + 1, k, 0 => by simp [Yed]
 | n + 1, k, j + 1 => by simp [Yed, Ykl r i n (k + 1) j, show k + 1 + j = k + (j + 1) by omega]
theorem Ygm {ts : List Ty} (r : Ro ts) (i : Nat) : ∀ (n k : Nat), (Yed r i k n).length = n
 | 0, _ => rfl
 | n + 1, k => by simp [Yed, Ygm r i n]
def Yil (t : Ty) (c : Cl) : AV :=
 match t with
 | .int k => .si k c.int
 | .bool => .sb c.bool
 | .str => .ss c.str
 | .sl _ => .v (.slice none 0 0)
theorem Yfh (φ : Phi) (t : Ty) (c : Cl) : (Yil t c).conc φ = t.val c := by cases t <;> rfl
noncomputable def Ycy (ts : List Ty) (xs : Dt) (i : Nat) : Nat -> Nat -> List AV
 | _, 0 => []
 | k, n + 1 => Yil (tyAt ts k) (cel xs i k) :: Ycy ts xs i (k + 1) n
theorem Yi7 (ts : List Ty) (xs : Dt) (i : Nat) : ∀ (n k j : Nat), (Ycy ts xs i k n)[j]? = if j < n then some (Yil (tyAt ts (k + j)) (cel xs i (k + j))) else none
 | 0, k, j => by simp [Ycy]
 | n + 1, k, 0 => by simp [Ycy]
 | n + 1, k, j + 1 => by simp [Ycy, Yi7 ts xs i n (k + 1) j, show k + 1 + j = k + (j + 1) by omega]
theorem Yfg (ts : List Ty) (xs : Dt) (i : Nat) : ∀ (n k : Nat), (Ycy ts xs i k n).length = n
 | 0, _ => rfl
 | n + 1, k => by simp [Ycy, Yfg ts xs i n]
theorem Yw8 {w0 w : World} {M : List Nat} {L : RL} (h : St w0 M L w) {p : Addr} {v : Value} (hb : p.block < InW.B) (hv : InW.w.cell? p = some v) : w.cell? p = some v := (h.belowIn.cell hb).trans hv
theorem Yxt {T e sz by_ : Nat} {zs : List AV} {x ix : Operand} {ts : List Ty} {r : Ro ts} {iv : AV} {kd : IntKind} {i : Int} (ht : (mkTI P T).slice = some (e, sz, by_, zs)) (hsz : sz = ts.length) (hx : At tm x (.rs ts r)) (hi : At tm ix iv) (hij : iv.rd = true) (hiv : ∀ φ, iv.conc φ = .int kd i)
  (h0 : 0 <= i) (h1 : i < (r.xs.length : Int)) : Does P { dst, op := .indexAddr T x ix, type, pos, after, guard } tm [] (.rp ts r i.toNat 0) [] [] :=
 fun φ w0 M R a w K Q ho _ hS kk => by
  subst hsz;obtain ⟨A, c, hv, _, _, u, h2, _⟩ := r.inv;obtain ⟨b, off, rfl, hb, _⟩ := h2 (fun e => by rw [e] at h1; simp at h1; omega);have e1 := ho.ev (x := x) (by simp [Op.operands]) hx (by simp);have e2 := ho.ev (x := ix) (by simp [Op.operands]) hi hij;simp only [AV.conc, hv] at e1;rw [hiv φ] at e2;refine Ykw (Yo ht φ).1 e1 e2 h0 h1 rfl ?_;have := kk φ w (Agree.refl _ _) hS;simpa [AV.conc, hv, Ycl] using this
theorem Yxv {T : TypeId} {x : Operand} {j off i k : Nat} {ts : List Ty} {r : Ro ts} (hf : Yfx P T j off) (hx : At tm x (.rp ts r i k)) : Does P { dst, op := .fieldAddr T x j, type, pos, after, guard } tm [] (.rp ts r i (k + off)) [] [] :=
 fun φ w0 M R a w K Q ho _ hS kk => by
  have e1 := ho.ev (x := x) (by simp [Op.operands]) hx (by simp);simp only [AV.conc] at e1;rw [Yg7] at e1;refine Yoe hf e1 rfl ?_;have := kk φ w (Agree.refl _ _) hS;simp only [AV.conc] at this;rw [<- Nat.add_assoc, Ygi] at this;exact this
theorem Y17 {w0 w : World} {M : List Nat} {L : RL} (h : St w0 M L w) {ts : List Ty} (r : Ro ts) {i k : Nat} (hi : i < r.xs.length) (hk : k < ts.length) (φ : Phi) : w.cell? (Ycl r.v (i * ts.length + k)) = some ((Ymx r i k).conc φ) := by
 have := r.cell hi hk;unfold Ymx;rw [Ysv];exact Yw8 h this.2 this.1
theorem Yxr {T : TypeId} {x : Operand} {i k : Nat} {ts : List Ty} {r : Ro ts} (ha : Ygk P T false) (hx : At tm x (.rp ts r i k)) (hi : i < r.xs.length) (hk : k < ts.length) : Does P { dst, op := .load T x, type, pos, after, guard } tm [] (Ymx r i k) [] [] :=
 fun φ w0 M R a w K Q ho _ hS kk => by
  have h2 := Ym (ho.ev (x := x) (by simp [Op.operands]) hx (by simp));simp only [AV.conc] at h2;unfold Oper.wp execOp;simp only [h2, Sem.run_bind, Yc2 ha (Y17 hS r hi hk φ), Result.andThen_ok, Sem.run_pure, Oper.upon];exact kk φ w (Agree.refl _ _) hS
theorem Yxq {T : TypeId} {x : Operand} {i k n : Nat} {ts : List Ty} {r : Ro ts} (ha : Ygk P T true) (hs : Yb4 P T n) (hx : At tm x (.rp ts r i k)) (hi : i < r.xs.length) (hk : k + n <= ts.length) : Does P { dst, op := .load T x, type, pos, after, guard } tm [] (.agg (Yed r i k n)) [] [] :=
 fun φ w0 M R a w K Q ho _ hS kk => by
  have h2 := Ym (ho.ev (x := x) (by simp [Op.operands]) hx (by simp));simp only [AV.conc] at h2;rw [Yg7] at h2;have hcs : Yow w (Ycl r.v (i * ts.length + k)).block (Ycl r.v (i * ts.length + k)).off (AV.concL φ (Yed r i k n)) := fun j u hj => by
   rw [Yb6, Ykl] at hj
   split at hj
   ·rename_i hjn;simp only [Option.map_some, Option.some.injEq] at hj;subst hj;have := Y17 hS r hi (k := k + j) (by omega) φ;rw [<- Nat.add_assoc, Ygi] at this;exact this
   ·cases hj
  unfold Oper.wp execOp;simp only [h2, Sem.run_bind, Yea ha hs (by rw [Yf, Ygm]) hcs, Result.andThen_ok, Sem.run_pure, Oper.upon];exact kk φ w (Agree.refl _ _) hS
theorem Yg4 {T e sz by_ : Nat} {zs : List AV} {x : Operand} {xv : AV} {n : Nat} {hs : Heap} (ht : (mkTI P T).slice = some (e, sz, by_, zs)) (hx : At tm x xv) (hj : xv.rd = true)
  (hv : ∀ (φ : Phi) (w0 : World) (M : List Nat) (R : RL) (w : World), St w0 M (Yb φ hs ++ R) w -> ∃ A c, xv.conc φ = .slice A n c) : Does P { dst, op := .call { callee := .builtin .len, args := #[x], argTypes := #[T] }, type, pos, after, guard } tm hs (.si .i64 (n : Int)) [] [] :=
 fun φ w0 M R a w K Q ho _ hS kk => by
  obtain ⟨A, c, h1⟩ := hv φ w0 M R w hS;have e1 := ho.ev (x := x) (by simp [Op.operands, Call.operands]) hx hj;rw [h1] at e1;exact Y2d (Yo ht φ).1 e1 (kk φ w (Agree.refl _ _) (by simpa [Yh] using hS))
def BoundS (tm : List AV) (x : Option Operand) (dflt k : Nat) : Prop := match x with | none => k = dflt | some x => ∃ kd v, At tm x v /\ v.rd = true /\ ∀ φ, v.conc φ = .int kd (k : Int)
theorem BoundS.is {φ : Phi} {a : Act} {x : Option Operand} {dflt k : Nat} (h : BoundS tm x dflt k) (ho : ∀ y, x = some y -> ∀ v, At tm y v -> v.rd = true -> a.eval y = v.conc φ) : Yei (x.map a.eval) dflt k := by
 cases x with
 | none => exact h
 | some y =>
  obtain ⟨kd, v, hy, hj, hv⟩ := h;simp only [Option.map_some, ho y rfl _ hy hj, hv φ, Yei]
theorem Yxp {T e sz by_ l h : Nat} {zs : List AV} {x : Operand} {hi lop : Option Operand} {ts : List Ty} {r : Ro ts} (ht : (mkTI P T).slice = some (e, sz, by_, zs)) (hsz : sz = ts.length) (hx : At tm x (.rs ts r)) (hl : BoundS tm lop 0 l) (hh : BoundS tm hi r.xs.length h) (h1 : l <= h) (h2 : h <= r.xs.length) :
  Does P { dst, op := .slice T x lop hi none, type, pos, after, guard } tm [] (.rs ts (r.cut l h)) [] [] :=
 fun φ w0 M R a w K Q ho _ hS kk => by
  subst hsz;obtain ⟨A, c, hv, hc, _⟩ := r.inv;have e1 := ho x (by simp [Op.operands]) _ hx (by simp);simp only [AV.conc, hv] at e1;have hr := Yds (w := w) (Yo ht φ).1 A (n := r.xs.length) (c := c) (l := l) (h := h) (hl.is (φ := φ) (a := a) fun y hy => ho y (by simp [Op.operands, hy])) (hh.is (φ := φ) (a := a) fun y hy => ho y (by simp [Op.operands, hy])) h1 (by omega);rw [<- e1] at hr;unfold Oper.wp;rw [Ydi hr];have h3 := kk φ w (Agree.refl _ _) hS;simp only [AV.conc, r.cut_v l h h1 h2, hv, Ro.cutV] at h3;exact h3
theorem Yzs {T e sz by_ : Nat} {zs : List AV} {x : Operand} {hi mx : Operand} {ts : List Ty} {r : Ro ts} (ht : (mkTI P T).slice = some (e, sz, by_, zs)) (hx : At tm x (.rs ts r)) (hh : BoundS tm (some hi) 1 0) (hm : BoundS tm (some mx) 1 0) :
  Does P { dst, op := .slice T x none (some hi) (some mx), type, pos, after, guard } tm [] (.rs ts r.zero) [] [] :=
 fun φ w0 M R a w K Q ho _ hS kk => by
  obtain ⟨A, c, hv, hc, _⟩ := r.inv;have e1 := ho x (by simp [Op.operands]) _ hx (by simp);simp only [AV.conc, hv] at e1;obtain ⟨k1, v1, a1, b1, c1⟩ := hh;obtain ⟨k2, v2, a2, b2, c2⟩ := hm;have e2 := ho hi (by simp [Op.operands]) _ a1 b1;have e3 := ho mx (by simp [Op.operands]) _ a2 b2;rw [c1 φ] at e2;rw [c2 φ] at e3;have hr := Yps (w := w) (Yo ht φ).1 A (n := r.xs.length) (c := c) (h := 0) (m := 0) e2 e3 (Nat.le_refl _) (Nat.zero_le _);rw [<- e1] at hr;unfold Oper.wp;rw [Ydi (lo := none) (hi := some hi) (mx := some mx) hr];have h3 := kk φ w (Agree.refl _ _) hS;simp only [AV.conc, r.zero_v, hv, zeroV] at h3;simp only [Oper.upon, if_true];exact h3
theorem Yiz {w0 w : World} {M : List Nat} {R : RL} {φ : Phi} {id T : Nat} {ts : List Ty} {xs : Dt} (hts : 0 < ts.length) (h : St w0 M ((It.arr T ts xs).conc φ id :: R) w) : (φ id).fn = xs.length /\ w.ownsRow 0 T ts.length (.slice (if (φ id).nil then none else some ⟨(φ id).b, 0, none⟩) (φ id).fn (φ id).c) (φ id).fn (Yq ts xs) := by
 have hh : w.ownsRow 0 T ts.length (.slice (if (φ id).nil then none else some ⟨(φ id).b, 0, none⟩) (φ id).fn (φ id).c) (φ id).fn (Yq ts xs) := h.look Look.head;refine ⟨?_, hh⟩;have := hh.1;rw [Y2] at this;exact (Nat.eq_of_mul_eq_mul_right hts this).symm
theorem Yer {w0 w : World} {M : List Nat} {R : RL} {φ : Phi} {id T : Nat} {ts : List Ty} {xs : Dt} (hts : 0 < ts.length) (hn : 0 < xs.length) (h : St w0 M ((It.arr T ts xs).conc φ id :: R) w) : (φ id).nil = false := by
 obtain ⟨e, hh⟩ := Yiz hts h;cases hnil : (φ id).nil with
 | false => rfl
 | true =>
  rw [hnil] at hh;rcases hh.2 with ⟨_, h0⟩ | ⟨g, cap, cur, hg, _⟩
  ·omega
  ·simp at hg
theorem You {w0 w : World} {M : List Nat} {R : RL} {φ : Phi} {id T : Nat} {ts : List Ty} {xs : Dt} (hts : 0 < ts.length) (h : St w0 M ((It.arr T ts xs).conc φ id :: R) w) : xs.length <= (φ id).c /\ xs.length <= maxLen := by
 obtain ⟨e, hh⟩ := Yiz hts h;rcases hh.2 with ⟨_, h0⟩ | ⟨g, cap, cur, hg, _, _, hnc, hm, _⟩
 ·omega
 ·simp only [Value.slice.injEq] at hg; omega
def OwnSl (T : Nat) (ts : List Ty) (xs : Dt) (id n : Nat) (x : AV) : Prop := (x = .rw id /\ n = xs.length) \/ (x = .sl id 0 0 n /\ n <= xs.length)
theorem OwnSl.rd {T : Nat} {ts : List Ty} {xs : Dt} {id n : Nat} {x : AV} (h : OwnSl T ts xs id n x) : x.rd = true := by rcases h with ⟨rfl, _⟩ | ⟨rfl, _⟩ <;> rfl
theorem OwnSl.conc {T : Nat} {ts : List Ty} {xs : Dt} {id n : Nat} {x : AV} (h : OwnSl T ts xs id n x) (hts : 0 < ts.length) {w0 w : World} {M : List Nat} {R : RL} {φ : Phi} (hS : St w0 M ((It.arr T ts xs).conc φ id :: R) w) :
  x.conc φ = .slice (if (φ id).nil then none else some ⟨(φ id).b, 0, none⟩) n (φ id).c /\ n <= xs.length := by
 rcases h with ⟨rfl, rfl⟩ | ⟨rfl, hn⟩
 ·exact ⟨by simp only [AV.conc, (Yiz hts hS).1], Nat.le_refl _⟩
 ·exact ⟨by simp [AV.conc], hn⟩
theorem Yqy {T e sz by_ T' : Nat} {zs : List AV} {x ix : Operand} {ts : List Ty} {xs : Dt} {id n : Nat} {xv iv : AV} {kd : IntKind} {i : Int} (ht : (mkTI P T).slice = some (e, sz, by_, zs)) (hsz : sz = ts.length) (hts : 0 < ts.length) (hx : At tm x xv) (ho2 : OwnSl T' ts xs id n xv) (hi : At tm ix iv) (hij : iv.rd = true) (hiv : ∀ φ, iv.conc φ = .int kd i)
  (h0 : 0 <= i) (h1 : i < (n : Int)) : Does P { dst, op := .indexAddr T x ix, type, pos, after, guard } tm [(id, .arr T' ts xs)] (.ep id ts.length i.toNat 0) [] [] :=
 fun φ w0 M R a w K Q ho _ hS kk => by
  subst hsz;obtain ⟨hc, hn⟩ := ho2.conc hts hS;have hnil := Yer hts (by omega) hS;have e1 := ho.ev (x := x) (by simp [Op.operands]) hx ho2.rd;have e2 := ho.ev (x := ix) (by simp [Op.operands]) hi hij;rw [hc, hnil] at e1;rw [hiv φ] at e2;simp only [Bool.false_eq_true, if_false] at e1;refine Ykw (Yo ht φ).1 e1 e2 h0 h1 rfl ?_;have := kk φ w (Agree.refl _ _) hS;simpa [AV.conc] using this
theorem Yn8 {T : Nat} {ts : List Ty} {xs : Dt} {id l n : Nat} (hts : 0 < ts.length) {w0 w : World} {M : List Nat} {R : RL} {φ : Phi} (hS : St w0 M ((It.arr T ts xs).conc φ id :: R) w) (hl : l + n <= xs.length) (hn : 0 < n) :
  (AV.rwp id ts.length l n).conc φ = .slice (some ⟨(φ id).b, l * ts.length, none⟩) n ((φ id).c - l) := by
 have hc := (You hts hS).1;have hnil := Yer hts (by omega) hS;simp only [AV.conc, hnil, Bool.false_eq_true, if_false];rw [if_neg (show ¬ (φ id).c = l by omega), Option.map_some, Yp, Nat.zero_add]
theorem Yu8 {T e sz by_ T' : Nat} {zs : List AV} {x ix : Operand} {ts : List Ty} {xs : Dt} {id l n : Nat} {iv : AV} {kd : IntKind} {i : Int} (ht : (mkTI P T).slice = some (e, sz, by_, zs)) (hsz : sz = ts.length) (hts : 0 < ts.length) (hx : At tm x (.rwp id ts.length l n)) (hl : l + n <= xs.length) (hi : At tm ix iv) (hij : iv.rd = true) (hiv : ∀ φ, iv.conc φ = .int kd i)
  (h0 : 0 <= i) (h1 : i < (n : Int)) : Does P { dst, op := .indexAddr T x ix, type, pos, after, guard } tm [(id, .arr T' ts xs)] (.ep id ts.length (l + i.toNat) 0) [] [] :=
 fun φ w0 M R a w K Q ho _ hS kk => by
  subst hsz;have hc := Yn8 hts hS hl (show 0 < n by omega);have e1 := ho.ev (x := x) (by simp [Op.operands]) hx (by simp);have e2 := ho.ev (x := ix) (by simp [Op.operands]) hi hij;rw [hc] at e1;rw [hiv φ] at e2;refine Ykw (Yo ht φ).1 e1 e2 h0 h1 rfl ?_;have := kk φ w (Agree.refl _ _) hS;simpa [AV.conc, Nat.add_mul] using this
theorem Yxo {T e sz by_ l h T' : Nat} {zs : List AV} {x : Operand} {hi lop : Option Operand} {ts : List Ty} {xs : Dt} {id : Nat} (ht : (mkTI P T).slice = some (e, sz, by_, zs)) (hsz : sz = ts.length) (hts : 0 < ts.length) (hx : At tm x (.rw id)) (hl : BoundS tm lop 0 l) (hh : BoundS tm hi xs.length h) (h1 : l <= h) (h2 : h <= xs.length) :
  Does P { dst, op := .slice T x lop hi none, type, pos, after, guard } tm [(id, .arr T' ts xs)] (.rwp id ts.length l (h - l)) [] [] :=
 fun φ w0 M R a w K Q ho _ hS kk => by
  subst hsz;have hS' : St w0 M ((It.arr T' ts xs).conc φ id :: R) w := hS;have hc := (You hts hS').1;have hf := (Yiz hts hS').1;have e1 := ho x (by simp [Op.operands]) _ hx (by simp);simp only [AV.conc, hf] at e1;have hr := Yds (w := w) (Yo ht φ).1 (if (φ id).nil then none else some ⟨(φ id).b, 0, none⟩) (n := xs.length) (c := (φ id).c) (l := l) (h := h) (hl.is (φ := φ) (a := a) fun y hy => ho y (by simp [Op.operands, hy])) (hh.is (φ := φ) (a := a) fun y hy => ho y (by simp [Op.operands, hy])) h1 (by omega);rw [<- e1] at hr;unfold Oper.wp;rw [Ydi hr];exact kk φ w (Agree.refl _ _) hS
theorem Yqz {T : TypeId} {x : Operand} {j off id sz i k : Nat} (hf : Yfx P T j off) (hx : At tm x (.ep id sz i k)) : Does P { dst, op := .fieldAddr T x j, type, pos, after, guard } tm [] (.ep id sz i (k + off)) [] [] :=
 fun φ w0 M R a w K Q ho _ hS kk => Yoe hf (ho.ev (by simp [Op.operands]) hx (by simp)) (by rw [Nat.add_assoc]) (kk φ w (Agree.refl _ _) hS)
theorem Yjs {ts : List Ty} {xs : Dt} {T : Nat} {i k : Nat} (hi : i < xs.length) (hk : k < ts.length) (φ : Phi) : ((It.arr T ts xs).vals φ)[i * ts.length + k]? = some ((Yil (tyAt ts k) (cel xs i k)).conc φ) := by
 rw [Yfh];simp only [It.vals, Yh2 ts xs i k hi hk, List.getElem?_eq_getElem hk, Option.map_some, Ydp, List.getD_eq_getElem?_getD, Option.getD_some]
theorem Yqw {T : TypeId} {x : Operand} {id i k T' : Nat} {ts : List Ty} {xs : Dt} (ha : Ygk P T false) (hx : At tm x (.ep id ts.length i k)) (hi : i < xs.length) (hk : k < ts.length) : Does P { dst, op := .load T x, type, pos, after, guard } tm [(id, .arr T' ts xs)] (Yil (tyAt ts k) (cel xs i k)) [] [] :=
 fun φ w0 M R a w K Q ho _ hS kk => by
  have h2 := Ym (ho.ev (x := x) (by simp [Op.operands]) hx (by simp));simp only [AV.conc] at h2;unfold Oper.wp execOp;simp only [h2, Sem.run_bind, Yc2 ha (Ybf hS (Yjs (T := T') hi hk φ)), Result.andThen_ok, Sem.run_pure, Oper.upon];exact kk φ w (Agree.refl _ _) hS
theorem Yxs {T : TypeId} {x : Operand} {id i k n T' : Nat} {ts : List Ty} {xs : Dt} (ha : Ygk P T true) (hs : Yb4 P T n) (hx : At tm x (.ep id ts.length i k)) (hi : i < xs.length) (hk : k + n <= ts.length) : Does P { dst, op := .load T x, type, pos, after, guard } tm [(id, .arr T' ts xs)] (.agg (Ycy ts xs i k n)) [] [] :=
 fun φ w0 M R a w K Q ho _ hS kk => by
  have h2 := Ym (ho.ev (x := x) (by simp [Op.operands]) hx (by simp));simp only [AV.conc] at h2;have hcs : Yow w (φ id).b (i * ts.length + k) (AV.concL φ (Ycy ts xs i k n)) := fun j u hj => by
   rw [Yb6, Yi7] at hj
   split at hj
   ·rename_i hjn;simp only [Option.map_some, Option.some.injEq] at hj;subst hj;rw [Nat.add_assoc];exact Ybf hS (Yjs (T := T') hi (by omega) φ)
   ·cases hj
  unfold Oper.wp execOp;simp only [h2, Sem.run_bind, Yea ha hs (by rw [Yf, Yfg]) hcs, Result.andThen_ok, Sem.run_pure, Oper.upon];exact kk φ w (Agree.refl _ _) hS
end
end Go.Proofs.Ytmogofidmchdoaa
namespace Go.Proofs.Ytmogofidmchdoaa
open Go.RowKit
variable [InW]
attribute [local irreducible] Go.Oper.wp
section
variable {P : Program} {tm : List AV} {dst : Option Tmp} {type : TypeId} {pos : String} {after : Array Edge} {guard : Option (Nat × Bool)}
def clK (t : Ty) (x : AV) (K : Cl -> Prop) : Prop :=
 match t with
 | .int k => (match x with | .si k' n => Yc (decide (k' = k)) (K (.i n)) | .v (.int k' n) => Yc (decide (k' = k)) (K (.i n)) | _ => Stuck 310)
 | .bool => (match x with | .sb b => K (.b b) | .v (.bool b) => K (.b b) | _ => Stuck 311)
 | .str => (match x with | .ss s => K (.s s) | .v (.string s) => K (.s s) | _ => Stuck 312)
 | .sl _ => Stuck 313
theorem Yh8 {t : Ty} {x : AV} {K : Cl -> Prop} (h : clK t x K) : ∃ c, K c /\ (∀ φ, x.conc φ = t.val c) /\ (∀ i, x.has i = false) := by
 unfold clK at h
 split at h
 ·split at h
  ·obtain ⟨h1, h2⟩ := Ya h;obtain rfl := of_decide_eq_true h1;exact ⟨_, h2, fun φ => rfl, fun i => rfl⟩
  ·obtain ⟨h1, h2⟩ := Ya h;obtain rfl := of_decide_eq_true h1;exact ⟨_, h2, fun φ => rfl, fun i => rfl⟩
  ·exact h.elim
 ·split at h
  ·exact ⟨_, h, fun φ => rfl, fun i => rfl⟩
  ·exact ⟨_, h, fun φ => rfl, fun i => rfl⟩
  ·exact h.elim
 ·split at h
  ·exact ⟨_, h, fun φ => rfl, fun i => rfl⟩
  ·exact ⟨_, h, fun φ => rfl, fun i => rfl⟩
  ·exact h.elim
 ·exact h.elim
def clsK : List Ty -> List AV -> (List Cl -> Prop) -> Prop
 | [], [], K => K []
 | t :: ts, x :: xs, K => clK t x fun c => clsK ts xs fun cs => K (c :: cs)
 | _, _, _ => Stuck 314
theorem Yf2 : ∀ {ts : List Ty} {xs : List AV} {K : List Cl -> Prop}, clsK ts xs K -> ∃ cs, K cs /\ (∀ φ, AV.concL φ xs = Yw ts cs) /\ cs.length = ts.length /\ xs.length = ts.length /\ ∀ i, AV.hasL i xs = false
 | [], [], K, h => ⟨[], h, fun φ => rfl, rfl, rfl, fun i => rfl⟩
 | t :: ts, x :: xs, K, h => by
  obtain ⟨c, h1, h2, h3⟩ := Yh8 h;obtain ⟨cs, h4, h5, h6, h7, h8⟩ := Yf2 h1;exact ⟨c :: cs, h4, fun φ => by simp [AV.concL, Yw, h2 φ, h5 φ], by simp [h6], by simp [h7], fun i => by simp [AV.hasL, h3 i, h8 i]⟩
 | [], _ :: _, _, h => h.elim
 | _ :: _, [], _, h => h.elim
def Yrw (ts : List Ty) : Nat -> List AV -> (Dt -> Prop) -> Prop
 | 0, [], K => K []
 | 0, _ :: _, _ => Stuck 315
 | m + 1, cs, K => Yhb cs ts.length fun r => Yiw cs ts.length fun rest => clsK ts r fun l => Yrw ts m rest fun ys => K (l :: ys)
theorem Yde {ts : List Ty} : ∀ {m : Nat} {cs : List AV} {K : Dt -> Prop}, Yrw ts m cs K -> ∃ ys, K ys /\ ys.length = m /\ (∀ φ, AV.concL φ cs = Yq ts ys) /\ ∀ i, AV.hasL i cs = false
 | 0, [], K, h => ⟨[], h, rfl, fun φ => rfl, fun i => rfl⟩
 | 0, _ :: _, _, h => h.elim
 | m + 1, cs, K, h => by
  obtain ⟨h1, h2⟩ := Ybq h;obtain ⟨h3, h4⟩ := Ybw h2;obtain ⟨l, h5, h6, h7, h8, h9⟩ := Yf2 h4;obtain ⟨ys, k1, k2, k3, k4⟩ := Yde h5;refine ⟨l :: ys, k1, by simp [k2], fun φ => ?_, fun i => ?_⟩
  ·conv => lhs; rw [<- List.take_append_drop ts.length cs]
   rw [Ybv, h6 φ, k3 φ];rfl
  ·rw [<- List.take_append_drop ts.length cs, Yl, List.any_append, <- Yl, <- Yl, h9 i, k4 i];rfl
def Y0a : Ty -> Cl
 | .int _ => .i 0
 | .bool => .b false
 | .str => .s ByteArray.empty
 | .sl _ => .l []
def Yrb : List Ty -> List Cl
 | [] => []
 | t :: ts => Y0a t :: Yrb ts
def tyK (x : AV) (K : Ty -> Prop) : Prop :=
 match x with
 | .v (.int k n) => Yc (decide (n = 0)) (K (.int k))
 | .v (.bool b) => (match b with | false => K .bool | true => Stuck 316)
 | .v (.string s) => Yc (Nat.beq s.size 0) (K .str)
 | .v (.slice none 0 0) => K (.sl [])
 | _ => Stuck 317
def tysK : List AV -> (List Ty -> Prop) -> Prop
 | [], K => K []
 | x :: xs, K => tyK x fun t => tysK xs fun ts => K (t :: ts)
theorem Yyn {x : AV} {K : Ty -> Prop} (h : tyK x K) : ∃ t, K t /\ ∀ φ, x.conc φ = t.val (Y0a t) := by
 unfold tyK at h
 split at h
 ·obtain ⟨h1, h2⟩ := Ya h;obtain rfl := of_decide_eq_true h1;exact ⟨_, h2, fun φ => rfl⟩
 ·split at h
  ·exact ⟨_, h, fun φ => rfl⟩
  ·exact h.elim
 ·obtain ⟨h1, h2⟩ := Ya h;refine ⟨_, h2, fun φ => ?_⟩;rename_i s;have : s = ByteArray.empty := by
   obtain ⟨d⟩ := s;have hs : d.size = 0 := Yd.1 h1;exact congrArg ByteArray.mk (Array.eq_empty_of_size_eq_zero hs)
  rw [this]; rfl
 ·exact ⟨_, h, fun φ => rfl⟩
 ·exact h.elim
theorem Yha : ∀ {xs : List AV} {K : List Ty -> Prop}, tysK xs K -> ∃ ts, K ts /\ xs.length = ts.length /\ ∀ φ, AV.concL φ xs = Yw ts (Yrb ts)
 | [], K, h => ⟨[], h, rfl, fun φ => rfl⟩
 | x :: xs, K, h => by
  obtain ⟨t, h1, h2⟩ := Yyn h;obtain ⟨ts, h3, h4, h5⟩ := Yha h1;exact ⟨t :: ts, h3, by simp [h4], fun φ => by simp [AV.concL, Yw, Yrb, h2 φ, h5 φ]⟩
def Ybt : List Cl -> Nat -> List Cl -> List Cl
 | l, 0, cs => cs ++ l.drop cs.length
 | l, k + 1, cs => l.headD .z :: Ybt l.tail k cs
theorem Yjy : ∀ (ts : List Ty) (l : List Cl) (n : Nat), Yw (ts.drop n) (l.drop n) = (Yw ts l).drop n
 | ts, l, 0 => by simp
 | [], l, n + 1 => by simp [Yw]
 | t :: ts, l, n + 1 => by
  have := Yjy ts l.tail n;simp only [List.drop_succ_cons, Yw];rw [<- this];cases l <;> simp
theorem Ymk : ∀ (ts : List Ty) (cs l : List Cl), cs.length <= ts.length -> Yw ts (cs ++ l) = Yw (ts.take cs.length) cs ++ Yw (ts.drop cs.length) l
 | ts, [], l, _ => by simp [Yw]
 | [], c :: cs, l, h => by simp at h
 | t :: ts, c :: cs, l, h => by simp [Yw, Ymk ts cs l (by simpa using h)]
theorem Ymj : ∀ (ts : List Ty) (l : List Cl) (k : Nat) (cs : List Cl), k + cs.length <= ts.length -> Yw ts (Ybt l k cs) = (Yw ts l).take k ++ Yw ((ts.drop k).take cs.length) cs ++ (Yw ts l).drop (k + cs.length)
 | ts, l, 0, cs, h => by
  simp only [Ybt, List.take_zero, List.nil_append, List.drop_zero, Nat.zero_add];rw [Ymk ts cs _ (by omega), Yjy]
 | [], l, k + 1, cs, h => by simp at h
 | t :: ts, l, k + 1, cs, h => by
  have := Ymj ts l.tail k cs (by simp at h; omega);simp only [Ybt, Yw, List.headD_cons, List.tail_cons, this, List.take_succ_cons, List.drop_succ_cons, show k + 1 + cs.length = k + cs.length + 1 by omega, List.cons_append]
theorem Yng (ts : List Ty) : ∀ (xs : Dt) (i : Nat), i < xs.length -> ∃ A B, A.length = i * ts.length /\ Yq ts xs = A ++ (Yw ts (xs.getD i []) ++ B) /\ ∀ row, Yq ts (xs.set i row) = A ++ (Yw ts row ++ B)
 | [], i, h => by simp at h
 | l :: xs, 0, _ => ⟨[], Yq ts xs, by simp, by simp [Yq], fun row => by simp [Yq]⟩
 | l :: xs, i + 1, h => by
  obtain ⟨A, B, h1, h2, h3⟩ := Yng ts xs i (by simpa using h);refine ⟨Yw ts l ++ A, B, by simp [Ybn, h1, Nat.succ_mul]; omega, ?_, fun row => ?_⟩
  ·simp only [Yq, h2, List.getD_cons_succ, List.append_assoc]
  ·simp only [List.set_cons_succ, Yq, h3 row, List.append_assoc]
theorem Yzk (ts : List Ty) (xs : Dt) (i k : Nat) (vs : List Value) (row : List Cl) (hi : i < xs.length) (hk : k + vs.length <= ts.length) (hr : Yw ts row = (Yw ts (xs.getD i [])).take k ++ vs ++ (Yw ts (xs.getD i [])).drop (k + vs.length)) :
  Yq ts (xs.set i row) = (Yq ts xs).take (i * ts.length + k) ++ vs ++ (Yq ts xs).drop (i * ts.length + k + vs.length) := by
 obtain ⟨A, B, h1, h2, h3⟩ := Yng ts xs i hi;rw [h3, hr, h2];have hV := Ybn ts (xs.getD i []);generalize Yw ts (xs.getD i []) = V at hV;rw [List.take_append, List.drop_append, h1, show i * ts.length + k - i * ts.length = k by omega, List.take_of_length_le (l := A) (by omega), List.take_append, hV, show k - ts.length = 0 by omega, List.take_zero, List.append_nil,
  List.drop_eq_nil_of_le (show A.length <= i * ts.length + k + vs.length by omega), List.nil_append, show i * ts.length + k + vs.length - i * ts.length = k + vs.length by omega, List.drop_append, hV, show k + vs.length - ts.length = 0 by omega, List.drop_zero]
 simp [List.append_assoc]
theorem Yxn {T T' : TypeId} {x y : Operand} {id i k n : Nat} {ts : List Ty} {xs : Dt} {vs : List AV} {v : AV} {row : List Cl} (hs : Yb4 P T n) (hx : At tm x (.ep id ts.length i k)) (hy : At tm y v) (hj : v.rd = true) (hc : ∀ φ, (v.conc φ).cells = (AV.concL φ vs).toArray) (hn : vs.length = n) (h0 : 0 < n) (h1 : Yfk vs = true)
  (hi : i < xs.length) (hk : k + n <= ts.length) (hr : ∀ φ, Yw ts row = (Yw ts (xs.getD i [])).take k ++ AV.concL φ vs ++ (Yw ts (xs.getD i [])).drop (k + n)) :
  Does P { dst, op := .store T x y, type, pos, after, guard } tm [(id, .arr T' ts xs)] (.v undef) [(id, .arr T' ts (xs.set i row))] [] :=
 fun φ w0 M R a w K Q ho _ hS kk => by
  have h2 := Ym (ho.ev (x := x) (by simp [Op.operands]) hx (by simp));have h3 := Ym (ho.ev (x := y) (by simp [Op.operands]) hy hj);have hlen : i * ts.length + k + n <= (Yq ts xs).length := by
   rw [Y2];have : (i + 1) * ts.length <= xs.length * ts.length := Nat.mul_le_mul_right _ hi;rw [Nat.succ_mul] at this; omega
  refine Yf6 (v := v.conc φ) hS hs h2 h3 (by rw [hc φ]; simp [Yf, hn]) h0 (fun u hu => Ycd h1 φ u (by rw [hc φ] at hu; simpa using hu)) hlen fun w' hS' => ?_;have hl : (AV.concL φ vs).length = n := by rw [Yf, hn]
  have e := Yzk ts xs i k (AV.concL φ vs) row hi (by rw [hl]; exact hk) (by rw [hl]; exact hr φ);rw [hl] at e;rw [hc φ, show ((AV.concL φ vs).toArray.toList) = AV.concL φ vs from rfl, <- e] at hS';exact kk φ w' (Agree.refl _ _) (by simpa [Yh, upd, Nat.beq_refl, Yb, It.conc] using hS')
theorem Ytv (ts : List Ty) (xs : Dt) : ∀ u ∈ Yq ts xs, u.oneCell' = true := by
 have hv : ∀ (ts : List Ty) (l : List Cl), ∀ u ∈ Yw ts l, u.oneCell' = true := by
  intro ts
  induction ts with
  | nil => intro l u hu; simp [Yw] at hu
  | cons t ts ih =>
   intro l u hu;simp only [Yw, List.mem_cons] at hu;rcases hu with rfl | hu
   ·cases t <;> rfl
   ·exact ih _ u hu
 induction xs with
 | nil => intro u hu; simp [Yq] at hu
 | cons l xs ih =>
  intro u hu;simp only [Yq, List.mem_append] at hu;exact hu.elim (hv ts l u) (ih u)
def Yl2 (xv : AV) (hs : Heap) (ts : List Ty) (ys : Dt) : Prop :=
 ∀ (φ : Phi) (w0 : World) (M : List Nat) (R : RL) (w : World), St w0 M (Yb φ hs ++ R) w -> ∃ A c, xv.conc φ = .slice A ys.length c /\ (ys.length = 0 \/ ∃ b off, A = some ⟨b, off, none⟩ /\ ∀ j u, (Yq ts ys)[j]? = some u -> w.cell? ⟨b, off + j, none⟩ = some u)
theorem Yf7 {w0 w : World} {M : List Nat} {R : RL} {K : Act -> World -> Prop} {Q : Exit -> Act -> World -> Prop} {a : Act} {T e : TypeId} {by_ m c n : Nat} {zs : Array Value} {s x : Operand} {v : Value} {A : Option Addr} {ts : List Ty} {xs ys : Dt} (h : St w0 M (.row v e ts.length n (Yq ts xs) :: R) w) (ht : SliceOf P T e ts.length by_ zs) (hz : zs.size = ts.length) (hsz : 0 < ts.length)
  (hs : a.eval s = v) (hx : a.eval x = .slice A m c) (hm : m = ys.length) (hn : n = xs.length) (hsrc : ys.length = 0 \/ ∃ b off, A = some ⟨b, off, none⟩ /\ ∀ j u, (Yq ts ys)[j]? = some u -> w.cell? ⟨b, off + j, none⟩ = some u) (h63 : n + m <= maxLen) (hb : (n + m) * by_ <= 140737488355328)
  (kk : ∀ v' w', St w0 M (.row v' e ts.length (n + m) (Yq ts (xs ++ ys)) :: R) w' -> K (a.put dst v') w') :
  Oper.wp P { dst, op := .call { callee := .builtin .append, args := #[s, x], argTypes := #[T, T] }, type, pos, after, guard } a w K Q := by
 rcases Nat.eq_zero_or_pos ys.length with h0 | h0
 ·have hys : ys = [] := List.length_eq_zero_iff.1 h0;subst hys;simp only [List.length_nil] at hm;subst hm;have hrow := h.row .head;obtain ⟨A', c', hv, hc'⟩ : ∃ A' c', v = .slice A' n c' /\ n <= c' := by
   rcases hrow.2 with ⟨rfl, rfl⟩ | ⟨g, cap, cur, rfl, _, _, hnc, _⟩
   ·exact ⟨none, 0, rfl, Nat.le_refl _⟩
   ·exact ⟨_, _, rfl, hnc⟩
  obtain ⟨i, z, hi, hz1, hz2, his, hib⟩ := ht.parts;have hsrc : Src P i.size T (.slice A 0 c) 0 [] w := by
   cases A with
   | none => exact Src.ofNil w ht.1 c
   | some b => exact Src.ofSlice w ht.1 b 0 c [] (by simp) (by simp) (by simp)
  have hr := run_append_nothing w T T type e i ht.1 hi A' n c' hc' _ hsrc;have h4 := kk v w (by simpa using h);unfold Oper.wp execOp;simp only [resolve, invoke, builtin, Sem.run_bind, Sem.run_pure, Result.andThen_ok, List.map_toArray, List.map_cons, List.map_nil, hs, hx];rw [hv] at h4 ⊢;rw [hr];exact h4
 ·obtain ⟨b, off, rfl, hcell⟩ := hsrc.resolve_left (by omega);refine Yfc (news := Yq ts ys) h ht hz hsz (by rw [Ycf, hs]) (by rw [Ycf, hx]) .head (by rw [Y2, hm]) (fun j u hj => by rw [Yp]; exact hcell j u hj) (Ytv ts ys) h63 hb fun v' w' _ hS' => ?_;rw [<- Yce] at hS';exact kk v' w' hS'
theorem Ykj {w : World} {T sz n : Nat} {v : Value} {xs : List Value} (h : w.ownsRow 0 T sz v n xs) : ∃ hd : Hd, hd.fn = n /\ v = .slice (if hd.nil then none else some ⟨hd.b, 0, none⟩) n hd.c := by
 obtain ⟨hd, e⟩ := Ys6 h;exact ⟨{ hd with fn := n }, rfl, e⟩
theorem Yx0 {T e : TypeId} {by_ id' : Nat} {zs : List AV} {s x : Operand} {xv : AV} {hs : Heap} {ts : List Ty} {ys : Dt} (ht : (mkTI P T).slice = some (e, ts.length, by_, zs)) (hz : zs.length = ts.length) (hsz : 0 < ts.length) (hsv : At tm s (.v (.slice none 0 0))) (hx : At tm x xv) (hxj : xv.rd = true) (hsrc : Yl2 xv hs ts ys)
  (h63 : ys.length <= maxLen) (hb : ys.length * by_ <= 140737488355328) :
  Does P { dst, op := .call { callee := .builtin .append, args := #[s, x], argTypes := #[T, T] }, type, pos, after, guard } tm hs (.rw id') [] [(id', .arr e ts ys)] :=
 fun φ w0 M R a w K Q ho hn hS kk => by
  have e1 := ho s (by simp [Op.operands, Call.operands]) _ hsv (by simp);have e2 := ho x (by simp [Op.operands, Call.operands]) _ hx hxj;obtain ⟨A, c, h1, h2⟩ := hsrc φ w0 M R w hS;rw [h1] at e2;have hS2 := hS.add (Ext.refl _) (r := .row (.slice none 0 0) e ts.length 0 (Yq ts [])) ⟨by simp [Yq], .inl ⟨rfl, rfl⟩⟩ (by simp [Res.foot, Value.ownBlock]);refine Yf7 hS2 (Yo ht φ).1 (by simp [Yf, hz]) hsz e1 e2 rfl rfl h2 (by simpa using h63) (by simpa using hb) fun v' w' hS' => ?_;rw [Nat.zero_add, List.nil_append] at hS';obtain ⟨hd, hfn, rfl⟩ := Ykj (hS'.row .head);have hag := Yy φ id' hd;have eh : Yb (fun i => if i = id' then hd else φ i) hs = Yb φ hs := Ycb hag fun i hi => by rw [List.mem_singleton.1 hi]; exact (hn id' (by simp [keys])).2
  have := kk _ w' hag (by
   rw [Yk];simp only [Yh, eh];have e3 : Yb (fun i => if i = id' then hd else φ i) [(id', It.arr e ts ys)] = [.row (.slice (if hd.nil then none else some ⟨hd.b, 0, none⟩) ys.length hd.c) e ts.length ys.length (Yq ts ys)] := by simp [Yb, It.conc, hfn]
   rw [e3];refine hS'.perm ?_;rw [List.append_assoc, List.singleton_append];exact List.perm_middle.symm)
  simpa [AV.conc, hfn] using this
theorem Yxy {T e : TypeId} {by_ id' : Nat} {zs : List AV} {s x : Operand} {xv : AV} {hs : Heap} {ts ts' : List Ty} {q : Ro ts'} {ys : Dt} (ht : (mkTI P T).slice = some (e, ts.length, by_, zs)) (hz : zs.length = ts.length) (hsz : 0 < ts.length) (hsv : At tm s (.rs ts' q)) (hq : q.xs.length = 0) (hc : capV q.v = 0) (hx : At tm x xv) (hxj : xv.rd = true) (hsrc : Yl2 xv hs ts ys)
  (hpos : 0 < ys.length) (h63 : ys.length <= maxLen) (hb : ys.length * by_ <= 140737488355328) :
  Does P { dst, op := .call { callee := .builtin .append, args := #[s, x], argTypes := #[T, T] }, type, pos, after, guard } tm hs (.rw id') [] [(id', .arr e ts ys)] :=
 fun φ w0 M R a w K Q ho hn hS kk => by
  have e1 := ho s (by simp [Op.operands, Call.operands]) _ hsv (by simp);have e2 := ho x (by simp [Op.operands, Call.operands]) _ hx hxj;obtain ⟨A, c, h1, h2⟩ := hsrc φ w0 M R w hS;rw [h1] at e2;obtain ⟨B, d, h3, _⟩ := q.inv;rw [h3] at hc;have hd : d = 0 := hc;subst hd;simp only [AV.conc, h3, hq] at e1;have fin : ∀ v' w', St w0 M (.row v' e ts.length ys.length (Yq ts ys) :: (Yb φ hs ++ R)) w' -> K (a.put dst v') w' := fun v' w' hS' => by
   obtain ⟨hd, hfn, rfl⟩ := Ykj (hS'.row .head);have hag := Yy φ id' hd;have eh : Yb (fun i => if i = id' then hd else φ i) hs = Yb φ hs := Ycb hag fun i hi => by rw [List.mem_singleton.1 hi]; exact (hn id' (by simp [keys])).2
   have := kk _ w' hag (by
    rw [Yk];simp only [Yh, eh];have e3 : Yb (fun i => if i = id' then hd else φ i) [(id', It.arr e ts ys)] = [.row (.slice (if hd.nil then none else some ⟨hd.b, 0, none⟩) ys.length hd.c) e ts.length ys.length (Yq ts ys)] := by simp [Yb, It.conc, hfn]
    rw [e3];refine hS'.perm ?_;rw [List.append_assoc, List.singleton_append];exact List.perm_middle.symm)
   simpa [AV.conc, hfn] using this
  cases B with
  | none =>
   have hS2 := hS.add (Ext.refl _) (r := .row (.slice none 0 0) e ts.length 0 (Yq ts [])) ⟨by simp [Yq], .inl ⟨rfl, rfl⟩⟩ (by simp [Res.foot, Value.ownBlock]);refine Yf7 hS2 (Yo ht φ).1 (by simp [Yf, hz]) hsz e1 e2 rfl rfl h2 (by simpa using h63) (by simpa using hb) fun v' w' hS' => ?_;rw [Nat.zero_add, List.nil_append] at hS';exact fin v' w' hS'
  | some ad =>
   obtain ⟨b, off, rfl, hcell⟩ := h2.resolve_left (by omega);obtain ⟨i, z, hi, hz1, hz2, his, hib⟩ := (Yo ht φ).1.parts;obtain ⟨v', w', hr, ho', hgr⟩ := run_append_arg_grows (P := P) w T type e i z ts.length by_ (Yo ht φ).1.1 hi hz1 his hib (by rw [hz2]; simp [Yf, hz]) hsz ad 0 0 [] (by simp) (by simp)
    ⟨b, off, none⟩ ys.length c (Yq ts ys) (Y2 ts ys) (fun j u hj => by rw [Yp]; exact hcell j u hj) (by omega) (by omega) (by simpa using hb)
   rw [Nat.zero_add, List.nil_append] at ho';have hext : Ext w w' := ⟨hgr.os, hgr.tape, hgr.output, hgr.size, fun k hk => hgr.block k hk (by simp)⟩;have hS' := hS.add hext (r := .row v' e ts.length ys.length (Yq ts ys)) ⟨ho'.1, ho'.2.imp (fun h => h) fun ⟨g, cap, cur, a, _, c⟩ => ⟨g, cap, cur, a, Nat.zero_le _, c⟩⟩ (fun b hb' => by
    simp only [Res.foot, Option.mem_toList] at hb';exact (ho'.lt b hb').1)
   have h4 := fin v' w' hS';unfold Oper.wp execOp;simp only [resolve, invoke, builtin, Sem.run_bind, Sem.run_pure, Result.andThen_ok, List.map_toArray, List.map_cons, List.map_nil, e1, e2, hr, Oper.upon];exact h4
def DstOk (sv : AV) (id : Nat) (it : It) (e : Nat) (ts : List Ty) (xs : Dt) : Prop :=
 ∀ (φ : Phi) (w0 : World) (M : List Nat) (R : RL) (w : World), St w0 M (it.conc φ id :: R) w -> St w0 M (.row (sv.conc φ) e ts.length xs.length (Yq ts xs) :: R) w
theorem Yxz {T e : TypeId} {by_ id id' : Nat} {zs : List AV} {s x : Operand} {sv xv : AV} {it : It} {hs : Heap} {ts : List Ty} {xs ys : Dt} (ht : (mkTI P T).slice = some (e, ts.length, by_, zs)) (hz : zs.length = ts.length) (hsz : 0 < ts.length) (hsv : At tm s sv) (hsj : sv.rd = true) (hdst : DstOk sv id it e ts xs) (hx : At tm x xv) (hxj : xv.rd = true) (hsrc : Yl2 xv hs ts ys)
  (hne : id ∉ keys hs) (h63 : xs.length + ys.length <= maxLen) (hb : (xs.length + ys.length) * by_ <= 140737488355328) :
  Does P { dst, op := .call { callee := .builtin .append, args := #[s, x], argTypes := #[T, T] }, type, pos, after, guard } tm ((id, it) :: hs) (.rw id') [(id, .dead)] [(id', .arr e ts (xs ++ ys))] :=
 fun φ w0 M R a w K Q ho hn hS kk => by
  have e1 := ho s (by simp [Op.operands, Call.operands]) _ hsv hsj;have e2 := ho x (by simp [Op.operands, Call.operands]) _ hx hxj;have hS0 : St w0 M (Yb φ hs ++ (it.conc φ id :: R)) w := hS.perm (by simp only [Yb, List.map_cons, List.cons_append]; exact List.perm_middle.symm);obtain ⟨A, c, h1, h2⟩ := hsrc φ w0 M _ w hS0;rw [h1] at e2;have hS2 := hdst φ w0 M _ w (by simpa [Yb] using hS);refine Yf7 hS2 (Yo ht φ).1 (by simp [Yf, hz]) hsz e1 e2 rfl rfl h2 h63 hb fun v' w' hS' => ?_;obtain ⟨hd, hfn, rfl⟩ := Ykj (hS'.row .head);have hag := Yy φ id' hd;have hnx := (hn id' (by simp [keys])).2;have hhs : hasH id' hs = false := by
   unfold hasH at hnx;simp only [Bool.or_eq_false_iff] at hnx;exact hnx.2
  have eh : Yb (fun i => if i = id' then hd else φ i) hs = Yb φ hs := Ycb hag fun i hi => by rw [List.mem_singleton.1 hi]; exact hhs
  have e4 : Yh ((id, it) :: hs) [(id, .dead)] = (id, .dead) :: hs := by simp [Yh, upd, Nat.beq_refl]
  have := kk _ w' hag (by
   rw [e4, Yk];have e5 : Yb (fun i => if i = id' then hd else φ i) ((id, .dead) :: hs) = Res.row (.slice none 0 0) 0 0 0 [] :: Yb φ hs := by rw [<- eh]; rfl
   have e3 : Yb (fun i => if i = id' then hd else φ i) [(id', It.arr e ts (xs ++ ys))] = [.row (.slice (if hd.nil then none else some ⟨hd.b, 0, none⟩) (xs.length + ys.length) hd.c) e ts.length (xs.length + ys.length) (Yq ts (xs ++ ys))] := by simp [Yb, It.conc, hfn]
   rw [e3, e5];have hS3 := hS'.dead;refine hS3.perm ?_;rw [List.append_assoc, List.cons_append];exact (List.perm_middle.symm).cons _)
  simpa [AV.conc, hfn] using this
theorem Yuc {w0 w : World} {M : List Nat} {R : RL} {K : Act -> World -> Prop} {Q : Exit -> Act -> World -> Prop} {a : Act} {T e : TypeId} {by_ m c n : Nat} {zs : Array Value} {s x : Operand} {v : Value} {A : Option Addr} {ts : List Ty} {xs ys : Dt} (h : St w0 M (.row v e ts.length n (Yq ts xs) :: R) w) (ht : SliceOf P T e ts.length by_ zs) (hz : zs.size = ts.length) (hsz : 0 < ts.length)
  (hs : a.eval s = v) (hx : a.eval x = .slice A m c) (hm : m = ys.length) (hn : n = xs.length) (hsrc : ys.length = 0 \/ ∃ b off, A = some ⟨b, off, none⟩ /\ ∀ j u, (Yq ts ys)[j]? = some u -> w.cell? ⟨b, off + j, none⟩ = some u) (h63 : n + m <= maxLen) (hb : (n + m) * by_ <= 140737488355328)
  (kk : ∀ v' w', (∃ g cap, v = .slice (some ⟨g, 0, none⟩) n cap /\ v' = .slice (some ⟨g, 0, none⟩) (n + m) cap /\ n <= cap /\ St w0 M (.row v' e ts.length (n + m) (Yq ts (xs ++ ys)) :: R) w') \/ ((v = .slice none 0 0 \/ v'.ownBlock ≠ v.ownBlock) /\ St w0 M (.row v' e ts.length (n + m) (Yq ts (xs ++ ys)) :: .row v e ts.length n (Yq ts xs) :: R) w') -> K (a.put dst v') w') :
  Oper.wp P { dst, op := .call { callee := .builtin .append, args := #[s, x], argTypes := #[T, T] }, type, pos, after, guard } a w K Q := by
 have hrow := h.row .head;rcases hrow.2 with ⟨rfl, rfl⟩ | ⟨g, cap, cur, rfl, hbg, hg, hnc, hcm, hcs, htake⟩
 ·refine Yf7 h ht hz hsz hs hx hm hn hsrc h63 hb fun v' w' hS' => kk v' w' (.inr ⟨.inl rfl, ?_⟩);have := hS'.add (Ext.refl _) (r := .row (.slice none 0 0) e ts.length 0 (Yq ts xs)) ⟨hrow.1, .inl ⟨rfl, rfl⟩⟩ (by simp [Res.foot, Value.ownBlock]);exact this.perm (List.Perm.swap _ _ _)
 ·obtain ⟨i, z, hi, hz1, hz2, his, hib⟩ := ht.parts
  by_cases h0 : ys.length = 0
  ·have hys : ys = [] := List.length_eq_zero_iff.1 h0;subst hys;simp only [List.length_nil] at hm;subst hm;have hsrc : Src P i.size T (.slice A 0 c) 0 [] w := by
    cases A with
    | none => exact Src.ofNil w ht.1 c
    | some b => exact Src.ofSlice w ht.1 b 0 c [] (by simp) (by simp) (by simp)
   have hr := run_append_nothing w T T type e i ht.1 hi (some ⟨g, 0, none⟩) n cap hnc _ hsrc;have h4 := kk (.slice (some ⟨g, 0, none⟩) n cap) w (.inl ⟨g, cap, rfl, rfl, hnc, by simpa using h⟩);unfold Oper.wp execOp;simp only [resolve, invoke, builtin, Sem.run_bind, Sem.run_pure, Result.andThen_ok, List.map_toArray, List.map_cons, List.map_nil, hs, hx];rw [hr];exact h4
  ·obtain ⟨b, off, rfl, hcell⟩ := hsrc.resolve_left h0;have hl : (Yq ts ys).length = m * ts.length := by rw [Y2, hm]
   have hnews : ∀ j u, (Yq ts ys)[j]? = some u -> w.cell? ((⟨b, off, none⟩ : Addr).add j) = some u := fun j u hj => by rw [Yp]; exact hcell j u hj
   by_cases hroom : n + m <= cap
   ·have hfit : n * i.size + (Yq ts ys).length <= cur.size := by rw [hl, hcs, his, <- Nat.add_mul]; exact Nat.mul_le_mul_right _ hroom
    have hr := run_append_room (P := P) w T type e i ht.1 hi g n cap cur hg ⟨b, off, none⟩ m c (Yq ts ys) (by rw [hl, his]) hnews (Ytv ts ys) hroom hfit;have hlen : (Yq ts (xs ++ ys)).length = (n + m) * ts.length := by rw [Y2, List.length_append, <- hn, <- hm]
    have hS' := h.upd (w' := w.setRow g (cur.toList.take (n * i.size) ++ Yq ts ys ++ cur.toList.drop (n * i.size + (Yq ts ys).length)).toArray) (r' := .row (.slice (some ⟨g, 0, none⟩) (n + m) cap) e ts.length (n + m) (Yq ts (xs ++ ys))) .head
     ⟨rfl, rfl, rfl, by simp, fun k _ hk => setRow_other w g k _ (fun e => hk (by simp [Res.foot, Value.ownBlock, e]))⟩
     ⟨hlen, .inr ⟨g, cap, _, rfl, hbg, setRow_heap w g cur _ e _ hg, hroom, hcm, by
      simp only [List.size_toArray, List.length_append, List.length_take, List.length_drop, Array.length_toList];omega, by
      rw [his, htake, <- Yce];simp only [];rw [<- hlen];exact List.take_left⟩⟩ (fun b' hb' => .inl (by simpa [Res.foot, Value.ownBlock] using hb'))
    have h4 := kk _ _ (.inl ⟨g, cap, rfl, rfl, hnc, hS'⟩);unfold Oper.wp execOp;simp only [resolve, invoke, builtin, Sem.run_bind, Sem.run_pure, Result.andThen_ok, List.map_toArray, List.map_cons, List.map_nil, hs, hx, hr, Oper.upon];exact h4
   ·obtain ⟨v', w', hr, ho', hgr⟩ := run_append_arg_grows (P := P) w T type e i z ts.length by_ ht.1 hi hz1 his hib (by rw [hz2, hz]) hsz ⟨g, 0, none⟩ n cap (Yq ts xs) hrow.1 (hrow.cells rfl)
     ⟨b, off, none⟩ m c (Yq ts ys) hl hnews (by omega) h63 hb
    rw [<- Yce] at ho';have hext : Ext w w' := ⟨hgr.os, hgr.tape, hgr.output, hgr.size, fun k hk => hgr.block k hk (by simp)⟩;have hS' := h.add hext (r := .row v' e ts.length (n + m) (Yq ts (xs ++ ys))) ⟨ho'.1, ho'.2.imp (fun h => h) fun ⟨g, cap, cur, a, _, c⟩ => ⟨g, cap, cur, a, Nat.zero_le _, c⟩⟩ (fun b hb' => by
     simp only [Res.foot, Option.mem_toList] at hb';exact (ho'.lt b hb').1)
    have h4 := kk v' w' (.inr ⟨.inr (fun e => by
     have h5 := (ho'.lt g e).1;have h6 := (hrow.lt g rfl).2;omega), hS'⟩)
    unfold Oper.wp execOp;simp only [resolve, invoke, builtin, Sem.run_bind, Sem.run_pure, Result.andThen_ok, List.map_toArray, List.map_cons, List.map_nil, hs, hx, hr, Oper.upon];exact h4
theorem Yx1 {T e : TypeId} {by_ id id' : Nat} {zs : List AV} {s x : Operand} {xv : AV} {hs : Heap} {ts : List Ty} {xs ys : Dt} (ht : (mkTI P T).slice = some (e, ts.length, by_, zs)) (hz : zs.length = ts.length) (hsz : 0 < ts.length) (hsv : At tm s (.rw id)) (hx : At tm x xv) (hxj : xv.rd = true) (hsrc : Yl2 xv hs ts ys)
  (hne : id ∉ keys hs) (h63 : xs.length + ys.length <= maxLen) (hb : (xs.length + ys.length) * by_ <= 140737488355328) :
  Does P { dst, op := .call { callee := .builtin .append, args := #[s, x], argTypes := #[T, T] }, type, pos, after, guard } tm ((id, .arr e ts xs) :: hs) (.rw id') [(id, .bk e ts xs id')] [(id', .arr e ts (xs ++ ys))] :=
 fun φ w0 M R a w K Q ho hn hS kk => by
  have e1 := ho s (by simp [Op.operands, Call.operands]) _ hsv rfl;have e2 := ho x (by simp [Op.operands, Call.operands]) _ hx hxj;have hS0 : St w0 M (Yb φ hs ++ ((It.arr e ts xs).conc φ id :: R)) w := hS.perm (by simp only [Yb, List.map_cons, List.cons_append]; exact List.perm_middle.symm);obtain ⟨A, c, h1, h2⟩ := hsrc φ w0 M _ w hS0;rw [h1] at e2;have hS2 : St w0 M ((It.arr e ts xs).conc φ id :: (Yb φ hs ++ R)) w := by simpa [Yb] using hS
  have ef := (Yiz hsz hS2).1;have hnx := (hn id' (by simp [keys])).2;unfold hasH at hnx;simp only [Bool.or_eq_false_iff] at hnx;have hid : id ≠ id' := Yx.1 hnx.1.1;refine Yuc hS2 (Yo ht φ).1 (by simp [Yf, hz]) hsz e1 e2 rfl ef h2 (by rw [ef]; exact h63) (by rw [ef]; exact hb) fun v' w' hS' => ?_;obtain ⟨hd, hfn, rfl⟩ : ∃ hd : Hd, hd.fn = (φ id).fn + ys.length /\ v' = .slice (if hd.nil then none else some ⟨hd.b, 0, none⟩) ((φ id).fn + ys.length) hd.c := by
   rcases hS' with ⟨g, cap, _, _, _, h⟩ | ⟨_, h⟩ <;> exact Ykj (h.row .head)
  have hag := Yy φ id' hd;have eh : Yb (fun i => if i = id' then hd else φ i) hs = Yb φ hs := Ycb hag fun i hi => by rw [List.mem_singleton.1 hi]; exact hnx.2
  have e4 : Yh ((id, It.arr e ts xs) :: hs) [(id, .bk e ts xs id')] = (id, .bk e ts xs id') :: hs := by simp [Yh, upd, Nat.beq_refl]
  have e3 : Yb (fun i => if i = id' then hd else φ i) [(id', It.arr e ts (xs ++ ys))] = [.row (.slice (if hd.nil then none else some ⟨hd.b, 0, none⟩) ((φ id).fn + ys.length) hd.c) e ts.length ((φ id).fn + ys.length) (Yq ts (xs ++ ys))] := by simp [Yb, It.conc, hfn]
  have e5 : Yb (fun i => if i = id' then hd else φ i) ((id, .bk e ts xs id') :: hs) = Ysf (φ id) hd e ts xs :: Yb φ hs := by rw [<- eh]; simp [Yb, It.conc, hid]
  have := kk _ w' hag (by
   rw [e4, Yk, e3, e5];rcases hS' with ⟨g, cap, q1, q2, q3, hS'⟩ | ⟨q, hS'⟩
   ·have p1 : (φ id).nil = false /\ (φ id).b = g /\ (φ id).c = cap := by
     cases hnl : (φ id).nil <;> simp_all
    have p2 : hd.nil = false /\ hd.b = g /\ hd.c = cap := by
     cases hnl : hd.nil <;> simp_all
    have e6 : Ysf (φ id) hd e ts xs = .row (.slice none 0 0) 0 0 0 [] := by
     unfold Ysf;rw [if_pos ⟨p1.1, p2.1, by rw [p1.2.1, p2.2.1]⟩, if_pos ⟨by rw [p1.2.2, p2.2.2], ef, by rw [p1.2.2]; exact q3⟩]
    rw [e6];refine hS'.dead.perm ?_;rw [List.append_assoc, List.cons_append];exact (List.perm_middle.symm).cons _
   ·have e6 : Ysf (φ id) hd e ts xs = .row (.slice (if (φ id).nil then none else some ⟨(φ id).b, 0, none⟩) (φ id).fn (φ id).c) e ts.length (φ id).fn (Yq ts xs) := by
     unfold Ysf;rw [if_neg];rintro ⟨c1, c2, c3⟩;rcases q with q | q
     ·simp [c1] at q
     ·exact q (by simp [c1, c2, c3, Value.ownBlock])
    rw [e6];refine hS'.perm ?_;rw [List.append_assoc, List.cons_append];refine (List.Perm.swap _ _ _).trans ?_;exact (List.perm_middle.symm).cons _)
  simpa [AV.conc, hfn] using this
theorem St.lentBack {w0 w : World} {M : List Nat} {R : RL} {φ : Phi} {T id j : Nat} {ts : List Ty} {xs zs : Dt} (hz : zs.take xs.length = xs) (h : St w0 M ((It.bk T ts xs j).conc φ id :: (It.arr T ts zs).conc φ j :: R) w) : St w0 M ((It.arr T ts xs).conc φ id :: It.dead.conc φ j :: R) w := by
 simp only [It.conc] at h ⊢;unfold Ysf at h
 split at h
 ·rename_i hc
  split at h
  ·rename_i hd;have h1 := h.drop;have hrow := h1.row .head;have h2 := h1.upd (w' := w) (r' := .row (.slice (if (φ id).nil then none else some ⟨(φ id).b, 0, none⟩) (φ id).fn (φ id).c) T ts.length (φ id).fn (Yq ts xs)) .head (Kept.of (Below.refl _ _)) (by
    refine ⟨by rw [Y2, hd.2.1], .inr ?_⟩;rcases hrow.2 with ⟨e, _⟩ | ⟨g, cap, cur, hv, hbg, hg, hnc, hcm, hcs, htake⟩
    ·simp [hc.2.1] at e
    ·have hv' : (φ j).b = g /\ (φ j).c = cap := by simpa [hc.2.1] using hv
     refine ⟨g, cap, cur, by simp [hc.1, hc.2.2, hd.1, hv'.1, hv'.2], hbg, hg, by rw [<- hv'.2, <- hd.1]; exact hd.2.2, hcm, hcs, ?_⟩;have hl : xs.length <= zs.length := by rw [<- hz]; simp; omega
     have h3 : Yq ts zs = Yq ts xs ++ Yq ts (zs.drop xs.length) := by
      rw [<- Yce]; conv => lhs; rw [<- List.take_append_drop xs.length zs, hz]
     have h4 := hrow.1;rw [h3, List.length_append, Y2] at h4;have h5 : xs.length * ts.length <= (φ j).fn * ts.length := by omega
     have h6 : cur.toList.take (xs.length * ts.length) = (cur.toList.take ((φ j).fn * ts.length)).take (xs.length * ts.length) := by rw [List.take_take, Nat.min_eq_left h5]
     rw [hd.2.1, h6, htake, h3, <- Y2 ts xs];exact List.take_left) (fun b hb => .inl (by
      simp only [Res.foot, hc.1, hc.2.1, Value.ownBlock, Bool.false_eq_true, if_false, Option.toList, hc.2.2] at hb ⊢;exact hb))
   exact h2.dead.perm (List.Perm.swap _ _ _)
  ·have := (h.row .head).2;rcases this with ⟨_, e⟩ | ⟨_, _, _, e, _⟩ <;> cases e
 ·exact (h.perm (List.Perm.swap _ _ _)).drop.dead.perm (List.Perm.swap _ _ _)
end
end Go.Proofs.Ytmogofidmchdoaa
namespace Go.Proofs.Ytmogofidmchdoaa
open Go.RowKit
variable [InW]
attribute [local irreducible] Go.Oper.wp
def intK (x : AV) (K : IntKind -> Int -> Prop) (D : Prop) : Prop := match x with | .si k n => K k n | .v (.int k n) => K k n | _ => D
theorem Yd0 {x : AV} {K : IntKind -> Int -> Prop} {D : Prop} (h : intK x K D) : (∃ k n, K k n /\ (∀ φ, x.conc φ = .int k n) /\ x.rd = true) \/ D := by
 unfold intK at h
 split at h
 ·exact .inl ⟨_, _, h, fun φ => rfl, rfl⟩
 ·exact .inl ⟨_, _, h, fun φ => rfl, rfl⟩
 ·exact .inr h
def Yvt (P : Program) (op : BinOp) (T : TypeId) (a b : AV) (K : K1) (D : Prop) : Prop :=
 match a, b with
 | .si ka m, .si kb n => binI op ka kb m n false K
 | .si ka m, .v (.int kb n) => binI op ka kb m n true K
 | .v (.int ka m), .si kb n => binI op ka kb m n false K
 | .sb p, .sb q => binB P op T p q K
 | .sb p, .v (.bool q) => binB P op T p q K
 | .v (.bool p), .sb q => binB P op T p q K
 | .ss s, .ss t => binS op s t K
 | .ss s, .v (.string t) => binS op s t K
 | .v (.string s), .ss t => binS op s t K
 | .agg xs, .agg ys => binA P op T (.agg xs) (.agg ys) K
 | .agg xs, .v (.agg ys) => binA P op T (.agg xs) (.v (.agg ys)) K
 | .v (.agg xs), .agg ys => binA P op T (.v (.agg xs)) (.agg ys) K
 | _, _ => D
def Yw5 (v : Value) : Bool := match v with | .slice none _ _ => true | _ => false
def Ykd (P : Program) (T : TypeId) : Bool := match P.underlying T with | some (.slice _) => true | _ => false
def Yth (c : Cx) (neq : Bool) (T : TypeId) (a b : AV) (hp : Heap) (k : KE) (D : Prop) : Prop :=
 match b with
 | .v (.slice none 0 0) => (match Ykd c.P T with
  | false => D
  | true => (match a with
   | .sl id off lo n => Y0 hp id fun it => (match Yio it with | true => k (.v (.bool neq)) [(id, it)] [] [] | false => D)
   | .rs ts r => (match neq with | true => k (.sb (!(Yw5 r.v))) [] [] [] | false => k (.sb (Yw5 r.v)) [] [] [])
   | .rw id => Y0 hp id fun it => (match it with
    | .arr T' ts xs => Yc (Nat.ble 1 ts.length) (Need (decide (0 < xs.length)) (k (.v (.bool neq)) [(id, .arr T' ts xs)] [] []))
    | _ => D)
   | _ => D))
 | _ => D
def Ywl (c : Cx) (op : BinOp) (T : TypeId) (a b : AV) (hp : Heap) (k : KE) (D : Prop) : Prop :=
 match op with | .eql => Yth c false T a b hp k D | .neq => Yth c true T a b hp k D | _ => D
theorem Y2k {ts : List Ty} {r : Ro ts} (h : Yw5 r.v = true) : r.xs = [] := by
 obtain ⟨A, c, hv, _, _, u, h1, _⟩ := r.inv;rcases Classical.em (r.xs = []) with e | e
 ·exact e
 ·obtain ⟨b, off, rfl, _⟩ := h1 e;rw [hv] at h;cases h
def Y0v (op : UnOp) (a : AV) (K : K1) (D : Prop) : Prop :=
 match a with
 | .si k n => (match op with | .neg => arK k (0 - n) K | _ => Stuck 320)
 | .sb b => (match op with | .not => K (.sb (!b)) | _ => Stuck 321)
 | _ => D
def Yrp (P : Program) (src dst : TypeId) (a : AV) (K : K1) (D : Prop) : Prop :=
 match a with
 | .si k n => (match P.underlying src, P.underlying dst with | some (.int _), some (.int k') => arK k' n K | _, _ => Stuck 322)
 | _ => D
def Yvo (tm : List AV) (cnd x y : Operand) (K : K1) (D : Prop) : Prop :=
 evK tm cnd fun a => match a with
  | .sb b => evK tm x fun u => evK tm y fun v => (match u, v with
   | .sb p, .sb q => K (.sb (bif b then p else q))
   | .v (.bool p), .sb q => (match p with | true => K (.sb (b || q)) | false => K (.sb (!b && q)))
   | .sb p, .v (.bool q) => (match q with | true => K (.sb (!b || p)) | false => K (.sb (b && p)))
   | _, _ => Vif b (K u) (K v))
  | _ => D
def Ypl (i : Int) (sz : Nat) : Nat -> Nat -> Nat -> (Nat -> Prop) -> Prop
 | 0, _, _, _ => Stuck 380
 | 1, _, a, K => K a
 | r + 2, j, a, K => Vif (decide (i = (j : Int))) (K a) (Y4 (j + 1) fun j => Y4 (a + sz) fun a => Ypl i sz (r + 1) j a K)
theorem Ygw {i : Int} {sz : Nat} {K : Nat -> Prop} : ∀ {r j a : Nat}, Ypl i sz r j a K -> (j : Int) <= i -> i < (j : Int) + r -> K (a + (i - j).toNat * sz)
 | 0, _, _, h, _, _ => h.elim
 | 1, j, a, h, h1, h2 => by
  have e : (i - j).toNat = 0 := by omega
  rw [e, Nat.zero_mul, Nat.add_zero];exact h
 | r + 2, j, a, h, h1, h2 => by
  unfold Ypl at h
  by_cases e : i = (j : Int)
  ·have := h.1 (by simp [e]);rw [show (i - j).toNat = 0 by omega, Nat.zero_mul, Nat.add_zero];exact this
  ·have h3 := Yi.1 (Yi.1 (h.2 (by simp [e])));have := Ygw h3 (by omega) (by omega);rw [show (i - j).toNat = (i - ((j + 1 : Nat) : Int)).toNat + 1 by omega, Nat.succ_mul];rwa [show a + ((i - ((j + 1 : Nat) : Int)).toNat * sz + sz) = a + sz + (i - ((j + 1 : Nat) : Int)).toNat * sz by omega]
def uniB (k : IntKind) : List Ty -> Bool
 | [] => true
 | .int k' :: ts => (match decide (k' = k) with | true => uniB k ts | false => false)
 | _ => false
def uniK (ts : List Ty) : Option IntKind := match ts with | .int k :: us => (match Nat.ble 8 ts.length && uniB k us with | true => some k | false => none) | _ => none
theorem Yo6 {k : IntKind} : ∀ {ts : List Ty}, uniB k ts = true -> ∀ t ∈ ts, t = .int k
 | [], _, _, ht => by cases ht
 | .int k' :: ts, h, t, ht => by
  unfold uniB at h
  split at h
  ·rename_i e;rcases List.mem_cons.1 ht with rfl | ht
   ·rw [of_decide_eq_true e]
   ·exact Yo6 h t ht
  ·cases h
 | .bool :: _, h, _, _ => by cases h
 | .str :: _, h, _, _ => by cases h
 | .sl _ :: _, h, _, _ => by cases h
theorem Yvl {k : IntKind} {ts : List Ty} (h : uniK ts = some k) (j : Nat) (hj : j < ts.length) : tyAt ts j = .int k := by
 unfold uniK at h
 split at h
 ·split at h
  ·rename_i k' us e;cases h;simp only [Bool.and_eq_true] at e;rw [Ydp, List.getD_eq_getElem?_getD, List.getElem?_eq_getElem hj, Option.getD_some];rcases List.mem_cons.1 (List.getElem_mem hj) with h | h
   ·exact h
   ·exact Yo6 e.2 _ h
  ·cases h
 ·cases h
def Yui (k : IntKind) : List AV -> (List Int -> Prop) -> Prop
 | [], K => K []
 | .si k' n :: xs, K => Yc (decide (k' = k)) (Yui k xs fun ns => K (n :: ns))
 | .v (.int k' n) :: xs, K => Yc (decide (k' = k)) (Yui k xs fun ns => K (n :: ns))
 | _, _ => Stuck 391
def Ywh (xs : List AV) (K : IntKind -> List Int -> Prop) : Prop := match xs with | .si k _ :: _ => Yui k xs (K k) | .v (.int k _) :: _ => Yui k xs (K k) | _ => Stuck 390
theorem Yf9 {k : IntKind} : ∀ {xs : List AV} {K : List Int -> Prop}, Yui k xs K -> ∃ ns, K ns /\ ns.length = xs.length /\ ∀ φ, AV.concL φ xs = ns.map (Value.int k)
 | [], K, h => ⟨[], h, rfl, fun φ => rfl⟩
 | x :: xs, K, h => by
  unfold Yui at h
  split at h
  ·rename_i e; cases e
  ·rename_i k' n xs' e;cases e;obtain ⟨h1, h2⟩ := Ya h;obtain rfl := of_decide_eq_true h1;obtain ⟨ns, h3, h4, h5⟩ := Yf9 h2;exact ⟨_, h3, by simp [h4], fun φ => by simp [AV.concL, AV.conc, h5 φ]⟩
  ·rename_i k' n xs' e;cases e;obtain ⟨h1, h2⟩ := Ya h;obtain rfl := of_decide_eq_true h1;obtain ⟨ns, h3, h4, h5⟩ := Yf9 h2;exact ⟨_, h3, by simp [h4], fun φ => by simp [AV.concL, AV.conc, h5 φ]⟩
  ·exact h.elim
theorem Yim {xs : List AV} {K : IntKind -> List Int -> Prop} (h : Ywh xs K) : ∃ k ns, K k ns /\ ns.length = xs.length /\ ∀ φ, AV.concL φ xs = ns.map (Value.int k) := by
 unfold Ywh at h
 split at h
 ·obtain ⟨ns, h1, h2, h3⟩ := Yf9 h; exact ⟨_, ns, h1, h2, h3⟩
 ·obtain ⟨ns, h1, h2, h3⟩ := Yf9 h; exact ⟨_, ns, h1, h2, h3⟩
 ·exact h.elim
def selU (p j : Nat) (v o : Int) : Int := if p = j then v else o
def Yyu (kd : IntKind) (p : Nat) (v : Int) : Nat -> List Int -> (List AV -> Prop) -> Prop
 | _, [], K => K []
 | j, n :: ns, K => Y4 (j + 1) fun j' => Yyu kd p v j' ns fun r => K (.si kd (selU p j v n) :: r)
theorem Ymp {kd : IntKind} {p : Nat} {v : Int} : ∀ {ns : List Int} {j : Nat} {K : List AV -> Prop}, Yyu kd p v j ns K -> ∃ cs, K cs /\ cs.length = ns.length /\ (∀ i, AV.hasL i cs = false) /\ Yfk cs = true /\ ∀ φ, AV.concL φ cs = if p < j then ns.map (Value.int kd) else (ns.map (Value.int kd)).set (p - j) (.int kd v)
 | [], j, K, h => ⟨[], h, rfl, fun _ => rfl, rfl, fun φ => by simp [AV.concL]⟩
 | n :: ns, j, K, h => by
  unfold Yyu at h;obtain ⟨cs, h1, h2, h3, h4, h5⟩ := Ymp (Yi.1 h);refine ⟨_, h1, by simp [h2], fun i => by simp [AV.hasL, AV.has, h3 i], by simpa [Yfk, AV.one] using h4, fun φ => ?_⟩;simp only [AV.concL, AV.conc, h5 φ, selU];rcases Nat.lt_trichotomy p j with e | e | e
  ·simp [show p < j + 1 by omega, e, show p ≠ j by omega]
  ·subst e; simp
  ·obtain ⟨q, hq⟩ : ∃ q, p - j = q + 1 := ⟨p - j - 1, by omega⟩;rw [show p - (j + 1) = q by omega, hq];simp [show ¬ p < j + 1 by omega, show ¬ p < j by omega, show p ≠ j by omega]
def Yvs (c : Cx) (T : TypeId) (s j : AV) (hp : Heap) (k : KE) (D : Prop) : Prop :=
 match s with
 | .rs ts r => intK j (fun kd i => tiK c.tt T fun ti => match ti.slice with
   | some (e, sz, by_, zs) => Yc (Nat.beq sz ts.length) (Need (decide (0 <= i) && decide (i < (r.xs.length : Int))) (k (.rp ts r i.toNat 0) [] [] []))
   | none => Stuck 323) (Stuck 324)
 | .rw id => intK j (fun kd i => Y0 hp id fun it => match it with
   | .arr T' ts xs => tiK c.tt T fun ti => (match ti.slice with
    | some (e, sz, by_, zs) => Yc (Nat.beq sz ts.length && Nat.ble 1 sz) (Need (decide (0 <= i) && decide (i < (xs.length : Int))) (k (.ep id ts.length i.toNat 0) [(id, .arr T' ts xs)] [] []))
    | none => Stuck 325)
   | _ => Stuck 326) (Stuck 327)
 | .sl id off lo n => Y0 hp id fun it => (match it with
   | .arr T' ts xs => intK j (fun kd i => tiK c.tt T fun ti => match ti.slice with
    | some (e, sz, by_, zs) => Yc (Nat.beq sz ts.length && Nat.ble 1 sz && Nat.beq off 0 && Nat.beq lo 0) (Need (decide (0 <= i) && decide (i < (n : Int)) && decide (n <= xs.length)) (k (.ep id ts.length i.toNat 0) [(id, .arr T' ts xs)] [] []))
    | none => Stuck 328) (Stuck 329)
   | _ => D)
 | .rwp id sz' l n => Y0 hp id fun it => (match it with
   | .arr T' ts xs => intK j (fun kd i => tiK c.tt T fun ti => match ti.slice with
    | some (e, sz, by_, zs) => Yc (Nat.beq sz ts.length && Nat.beq sz' ts.length && Nat.ble 1 sz) (Need (decide (0 <= i) && decide (i < (n : Int)) && decide (l + n <= xs.length)) (k (.ep id ts.length (l + i.toNat) 0) [(id, .arr T' ts xs)] [] []))
    | none => Stuck 328) (Stuck 329)
   | _ => D)
 | .ptr id m => (match j with
  | .v (.int kd i) => tiK c.tt T fun ti => (match ti.arr with
   | some (n, sz, b) => Yt5 false i n m sz fun a => k (.ptr id a) [] [] []
   | none => Stuck 369)
  | .si kd i => tiK c.tt T fun ti => (match ti.arr with
   | some (n, sz, b) => Need (decide (0 <= i) && decide (i < (n : Int))) (match Nat.ble 8 n && (Nat.beq sz 1 && Nat.beq m 0) with
    | true => k (.ep id 1 i.toNat 0) [] [] []
    | false => Ypl i sz n 0 m fun a => k (.ptr id a) [] [] [])
   | none => Stuck 384)
  | _ => Stuck 370)
 | .ep id sz r o => intK j (fun kd i => tiK c.tt T fun ti => (match ti.arr with
   | some (n, sz', b) => Yc (Nat.beq sz' 1 && Nat.beq o 0) (Need (decide (0 <= i) && decide (i < (n : Int))) (k (.ep id sz r i.toNat) [] [] []))
   | none => Stuck 385)) (Stuck 386)
 | _ => D
def Yrj (c : Cx) (T : TypeId) (p : AV) (hp : Heap) (k : KE) (D : Prop) : Prop :=
 match p with
 | .rp ts r i j => tiK c.tt T fun ti => (match ti.agg with
   | some false => Yc (Nat.blt j ts.length) (Need (decide (i < r.xs.length)) (k (Ymx r i j) [] [] []))
   | some true => (match ti.size with | some n => Yc (Nat.ble (j + n) ts.length) (Need (decide (i < r.xs.length)) (k (.agg (Yed r i j n)) [] [] [])) | none => Stuck 330)
   | none => Stuck 331)
 | .ep id sz i j => Y0 hp id fun it => (match it with
   | .blk T' cs => Yc (Nat.beq sz 1 && Nat.beq j 0) (tiK c.tt T fun ti => match ti.agg with
    | some false => Ywh cs fun kd ns => Need (decide (i < ns.length)) (k (.si kd (ns.getD i 0)) [(id, .blk T' cs)] [] [])
    | _ => Stuck 387)
   | .arr T' ts xs => Yc (Nat.beq sz ts.length) (tiK c.tt T fun ti => match ti.agg with
    | some false => match uniK ts with
     | some kd => Need (decide (j < ts.length) && decide (i < xs.length)) (k (.si kd (cel xs i j).int) [(id, .arr T' ts xs)] [] [])
     | none => Yc (Nat.blt j ts.length) (Need (decide (i < xs.length)) (k (Yil (tyAt ts j) (cel xs i j)) [(id, .arr T' ts xs)] [] []))
    | some true => (match ti.size with | some n => Yc (Nat.ble (j + n) ts.length) (Need (decide (i < xs.length)) (k (.agg (Ycy ts xs i j n)) [(id, .arr T' ts xs)] [] [])) | none => Stuck 332)
    | none => Stuck 333)
   | _ => Stuck 334)
 | _ => D
def Yvn (ts : List Ty) (xs : Dt) (i j n : Nat) (vs : List AV) (K : List Cl -> Prop) : Prop :=
 match j, Nat.beq n ts.length with
 | 0, true => clsK ts vs K
 | _, _ => Yiw ts j fun t1 => Yhb t1 n fun t2 => clsK t2 vs fun cs => K (Ybt (xs.getD i []) j cs)
def Yn0 (c : Cx) (T : TypeId) (p v : AV) (hp : Heap) (k : KE) (D : Prop) : Prop :=
 match p with
 | .ep id sz i j => Y0 hp id fun it => (match it with
   | .blk T' cs => Yc (Nat.beq sz 1 && Nat.beq j 0) (tiK c.tt T fun ti => (match ti.size with
    | some n => intK v (fun kv u => Ywh cs fun kd ns => Yc (decide (kv = kd) && Nat.beq n 1) (Need (decide (i < ns.length)) (Yyu kd i u 0 ns fun cs' => k (.v undef) [(id, .blk T' cs)] [(id, .blk T' cs')] []))) (Stuck 388)
    | none => Stuck 389))
   | .arr T' ts xs => Yc (Nat.beq sz ts.length) (tiK c.tt T fun ti => match ti.size with
    | some n => Yh9 v fun vs => Yc (lenB vs n && Yfk vs && Nat.ble 1 n && Nat.ble (j + n) ts.length) (Yvn ts xs i j n vs fun row =>
      Need (decide (i < xs.length)) (k (.v undef) [(id, .arr T' ts xs)] [(id, .arr T' ts (xs.set i row))] []))
    | none => Stuck 335)
   | _ => Stuck 336)
 | _ => D
def Yn5 (c : Cx) (T : TypeId) (i : Nat) (p : AV) (k : KE) (D : Prop) : Prop :=
 match p with
 | .rp ts r j o => tiK c.tt T fun ti => getK ti.fields i fun f => (match f with | some (off, n + 1) => fN false (o + off) fun o => k (.rp ts r j o) [] [] [] | _ => Stuck 337)
 | .ep id sz j o => tiK c.tt T fun ti => getK ti.fields i fun f => (match f with | some (off, n + 1) => fN false (o + off) fun o => k (.ep id sz j o) [] [] [] | _ => Stuck 338)
 | _ => D
def Yvr (c : Cx) (tys : List TypeId) (v : AV) (hp : Heap) (k : KE) (D : Prop) : Prop :=
 match v with
 | .rs ts r => (match tys with | [T] => tiK c.tt T fun ti => (match ti.slice with | some _ => k (.si .i64 (r.xs.length : Int)) [] [] [] | none => Stuck 339) | _ => Stuck 340)
 | .rw id => Y0 hp id fun it => (match it with
   | .arr T' ts xs => (match tys with | [T] => tiK c.tt T fun ti => (match ti.slice with | some _ => Yc (Nat.ble 1 ts.length) (k (.si .i64 (xs.length : Int)) [(id, .arr T' ts xs)] [] []) | none => Stuck 341) | _ => Stuck 342)
   | _ => Stuck 343)
 | .sl id off lo n => Y0 hp id fun it => (match it with
   | .arr T' ts xs => (match tys with | [T] => tiK c.tt T fun ti => (match ti.slice with | some _ => k (.si .i64 (n : Int)) [] [] [] | none => Stuck 344) | _ => Stuck 345)
   | _ => D)
 | .rwp id sz' l n => (match tys with | [T] => tiK c.tt T fun ti => (match ti.slice with | some _ => k (.si .i64 (n : Int)) [] [] [] | none => Stuck 344) | _ => Stuck 345)
 | _ => D
def Yyo (mx : Bool) (a b : AV) (K : K1) (D : Prop) : Prop :=
 match a, b with
 | .si ka m, .si kb n => Yc (decide (ka = kb)) (match mx with | true => K (.si ka (max m n)) | false => K (.si ka (min m n)))
 | .si ka m, .v (.int kb n) => Yc (decide (ka = kb)) (match mx with | true => K (.si ka (max m n)) | false => K (.si ka (min m n)))
 | .v (.int ka m), .si kb n => Yc (decide (ka = kb)) (match mx with | true => K (.si ka (max m n)) | false => K (.si ka (min m n)))
 | _, _ => D
def Yjc (tm : List AV) (x : Option Operand) (dflt : Nat) (K : Nat -> Prop) : Prop :=
 match x with
 | none => K dflt
 | some x => evK tm x fun v => (match v with | .v (.int _ (.ofNat n)) => K n | .si _ i => Need (decide (0 <= i)) (K i.toNat) | _ => Stuck 346)
def Yn2 (c : Cx) (T : TypeId) (tm : List AV) (s : AV) (lo hi mx : Option Operand) (hp : Heap) (k : KE) (D : Prop) : Prop :=
 match s with
 | .rs ts r => (match mx with
   | none => tiK c.tt T fun ti => (match ti.slice with
    | some (e, sz, by_, zs) => Yc (Nat.beq sz ts.length) (Yjc tm lo 0 fun l => Yjc tm hi r.xs.length fun h => Need (decide (l <= h) && decide (h <= r.xs.length)) (k (.rs ts (r.cut l h)) [] [] []))
    | none => Stuck 347)
   | some m => (match lo with
    | none => tiK c.tt T fun ti => (match ti.slice with
     | some (e, sz, by_, zs) => Yc (Nat.beq sz ts.length) (Yjc tm hi 1 fun h => Yjc tm (some m) 1 fun m => Yc (Nat.beq h 0 && Nat.beq m 0) (k (.rs ts r.zero) [] [] []))
     | none => Stuck 347)
    | some _ => Stuck 348))
 | .rw id => Y0 hp id fun it => (match it with
   | .arr T' ts xs => (match mx with
    | none => tiK c.tt T fun ti => (match ti.slice with
     | some (e, sz, by_, zs) => Yc (Nat.beq sz ts.length && Nat.ble 1 sz) (Yjc tm lo 0 fun l => Yjc tm hi xs.length fun h => Need (decide (l <= h) && decide (h <= xs.length)) (k (.rwp id ts.length l (h - l)) [(id, .arr T' ts xs)] [] []))
     | none => Stuck 347)
    | some _ => Stuck 348)
   | _ => D)
 | _ => D
def Ycc (ts : List Ty) (x : AV) (hp : Heap) (K : Heap -> Dt -> Prop) : Prop :=
 match x with
 | .v (.slice _ n _) => Yc (Nat.beq n 0) (K [] [])
 | .emp _ => K [] []
 | .rs ts' r => Yc (sameTs ts' ts) (K [] r.xs)
 | .rw id => Y0 hp id fun it => (match it with | .arr T' ts' xs => Yc (sameTs ts' ts) (K [(id, .arr T' ts' xs)] xs) | _ => Stuck 349)
 | .sl id off lo m => Y0 hp id fun it => (match it with
   | .row T' sz n cs => (match Nat.beq m 0 with
    | true => K [] []
    | false => Ywn (.row T' sz n cs) off m ts.length fun news => Yrw ts m news fun ys => K [(id, .row T' sz n cs)] ys)
   | .arr T' ts' xs => Yc (sameTs ts' ts && Nat.beq off 0 && Nat.beq lo 0) (Need (decide (m <= xs.length)) (K [(id, .arr T' ts' xs)] (xs.take m)))
   | _ => Stuck 350)
 | .rwp id sz' l m => Y0 hp id fun it => (match it with
   | .arr T' ts' xs => Yc (sameTs ts' ts && Nat.beq sz' ts.length) (Need (decide (l + m <= xs.length)) (K [(id, .arr T' ts' xs)] ((xs.drop l).take m)))
   | _ => Stuck 350)
 | _ => Stuck 351
where
 sameTy : Ty -> Ty -> Bool
  | .int k, .int k' => decide (k = k')
  | .bool, .bool => true
  | .str, .str => true
  | _, _ => false
 sameTs : List Ty -> List Ty -> Bool
  | [], [] => true
  | t :: ts, u :: us => match sameTy t u with | true => sameTs ts us | false => false
  | _, _ => false
def Y14 (s x : AV) (hp : Heap) : Bool :=
 match s, x with
 | .rw _, _ => true
 | _, .rw _ => true
 | _, .rwp _ _ _ _ => true
 | _, .rs _ _ => true
 | _, .sl id _ _ _ => (match look hp id with | some (.row _ _ _ cs) => anySym cs | some (.arr _ _ _) => true | _ => false)
 | _, _ => false
where
 anySym : List AV -> Bool
  | [] => false
  | .si _ _ :: _ => true
  | .sb _ :: _ => true
  | .ss _ :: _ => true
  | _ :: xs => anySym xs
def Ydq (c : Cx) (T : TypeId) (id' : Nat) (s x : AV) (hp : Heap) (k : KE) : Prop :=
 tiK c.tt T fun ti => match ti.slice with
  | none => Stuck 352
  | some (e, sz, by_, zs) => Yc (lenB zs sz && Nat.ble 1 sz && Nat.ble 1 by_) (match s with
   | .v (.slice none 0 0) => tysK zs fun ts => Ycc ts x hp fun hs ys => Need (decide (ys.length * by_ <= 140737488355328)) (k (.rw id') hs [] [(id', .arr e ts ys)])
   | .rs _ q => tysK zs fun ts => Ycc ts x hp fun hs ys => Need (decide (q.xs.length = 0) && decide (capV q.v = 0) && decide (0 < ys.length) && decide (ys.length * by_ <= 140737488355328)) (k (.rw id') hs [] [(id', .arr e ts ys)])
   | .rw id => Y0 hp id fun it => (match it with
    | .arr T' ts xs => Yc (Nat.beq T' e && Nat.beq ts.length sz) (Ycc ts x hp fun hs ys => Yc (disjB hs [(id, it)]) (Need (decide ((xs.length + ys.length) * by_ <= 140737488355328)) (k (.rw id') ((id, .arr T' ts xs) :: hs) [(id, .bk e ts xs id')] [(id', .arr e ts (xs ++ ys))])))
    | _ => Stuck 353)
   | .sl id off lo n => Y0 hp id fun it => (match it with
    | .row T' sz' n' cs => Yc (Nat.beq T' e && Nat.beq sz' sz && Nat.beq n' n && Nat.beq off 0 && Nat.beq lo 0) (tysK zs fun ts => Yrw ts n cs fun xs => Ycc ts x hp fun hs ys => Yc (disjB hs [(id, it)]) (Need (decide ((xs.length + ys.length) * by_ <= 140737488355328)) (k (.rw id') ((id, .row T' sz' n' cs) :: hs) [(id, .dead)] [(id', .arr e ts (xs ++ ys))])))
    | _ => Stuck 354)
   | _ => Stuck 355)
where
 disjB : Heap -> Heap -> Bool
  | [], _ => true
  | p :: a, b => match look b p.1 with | none => disjB a b | some _ => false
def Yvq (c : Cx) (T : TypeId) (id : Nat) (x y : AV) (k : KE) (D : Prop) : Prop := D
def Ype (c : Cx) (T : TypeId) (ok : Bool) (m i : AV) (hp : Heap) (k : KE) (D : Prop) : Prop := D
def Ypa (c : Cx) (T : TypeId) (m i v : AV) (hp : Heap) (k : KE) (D : Prop) : Prop := D
def Yvp (p : AV) (k : KE) (D : Prop) : Prop :=
 match p with
 | .ep id sz i j => k (.ep id sz i j) [] [] []
 | .rp ts r i j => k (.rp ts r i j) [] [] []
 | _ => D
def Yj6 (c : Cx) (T : TypeId) (s j : AV) (k : KE) (D : Prop) : Prop :=
 match s, j with
 | .agg cs, .si kd i => tiK c.tt T fun ti => (match ti.arr with
  | some (n, sz, false) => Ywh cs fun kn ns => Yc (Nat.beq sz 1 && Nat.beq ns.length n) (Need (decide (0 <= i) && decide (i < (n : Int))) (k (.si kn (ns.getD i.toNat 0)) [] [] []))
  | _ => Stuck 392)
 | _, _ => D
def Yj7 (P : Program) (T : TypeId) (i : Nat) (s : AV) (k : KE) (D : Prop) : Prop :=
 match s with
 | .agg cs => (match P.underlying T with
  | some (.struct fs) => (match fs[i]? with | some f => subK P f.type cs f.offset fun x => k x [] [] [] | none => Stuck 393)
  | _ => Stuck 394)
 | _ => D
def Yd7 (c : Cx) (o : Oper) (tm : List AV) (hp : Heap) (k kp : KE) : Prop :=
 match o.op with
 | .binOp op T x y _ => evK tm x fun a => evK tm y fun b => Yvt c.P op T a b (fun v => k v [] [] []) (Ywl c op T a b hp k (Yc9 c o tm hp k kp))
 | .unOp op _ x => evK tm x fun a => Y0v op a (fun v => k v [] [] []) (Yc9 c o tm hp k kp)
 | .convert s d x => evK tm x fun a => Yrp c.P s d a (fun v => k v [] [] []) (Yc9 c o tm hp k kp)
 | .pick b x y => Yvo tm b x y (fun v => k v [] [] []) (Yc9 c o tm hp k kp)
 | .indexAddr T x ix => evK tm x fun s => evK tm ix fun j => Yvs c T s j hp k (Yc9 c o tm hp k kp)
 | .index T x ix => evK tm x fun s => evK tm ix fun j => Yj6 c T s j k (Yc9 c o tm hp k kp)
 | .field T x i => evK tm x fun s => Yj7 c.P T i s k (Yc9 c o tm hp k kp)
 | .load T x => evK tm x fun p => Yrj c T p hp k (Yc9 c o tm hp k kp)
 | .store T x y => evK tm x fun p => evK tm y fun v => Yn0 c T p v hp k (Yc9 c o tm hp k kp)
 | .fieldAddr T x i => evK tm x fun p => Yn5 c T i p k (Yc9 c o tm hp k kp)
 | .slice T x lo hi mx => evK tm x fun s => Yn2 c T tm s lo hi mx hp k (Yc9 c o tm hp k kp)
 | .makeSlice T x y => evK tm x fun x => evK tm y fun y => Yvq c T (3 * o.dst.getD 0) x y k (Yc9 c o tm hp k kp)
 | .nilCheck x => evK tm x fun p => Yvp p k (Yc9 c o tm hp k kp)
 | .lookup T x ix ok => evK tm x fun m => evK tm ix fun i => Ype c T ok m i hp k (Yc9 c o tm hp k kp)
 | .mapUpdate T x ix y => evK tm x fun m => evK tm ix fun i => evK tm y fun v => Ypa c T m i v hp k (Yc9 c o tm hp k kp)
 | .call cl => (match cl.callee with
  | .builtin b => (match b, cl.args.toList with
   | .len, [x] => evK tm x fun v => Yvr c cl.argTypes.toList v hp k (Yc9 c o tm hp k kp)
   | .min, [x, y] => evK tm x fun a => evK tm y fun b => Yyo false a b (fun v => k v [] [] []) (Yc9 c o tm hp k kp)
   | .max, [x, y] => evK tm x fun a => evK tm y fun b => Yyo true a b (fun v => k v [] [] []) (Yc9 c o tm hp k kp)
   | .append, [s, x] => evK tm s fun s => evK tm x fun x => (match Y14 s x hp with
    | true => (match cl.argTypes.toList with | [T, T'] => Yc (Nat.beq T T') (Ydq c T (3 * o.dst.getD 0) s x hp k) | _ => Stuck 358)
    | false => Yc9 c o tm hp k kp)
   | _, _ => Yc9 c o tm hp k kp)
  | _ => Yc9 c o tm hp k kp)
 | _ => Yc9 c o tm hp k kp
end Go.Proofs.Ytmogofidmchdoaa
namespace Go.Proofs.Ytmogofidmchdoaa
open Go.RowKit
variable [InW]
attribute [local irreducible] Go.Oper.wp
section
variable {P : Program} {tm : List AV} {dst : Option Tmp} {type : TypeId} {pos : String} {after : Array Edge} {guard : Option (Nat × Bool)}
theorem Yrq {op : BinOp} {T : TypeId} {a b : AV} {K : K1} {D : Prop} (h : Yvt P op T a b K D) (x y : Operand) : (∃ r, K r /\ ∀ φ, Yic P op T x y (a.conc φ) (b.conc φ) (r.conc φ)) \/ D := by
 unfold Yvt at h
 split at h
 ·exact .inl (Ylt h T x y)
 ·exact .inl (Ylt h T x y)
 ·exact .inl (Ylt h T x y)
 ·exact .inl (Ylu h x y)
 ·exact .inl (Ylu h x y)
 ·exact .inl (Ylu h x y)
 ·exact .inl (Yls h x y)
 ·exact .inl (Yls h x y)
 ·exact .inl (Yls h x y)
 ·exact .inl (Ylv h x y (fun φ => ⟨_, rfl⟩) (fun φ => ⟨_, rfl⟩))
 ·exact .inl (Ylv h x y (fun φ => ⟨_, rfl⟩) (fun φ => ⟨_, rfl⟩))
 ·exact .inl (Ylv h x y (fun φ => ⟨_, rfl⟩) (fun φ => ⟨_, rfl⟩))
 ·exact .inr h
theorem Y16 {op : UnOp} {T : TypeId} {x : Operand} {a r : AV} (hx : At tm x a) (ja : a.rd = true) (h : ∀ φ w, (Op.unary op (a.conc φ)).run P w = .ok (r.conc φ) w) : Does P { dst, op := .unOp op T x, type, pos, after, guard } tm [] r [] [] :=
 Does.pure fun φ ac ho w => by
  have e := ho x (by simp [Op.operands]) _ hx ja;unfold execOp;simp only [e, Sem.run_bind, h φ w, Result.andThen_ok, Sem.run_pure]
theorem Yt8 {op : UnOp} {a : AV} {K : K1} {D : Prop} (h : Y0v op a K D) : (∃ r, K r /\ a.rd = true /\ ∀ φ w, (Op.unary op (a.conc φ)).run P w = .ok (r.conc φ) w) \/ D := by
 unfold Y0v at h
 split at h
 ·split at h
  ·obtain ⟨h⟩ := h;exact .inl ⟨_, h, rfl, fun φ w => by simp [AV.conc, Op.unary, Op.intArith]⟩
  ·exact h.elim
 ·split at h
  ·exact .inl ⟨_, h, rfl, fun φ w => by simp [AV.conc, Op.unary]⟩
  ·exact h.elim
 ·exact .inr h
theorem Ypj {src dst' : TypeId} {a : AV} {K : K1} {D : Prop} (h : Yrp P src dst' a K D) : (∃ r, K r /\ a.rd = true /\ ∀ φ w, (convert src dst' (a.conc φ)).run P w = .ok (r.conc φ) w) \/ D := by
 unfold Yrp at h
 split at h
 ·split at h
  ·rename_i k1 k2 h1 h2;obtain ⟨h⟩ := h;exact .inl ⟨_, h, rfl, fun φ w => by simp [AV.conc, convert, Sem.run_bind, run_underlying h1 w, run_underlying h2 w, Conv.intToInt]⟩
  ·exact h.elim
 ·exact .inr h
theorem Y1l {c x y : Operand} {cv u v r : AV} {b : Bool} (hc : At tm c cv) (hcj : cv.rd = true) (hcv : ∀ φ, cv.conc φ = .bool b) (hx : At tm x u) (hxj : u.rd = true) (hy : At tm y v) (hyj : v.rd = true) (hr : ∀ φ, r.conc φ = if b then u.conc φ else v.conc φ) : Does P { dst, op := .pick c x y, type, pos, after, guard } tm [] r [] [] :=
 fun φ w0 M R a w K Q ho _ hS kk => by
  have e1 := ho.ev (x := c) (by simp [Op.operands]) hc hcj;rw [hcv φ] at e1;refine Y0i e1 (v := r.conc φ) ?_ (kk φ w (Agree.refl _ _) hS);rw [hr φ];cases b
  ·exact ho.ev (x := y) (by simp [Op.operands]) hy hyj
  ·exact ho.ev (x := x) (by simp [Op.operands]) hx hxj
theorem Ypc {cnd x y : Operand} {K : K1} {D : Prop} (h : Yvo tm cnd x y K D) : (∃ r, K r /\ Does P { dst, op := .pick cnd x y, type, pos, after, guard } tm [] r [] []) \/ D := by
 obtain ⟨cv, hcj, hc, h1⟩ := Yg h
 split at h1
 ·rename_i b;obtain ⟨u, hxj, hx, h2⟩ := Yg h1;obtain ⟨v, hyj, hy, h3⟩ := Yg h2;have fin : ∀ r : AV, K r -> (∀ φ, r.conc φ = if b then u.conc φ else v.conc φ) -> (∃ r, K r /\ Does P { dst, op := .pick cnd x y, type, pos, after, guard } tm [] r [] []) \/ D := fun r hk hr =>
   .inl ⟨r, hk, Y1l hc hcj (fun φ => rfl) hx hxj hy hyj hr⟩
  split at h3
  ·exact fin _ h3 fun φ => by cases b <;> rfl
  ·split at h3
   ·exact fin _ h3 fun φ => by cases b <;> rfl
   ·exact fin _ h3 fun φ => by cases b <;> rfl
  ·split at h3
   ·exact fin _ h3 fun φ => by cases b <;> rfl
   ·exact fin _ h3 fun φ => by cases b <;> rfl
  ·rcases h3.spec with ⟨rfl, h4⟩ | ⟨rfl, h4⟩
   ·exact fin _ h4 fun φ => rfl
   ·exact fin _ h4 fun φ => rfl
 ·exact .inr h1
def Res1 (P : Program) (o : Oper) (tm : List AV) (hp : Heap) (k : KE) : Prop := ∃ val hs us nw, k val hs us nw /\ PartOf hs hp /\ (∀ i ∈ keys us, i ∈ keys hs) /\ Does P o tm hs val us nw
theorem Y1 {hs : Heap} : ∀ i ∈ keys ([] : Heap), i ∈ keys hs := by intro i hi; simp [keys] at hi
theorem Yu9 {T : TypeId} {n sz m : Nat} {b : Bool} {x ix : Operand} {id : Nat} {kd : IntKind} {i : Int} (ht : (mkTI P T).arr = some (n, sz, b)) (hx : At tm x (.ptr id m)) (hi : At tm ix (.v (.int kd i))) (h0 : 0 <= i) (h1 : i < (n : Int)) :
  Does P { dst, op := .indexAddr T x ix, type, pos, after, guard } tm [] (.ptr id (m + i.toNat * sz)) [] [] :=
 Does.pure fun φ ac ho w => by
  obtain ⟨e, hu, hs, _⟩ := Ygd ht;have e1 := ho x (by simp [Op.operands]) _ hx (by simp);have e2 := ho ix (by simp [Op.operands]) _ hi (by simp);unfold execOp;simp only [Instr.indexAt, Instr.sureAddr, e1, e2, AV.conc, asIntOf, Sem.run_bind, Sem.run_pure, Result.andThen_ok, run_underlying hu w, h0, h1, and_self, if_true, Ybj hs, Yp]
theorem Ylk {T : TypeId} {n sz m : Nat} {b : Bool} {x ix : Operand} {id : Nat} {kd : IntKind} {i : Int} (ht : (mkTI P T).arr = some (n, sz, b)) (hx : At tm x (.ptr id m)) (hi : At tm ix (.si kd i)) (h0 : 0 <= i) (h1 : i < (n : Int)) :
  Does P { dst, op := .indexAddr T x ix, type, pos, after, guard } tm [] (.ptr id (m + i.toNat * sz)) [] [] :=
 Does.pure fun φ ac ho w => by
  obtain ⟨e, hu, hs, _⟩ := Ygd ht;have e1 := ho x (by simp [Op.operands]) _ hx (by simp);have e2 := ho ix (by simp [Op.operands]) _ hi (by simp);unfold execOp;simp only [Instr.indexAt, Instr.sureAddr, e1, e2, AV.conc, asIntOf, Sem.run_bind, Sem.run_pure, Result.andThen_ok, run_underlying hu w, h0, h1, and_self, if_true, Ybj hs, Yp]
theorem Yxu {T : TypeId} {n sz r : Nat} {b : Bool} {x ix : Operand} {id : Nat} {kd : IntKind} {i : Int} {j : AV} (ht : (mkTI P T).arr = some (n, 1, b)) (hx : At tm x (.ep id sz r 0)) (hi : At tm ix j) (hr : j.rd = true) (hc : ∀ φ, j.conc φ = .int kd i) (h0 : 0 <= i) (h1 : i < (n : Int)) :
  Does P { dst, op := .indexAddr T x ix, type, pos, after, guard } tm [] (.ep id sz r i.toNat) [] [] :=
 Does.pure fun φ ac ho w => by
  obtain ⟨e, hu, hs, _⟩ := Ygd ht;have e1 := ho x (by simp [Op.operands]) _ hx (by simp);have e2 := ho ix (by simp [Op.operands]) _ hi hr;rw [hc φ] at e2;unfold execOp;simp only [Instr.indexAt, Instr.sureAddr, e1, e2, AV.conc, asIntOf, Sem.run_bind, Sem.run_pure, Result.andThen_ok, run_underlying hu w, h0, h1, and_self, if_true, Ybj hs, Yp, Nat.add_zero, Nat.mul_one]
theorem Y1n {T T' : TypeId} {x : Operand} {id i : Nat} {cs : List AV} {kd : IntKind} {ns : List Int} (ha : Ygk P T false) (hx : At tm x (.ep id 1 i 0)) (hc : ∀ φ, AV.concL φ cs = ns.map (Value.int kd)) (hi : i < ns.length) : Does P { dst, op := .load T x, type, pos, after, guard } tm [(id, .blk T' cs)] (.si kd (ns.getD i 0)) [] [] :=
 fun φ w0 M R a w K Q ho _ hS kk => by
  have h2 := Ym (ho.ev (x := x) (by simp [Op.operands]) hx (by simp));simp only [AV.conc, Nat.mul_one, Nat.add_zero] at h2;have hv : ((It.blk T' cs).vals φ)[i]? = some (.int kd (ns.getD i 0)) := by
   simp [It.vals, hc φ, hi, List.getD_eq_getElem?_getD]
  unfold Oper.wp execOp;simp only [h2, Sem.run_bind, Yc2 ha (Ybf hS hv), Result.andThen_ok, Sem.run_pure, Oper.upon];exact kk φ w (Agree.refl _ _) hS
theorem Yzp {T T' : TypeId} {x y : Operand} {id i : Nat} {cs cs' : List AV} {v : AV} {kd : IntKind} {u : Int} {ns : List Int} (hs : Yb4 P T 1) (hx : At tm x (.ep id 1 i 0)) (hy : At tm y v) (hj : v.rd = true) (hv : ∀ φ, v.conc φ = .int kd u) (hc : ∀ φ, AV.concL φ cs = ns.map (Value.int kd)) (hi : i < ns.length) (hc' : ∀ φ, AV.concL φ cs' = (ns.map (Value.int kd)).set i (.int kd u)) :
  Does P { dst, op := .store T x y, type, pos, after, guard } tm [(id, .blk T' cs)] (.v undef) [(id, .blk T' cs')] [] :=
 fun φ w0 M R a w K Q ho _ hS kk => by
  have h2 := Ym (ho.ev (x := x) (by simp [Op.operands]) hx (by simp));have h3 := Ym (ho.ev (x := y) (by simp [Op.operands]) hy hj);simp only [AV.conc, Nat.mul_one, Nat.add_zero] at h2;rw [hv φ] at h3;refine Ypn (v := .int kd u) hS hs h2 h3 (by simp [Value.cells]) (fun w hw => by simp [Value.cells] at hw; subst hw; rfl) (by rw [hc φ]; simp; omega) fun w' hS' => ?_;have e : Yb8 (AV.concL φ cs).toArray i (Value.int kd u).cells.toList = (AV.concL φ cs').toArray := by
   apply Array.ext';rw [Ycx _ _ _ (by rw [hc φ]; simp [Value.cells]; omega), hc φ, hc' φ];rw [List.set_eq_take_append_cons_drop, if_pos (by simpa using hi)];simp [Value.cells]
  rw [e] at hS';exact kk φ w' (Agree.refl _ _) (by simpa [Yh, upd, Nat.beq_refl, Yb, It.conc] using hS')
theorem Yrm {c : Cx} (ht : TabOk c.P c.tt) {T : TypeId} {s j : AV} {x ix : Operand} {hp : Heap} {k : KE} {D : Prop} (hx : At tm x s) (hj : At tm ix j) (h : Yvs c T s j hp k D) : Res1 c.P { dst, op := .indexAddr T x ix, type, pos, after, guard } tm hp k \/ D := by
 unfold Yvs at h
 split at h
 ·rename_i ts r;rcases Yd0 h with ⟨kd, i, h1, hc, hr⟩ | h1
  ·have h2 := Yj ht h1
   split at h2
   ·rename_i e sz by_ zs hs;obtain ⟨h3, h4⟩ := Ya h2;obtain ⟨h5, h6⟩ := h4;simp only [Bool.and_eq_true, decide_eq_true_eq] at h5;exact .inl ⟨_, _, _, _, h6, .nil _, Y1, Yxt hs (Yd.1 h3) hx hj hr hc h5.1 h5.2⟩
   ·exact h2.elim
  ·exact h1.elim
 ·rename_i id;rcases Yd0 h with ⟨kd, i, h1, hc, hr⟩ | h1
  ·obtain ⟨it, hl, h2⟩ := Ye h1
   split at h2
   ·have h3 := Yj ht h2
    split at h3
    ·rename_i e sz by_ zs hs;obtain ⟨h4, h5⟩ := Ya h3;obtain ⟨h6, h7⟩ := h5;simp only [Bool.and_eq_true, decide_eq_true_eq, Nat.ble_eq, Yd] at h4 h6;exact .inl ⟨_, _, _, _, h7, .one hl, Y1, Yqy hs h4.1 (by omega) hx (.inl ⟨rfl, rfl⟩) hj hr hc h6.1 h6.2⟩
    ·exact h3.elim
   ·exact h2.elim
  ·exact h1.elim
 ·rename_i id off lo n;obtain ⟨it, hl, h2⟩ := Ye h
  split at h2
  ·rcases Yd0 h2 with ⟨kd, i, h1, hc, hr⟩ | h1
   ·have h3 := Yj ht h1
    split at h3
    ·rename_i e sz by_ zs hs;obtain ⟨h4, h5⟩ := Ya h3;obtain ⟨h6, h7⟩ := h5;simp only [Bool.and_eq_true, decide_eq_true_eq, Nat.ble_eq, Yd] at h4 h6;obtain ⟨⟨⟨h41, h42⟩, rfl⟩, rfl⟩ := h4;exact .inl ⟨_, _, _, _, h7, .one hl, Y1, Yqy hs h41 (by omega) hx (.inr ⟨rfl, h6.2⟩) hj hr hc h6.1.1 h6.1.2⟩
    ·exact h3.elim
   ·exact h1.elim
  ·exact .inr h2
 ·rename_i id sz' l n;obtain ⟨it, hl, h2⟩ := Ye h
  split at h2
  ·rcases Yd0 h2 with ⟨kd, i, h1, hc, hr⟩ | h1
   ·have h3 := Yj ht h1
    split at h3
    ·rename_i e sz by_ zs hs;obtain ⟨h4, h5⟩ := Ya h3;obtain ⟨h6, h7⟩ := h5;simp only [Bool.and_eq_true, decide_eq_true_eq, Nat.ble_eq, Yd] at h4 h6;obtain ⟨⟨h41, rfl⟩, h42⟩ := h4;exact .inl ⟨_, _, _, _, h7, .one hl, Y1, Yu8 hs h41 (by omega) hx h6.2 hj hr hc h6.1.1 h6.1.2⟩
    ·exact h3.elim
   ·exact h1.elim
  ·exact .inr h2
 ·rename_i id m
  split at h
  ·have h2 := Yj ht h
   split at h2
   ·rename_i n sz b hq;obtain ⟨h3, h4, h5⟩ := Yf4 h2;exact .inl ⟨_, _, _, _, h5, .nil _, Y1, Yu9 hq hx hj h3 h4⟩
   ·exact h2.elim
  ·have h2 := Yj ht h
   split at h2
   ·rename_i n sz b hq;obtain ⟨h3, h4⟩ := h2;simp only [Bool.and_eq_true, decide_eq_true_eq] at h3
    split at h4
    ·rename_i hb;simp only [Bool.and_eq_true, Yd] at hb;obtain ⟨_, rfl, rfl⟩ := hb;have hd := Ylk (dst := dst) (type := type) (pos := pos) (after := after) (guard := guard) hq hx hj h3.1 h3.2;refine .inl ⟨_, _, _, _, h4, .nil _, Y1, fun φ w0 M R ac w K Q ho hn hS kk => hd φ w0 M R ac w K Q ho hn hS fun φ' w' ha hS' => ?_⟩;have := kk φ' w' ha hS';simpa [AV.conc] using this
    ·have h5 := Ygw h4 (by omega) (by omega);rw [Int.natCast_zero, Int.sub_zero] at h5;exact .inl ⟨_, _, _, _, h5, .nil _, Y1, Ylk hq hx hj h3.1 h3.2⟩
   ·exact h2.elim
  ·exact h.elim
 ·rename_i id sz r o;rcases Yd0 h with ⟨kd, i, h1, hc, hr⟩ | h1
  ·have h2 := Yj ht h1
   split at h2
   ·rename_i n sz' b hq;obtain ⟨h3, h4⟩ := Ya h2;obtain ⟨h5, h6⟩ := h4;simp only [Bool.and_eq_true, Yd] at h3;obtain ⟨rfl, rfl⟩ := h3;simp only [Bool.and_eq_true, decide_eq_true_eq] at h5;exact .inl ⟨_, _, _, _, h6, .nil _, Y1, Yxu hq hx hj hr hc h5.1 h5.2⟩
   ·exact h2.elim
  ·exact h1.elim
 ·exact .inr h
theorem Ypf {c : Cx} (ht : TabOk c.P c.tt) {T : TypeId} {p : AV} {x : Operand} {hp : Heap} {k : KE} {D : Prop} (hx : At tm x p) (h : Yrj c T p hp k D) : Res1 c.P { dst, op := .load T x, type, pos, after, guard } tm hp k \/ D := by
 unfold Yrj at h
 split at h
 ·have h1 := Yj ht h
  split at h1
  ·rename_i ha;obtain ⟨h2, h3⟩ := Ya h1;obtain ⟨h4, h5⟩ := h3;exact .inl ⟨_, _, _, _, h5, .nil _, Y1, Yxr (Yc0 ha) hx (of_decide_eq_true h4) (by simpa [Nat.blt_eq] using h2)⟩
  ·rename_i ha
   split at h1
   ·rename_i n hn;obtain ⟨h2, h3⟩ := Ya h1;obtain ⟨h4, h5⟩ := h3;exact .inl ⟨_, _, _, _, h5, .nil _, Y1, Yxq (Yc0 ha) (Yb5 hn) hx (of_decide_eq_true h4) (by simpa [Nat.ble_eq] using h2)⟩
   ·exact h1.elim
  ·exact h1.elim
 ·obtain ⟨it, hl, h0⟩ := Ye h
  split at h0
  ·obtain ⟨hz, h00⟩ := Ya h0;simp only [Bool.and_eq_true, Yd] at hz;obtain ⟨rfl, rfl⟩ := hz;have h1 := Yj ht h00
   split at h1
   ·rename_i ha;obtain ⟨kd, ns, h2, h3, h4⟩ := Yim h1;obtain ⟨h5, h6⟩ := h2;exact .inl ⟨_, _, _, _, h6, .one hl, Y1, Y1n (Yc0 ha) hx h4 (of_decide_eq_true h5)⟩
   ·exact h1.elim
  ·obtain ⟨hz, h00⟩ := Ya h0;obtain rfl := Yd.1 hz;have h1 := Yj ht h00
   split at h1
   ·rename_i ha
    split at h1
    ·rename_i kd hk;obtain ⟨h2, h3⟩ := h1;simp only [Bool.and_eq_true, decide_eq_true_eq] at h2;have hd := fun T'' => Yqw (T' := T'') (dst := dst) (type := type) (pos := pos) (after := after) (guard := guard) (Yc0 ha) hx h2.2 h2.1;rw [Yvl hk _ h2.1] at hd;exact .inl ⟨_, _, _, _, h3, .one hl, Y1, hd _⟩
    obtain ⟨h2, h3⟩ := Ya h1;obtain ⟨h4, h5⟩ := h3;exact .inl ⟨_, _, _, _, h5, .one hl, Y1, Yqw (Yc0 ha) hx (of_decide_eq_true h4) (by simpa [Nat.blt_eq] using h2)⟩
   ·rename_i ha
    split at h1
    ·rename_i n hn;obtain ⟨h2, h3⟩ := Ya h1;obtain ⟨h4, h5⟩ := h3;exact .inl ⟨_, _, _, _, h5, .one hl, Y1, Yxs (Yc0 ha) (Yb5 hn) hx (of_decide_eq_true h4) (by simpa [Nat.ble_eq] using h2)⟩
    ·exact h1.elim
   ·exact h1.elim
  ·exact h0.elim
 ·exact .inr h
theorem Yrh {ts : List Ty} {xs : Dt} {i j n : Nat} {vs : List AV} {K : List Cl -> Prop} (hn : vs.length = n) (hj : j + n <= ts.length) (h : Yvn ts xs i j n vs K) :
  ∃ row, K row /\ ∀ φ, Yw ts row = (Yw ts (xs.getD i [])).take j ++ AV.concL φ vs ++ (Yw ts (xs.getD i [])).drop (j + n) := by
 have key : (Yiw ts j fun t1 => Yhb t1 n fun t2 => clsK t2 vs fun cs => K (Ybt (xs.getD i []) j cs)) -> ∃ row, K row /\ ∀ φ, Yw ts row = (Yw ts (xs.getD i [])).take j ++ AV.concL φ vs ++ (Yw ts (xs.getD i [])).drop (j + n) := fun h => by
  obtain ⟨h1, h2⟩ := Ybw h;obtain ⟨h3, h4⟩ := Ybq h2;obtain ⟨cs, h5, h6, h7, h8, _⟩ := Yf2 h4;have hl : ((ts.drop j).take n).length = n := by simp; omega
  refine ⟨_, h5, fun φ => ?_⟩;rw [Ymj ts _ j cs (by omega), h7, hl, h6 φ]
 unfold Yvn at h;cases j with
 | zero =>
  cases hb : Nat.beq n ts.length with
  | true =>
   rw [hb] at h;have e := Yd.1 hb;obtain ⟨cs, h1, h2, h3, h4, _⟩ := Yf2 h;refine ⟨cs, h1, fun φ => ?_⟩;rw [h2 φ, Nat.zero_add, List.drop_eq_nil_of_le (by rw [Ybn]; omega)];simp
  | false => rw [hb] at h; exact key h
 | succ j => exact key h
theorem Ynz {c : Cx} (ht : TabOk c.P c.tt) {T : TypeId} {p v : AV} {x y : Operand} {hp : Heap} {k : KE} {D : Prop} (hx : At tm x p) (hy : At tm y v) (hj : v.rd = true) (h : Yn0 c T p v hp k D) : Res1 c.P { dst, op := .store T x y, type, pos, after, guard } tm hp k \/ D := by
 unfold Yn0 at h
 split at h
 ·obtain ⟨it, hl, h0⟩ := Ye h
  split at h0
  ·obtain ⟨hz, h00⟩ := Ya h0;simp only [Bool.and_eq_true, Yd] at hz;obtain ⟨rfl, rfl⟩ := hz;have h1 := Yj ht h00
   split at h1
   ·rename_i n hn;rcases Yd0 h1 with ⟨kv, u, h2, hc, hr⟩ | h2
    ·obtain ⟨kd, ns, h3, h4, h5⟩ := Yim h2;obtain ⟨h6, h7⟩ := Ya h3;simp only [Bool.and_eq_true, Yd, decide_eq_true_eq] at h6;obtain ⟨rfl, rfl⟩ := h6;obtain ⟨h8, h9⟩ := h7;obtain ⟨cs', g1, g2, g3, g4, g5⟩ := Ymp h9;exact .inl ⟨_, _, _, _, g1, .one hl, fun i hi => by simpa [keys] using hi, Yzp (Yb5 hn) hx hy hj hc h5 (of_decide_eq_true h8) fun φ => by have := g5 φ; simpa using this⟩
    ·exact h2.elim
   ·exact h1.elim
  ·obtain ⟨hz, h00⟩ := Ya h0;obtain rfl := Yd.1 hz;have h1 := Yj ht h00
   split at h1
   ·rename_i n hn;obtain ⟨vs, h2, hc, _⟩ := Ycu h1;obtain ⟨h3, h4⟩ := Ya h2;simp only [Bool.and_eq_true, Nat.ble_eq] at h3;obtain ⟨⟨⟨h31, h32⟩, h33⟩, h34⟩ := h3;obtain ⟨row, h5, h6⟩ := Yrh (Y7 h31) h34 h4;obtain ⟨h7, h8⟩ := h5;exact .inl ⟨_, _, _, _, h8, .one hl, fun i hi => by simpa [keys] using hi, Yxn (Yb5 hn) hx hy hj hc (Y7 h31) (by omega) h32 (of_decide_eq_true h7) h34 h6⟩
   ·exact h1.elim
  ·exact h0.elim
 ·exact .inr h
theorem Yma {c : Cx} (ht : TabOk c.P c.tt) {T : TypeId} {s j : AV} {x ix : Operand} {hp : Heap} {k : KE} {D : Prop} (hx : At tm x s) (hj : At tm ix j) (h : Yj6 c T s j k D) : Res1 c.P { dst, op := .index T x ix, type, pos, after, guard } tm hp k \/ D := by
 unfold Yj6 at h
 split at h
 ·rename_i cs kd i;have h1 := Yj ht h
  split at h1
  ·rename_i n sz hq;obtain ⟨kn, ns, h2, h3, h4⟩ := Yim h1;obtain ⟨h5, h6⟩ := Ya h2;simp only [Bool.and_eq_true, Yd] at h5;obtain ⟨rfl, h5⟩ := h5;obtain ⟨h7, h8⟩ := h6;simp only [Bool.and_eq_true, decide_eq_true_eq] at h7;refine .inl ⟨_, _, _, _, h8, .nil _, Y1, Does.pure fun φ a ho w => ?_⟩;obtain ⟨e, hu, hs, hb⟩ := Ygd hq;have e1 := ho x (by simp [Op.operands]) _ hx (by simp);have e2 := ho ix (by simp [Op.operands]) _ hj (by simp);simp only [AV.conc] at e1 e2;have hv : (AV.concL φ cs).toArray[i.toNat * 1]? = some (.int kn (ns.getD i.toNat 0)) := by
    have hi : i.toNat < ns.length := by omega
    simp [h4 φ, hi, List.getD_eq_getElem?_getD]
   simp only [execOp, Instr.index, e1, e2, asIntOf, Sem.run_bind, Sem.run_pure, Result.andThen_ok, run_underlying hu w, h7.1, h7.2, and_self, if_true, Ybj hs, part, Ydt hb, Bool.false_eq_true, if_false, hv, AV.conc]
  ·exact h1.elim
 ·exact .inr h
theorem Ymb {P : Program} {T : TypeId} {i : Nat} {s : AV} {x : Operand} {hp : Heap} {k : KE} {D : Prop} (hx : At tm x s) (h : Yj7 P T i s k D) : Res1 P { dst, op := .field T x i, type, pos, after, guard } tm hp k \/ D := by
 unfold Yj7 at h
 split at h
 ·rename_i cs
  split at h
  ·rename_i fs hu
   split at h
   ·rename_i f hf;obtain ⟨v, h1, h2⟩ := Yfb h;refine .inl ⟨_, _, _, _, h1, .nil _, Y1, Does.pure fun φ a ho w => ?_⟩;have e1 := ho x (by simp [Op.operands]) _ hx (by simp);simp only [AV.conc] at e1;simp only [execOp, Instr.field, e1, Sem.run_bind, Sem.run_pure, Result.andThen_ok, run_underlying hu w, hf, asAgg, h2 φ w]
   ·exact h.elim
  ·exact h.elim
 ·exact .inr h
theorem Yn4 {c : Cx} (ht : TabOk c.P c.tt) {T : TypeId} {i : Nat} {p : AV} {x : Operand} {hp : Heap} {k : KE} {D : Prop} (hx : At tm x p) (h : Yn5 c T i p k D) : Res1 c.P { dst, op := .fieldAddr T x i, type, pos, after, guard } tm hp k \/ D := by
 unfold Yn5 at h
 split at h
 ·have h1 := Yj ht h;obtain ⟨f, h2, h3⟩ := Y8 h1
  split at h3
  ·exact .inl ⟨_, _, _, _, Yfy.1 h3, .nil _, Y1, Yxv (Yel h2) hx⟩
  ·exact h3.elim
 ·have h1 := Yj ht h;obtain ⟨f, h2, h3⟩ := Y8 h1
  split at h3
  ·exact .inl ⟨_, _, _, _, Yfy.1 h3, .nil _, Y1, Yqz (Yel h2) hx⟩
  ·exact h3.elim
 ·exact .inr h
theorem Yrk {c : Cx} (ht : TabOk c.P c.tt) {tys : Array TypeId} {v : AV} {x : Operand} {hp : Heap} {k : KE} {D : Prop} (hx : At tm x v) (hj : v.rd = true) (h : Yvr c tys.toList v hp k D) :
  Res1 c.P { dst, op := .call { callee := .builtin .len, args := #[x], argTypes := tys }, type, pos, after, guard } tm hp k \/ D := by
 obtain ⟨tys⟩ := tys;unfold Yvr at h
 split at h
 ·rename_i ts r
  split at h
  ·rename_i T hT;have hT : tys = [T] := hT;subst hT;have h1 := Yj ht h
   split at h1
   ·rename_i q hq;obtain ⟨e, sz, by_, zs⟩ := q;refine .inl ⟨_, _, _, _, h1, .nil _, Y1, Yg4 hq hx hj fun φ w0 M R w hS => ?_⟩;obtain ⟨A, c, hv, _⟩ := r.inv;exact ⟨A, c, hv⟩
   ·exact h1.elim
  ·exact h.elim
 ·rename_i id;obtain ⟨it, hl, h0⟩ := Ye h
  split at h0
  ·split at h0
   ·rename_i T hT;have hT : tys = [T] := hT;subst hT;have h1 := Yj ht h0
    split at h1
    ·rename_i q hq;obtain ⟨e, sz, by_, zs⟩ := q;obtain ⟨h2, h3⟩ := Ya h1;refine .inl ⟨_, _, _, _, h3, .one hl, Y1, Yg4 hq hx hj fun φ w0 M R w hS => ?_⟩;have := (Yiz (Nat.le_of_ble_eq_true h2) (by simpa [Yb] using hS)).1;exact ⟨_, _, by simp only [AV.conc, this]; rfl⟩
    ·exact h1.elim
   ·exact h0.elim
  ·exact h0.elim
 ·rename_i id off lo n;obtain ⟨it, hl, h0⟩ := Ye h
  split at h0
  ·split at h0
   ·rename_i T hT;have hT : tys = [T] := hT;subst hT;have h1 := Yj ht h0
    split at h1
    ·rename_i q hq;obtain ⟨e, sz, by_, zs⟩ := q;exact .inl ⟨_, _, _, _, h1, .nil _, Y1, Yg4 hq hx hj fun φ w0 M R w hS => ⟨_, _, rfl⟩⟩
    ·exact h1.elim
   ·exact h0.elim
  ·exact .inr h0
 ·split at h
  ·rename_i T hT;have hT : tys = [T] := hT;subst hT;have h1 := Yj ht h
   split at h1
   ·rename_i q hq;obtain ⟨e, sz, by_, zs⟩ := q;exact .inl ⟨_, _, _, _, h1, .nil _, Y1, Yg4 hq hx hj fun φ w0 M R w hS => ⟨_, _, rfl⟩⟩
   ·exact h1.elim
  ·exact h.elim
 ·exact .inr h
def mmB : Bool -> Builtin
 | true => .max
 | false => .min
theorem d_mm {mx : Bool} {x y : Operand} {a b : AV} {k : IntKind} {m n : Int} (hx : At tm x a) (hxj : a.rd = true) (hy : At tm y b) (hyj : b.rd = true) (ha : ∀ φ, a.conc φ = .int k m) (hb : ∀ φ, b.conc φ = .int k n) (tys : Array TypeId) :
  Does P { dst, op := .call { callee := .builtin (mmB mx), args := #[x, y], argTypes := tys }, type, pos, after, guard } tm [] (.si k (match mx with | true => max m n | false => min m n)) [] [] :=
 Does.pure fun φ ac ho w => by
  have e1 := ho x (by simp [Op.operands, Call.operands]) _ hx hxj;have e2 := ho y (by simp [Op.operands, Call.operands]) _ hy hyj;rw [ha φ] at e1;rw [hb φ] at e2;unfold execOp;cases mx with
  | true =>
   have e : (if m < n then n else m) = max m n := by rw [Int.max_def]; split <;> split <;> omega
   simp only [mmB, resolve, invoke, builtin, Sem.run_bind, Sem.run_pure, Result.andThen_ok, List.map_toArray, List.map_cons, List.map_nil, e1, e2, run_max_int2, AV.conc, e]
  | false =>
   have e : (if n < m then n else m) = min m n := by rw [Int.min_def]; split <;> split <;> omega
   simp only [resolve, invoke, builtin, Sem.run_bind, Sem.run_pure, Result.andThen_ok, List.map_toArray, List.map_cons, List.map_nil, e1, e2, run_min_int2, AV.conc, e, mmB]
theorem Yml {mx : Bool} {a b : AV} {x y : Operand} {K : K1} {D : Prop} (hx : At tm x a) (hxj : a.rd = true) (hy : At tm y b) (hyj : b.rd = true) (tys : Array TypeId) (h : Yyo mx a b K D) :
  (∃ r, K r /\ Does P { dst, op := .call { callee := .builtin (mmB mx), args := #[x, y], argTypes := tys }, type, pos, after, guard } tm [] r [] []) \/ D := by
 unfold Yyo at h
 split at h
 ·obtain ⟨h1, h2⟩ := Ya h;obtain rfl := of_decide_eq_true h1;exact .inl (by cases mx <;> exact ⟨_, h2, d_mm hx hxj hy hyj (fun φ => rfl) (fun φ => rfl) tys⟩)
 ·obtain ⟨h1, h2⟩ := Ya h;obtain rfl := of_decide_eq_true h1;exact .inl (by cases mx <;> exact ⟨_, h2, d_mm hx hxj hy hyj (fun φ => rfl) (fun φ => rfl) tys⟩)
 ·obtain ⟨h1, h2⟩ := Ya h;obtain rfl := of_decide_eq_true h1;exact .inl (by cases mx <;> exact ⟨_, h2, d_mm hx hxj hy hyj (fun φ => rfl) (fun φ => rfl) tys⟩)
 ·exact .inr h
theorem Ycw {x : Option Operand} {dflt : Nat} {K : Nat -> Prop} (h : Yjc tm x dflt K) : ∃ n, K n /\ BoundS tm x dflt n := by
 unfold Yjc at h
 split at h
 ·exact ⟨_, h, rfl⟩
 ·rename_i x;obtain ⟨v, hj, hx, h1⟩ := Yg h
  split at h1
  ·exact ⟨_, h1, _, _, hx, hj, fun φ => rfl⟩
  ·rename_i k i;obtain ⟨h2, h3⟩ := h1;have := of_decide_eq_true h2;exact ⟨_, h3, _, _, hx, hj, fun φ => show Value.int k i = .int k ((i.toNat : Nat) : Int) by rw [Int.toNat_of_nonneg this]⟩
  ·exact h1.elim
theorem Yn1 {c : Cx} (ht : TabOk c.P c.tt) {T : TypeId} {s : AV} {x : Operand} {lo hi mx : Option Operand} {hp : Heap} {k : KE} {D : Prop} (hx : At tm x s) (h : Yn2 c T tm s lo hi mx hp k D) : Res1 c.P { dst, op := .slice T x lo hi mx, type, pos, after, guard } tm hp k \/ D := by
 unfold Yn2 at h
 split at h
 ·split at h
  ·have h1 := Yj ht h
   split at h1
   ·rename_i e sz by_ zs hs;obtain ⟨h2, h3⟩ := Ya h1;obtain ⟨l, h4, hl⟩ := Ycw h3;obtain ⟨hh, h5, hhi⟩ := Ycw h4;obtain ⟨h6, h7⟩ := h5;simp only [Bool.and_eq_true, decide_eq_true_eq] at h6;exact .inl ⟨_, _, _, _, h7, .nil _, Y1, Yxp hs (Yd.1 h2) hx hl hhi h6.1 h6.2⟩
   ·exact h1.elim
  ·rename_i m
   split at h
   ·have h1 := Yj ht h
    split at h1
    ·rename_i e sz by_ zs hs;obtain ⟨h2, h3⟩ := Ya h1;obtain ⟨l, h4, hl⟩ := Ycw h3;obtain ⟨hh, h5, hhi⟩ := Ycw h4;obtain ⟨h6, h7⟩ := Ya h5;simp only [Bool.and_eq_true, Yd] at h6;obtain ⟨rfl, rfl⟩ := h6;cases hi with
     | none => exact absurd hl (by simp [BoundS])
     | some hi => exact .inl ⟨_, _, _, _, h7, .nil _, Y1, Yzs hs hx hl hhi⟩
    ·exact h1.elim
   ·exact h.elim
 ·rename_i id;obtain ⟨it, hl, h0⟩ := Ye h
  split at h0
  ·split at h0
   ·have h1 := Yj ht h0
    split at h1
    ·rename_i e sz by_ zs hs;obtain ⟨h2, h3⟩ := Ya h1;simp only [Bool.and_eq_true, Nat.ble_eq, Yd] at h2;obtain ⟨l, h4, hlo⟩ := Ycw h3;obtain ⟨hh, h5, hhi⟩ := Ycw h4;obtain ⟨h6, h7⟩ := h5;simp only [Bool.and_eq_true, decide_eq_true_eq] at h6;exact .inl ⟨_, _, _, _, h7, .one hl, Y1, Yxo hs h2.1 (by omega) hx hlo hhi h6.1 h6.2⟩
    ·exact h1.elim
   ·exact h0.elim
  ·exact .inr h0
 ·exact .inr h
theorem Y3 : ∀ {ts us : List Ty}, Ycc.sameTs ts us = true -> ts = us /\ ∀ k, ∀ ts', tyAt ts k ≠ .sl ts'
 | [], [], _ => ⟨rfl, fun k ts' h => by cases h⟩
 | t :: ts, u :: us, h => by
  unfold Ycc.sameTs at h
  split at h
  ·rename_i h1;obtain ⟨h2, h3⟩ := Y3 h;have e : t = u /\ ∀ ts', t ≠ .sl ts' := by
    cases t <;> cases u <;> simp_all [Ycc.sameTy]
   refine ⟨by rw [e.1, h2], fun k ts' => ?_⟩;cases k with
   | zero => exact e.2 ts'
   | succ k => exact h3 k ts'
  ·cases h
 | [], _ :: _, h => by simp [Ycc.sameTs] at h
 | _ :: _, [], h => by simp [Ycc.sameTs] at h
theorem Yis {ts : List Ty} {xs : Dt} (hts : 0 < ts.length) {j : Nat} {u : Value} (h : (Yq ts xs)[j]? = some u) : ∃ i k, i < xs.length /\ k < ts.length /\ j = i * ts.length + k /\ u = (tyAt ts k).val (cel xs i k) := by
 have hj : j < xs.length * ts.length := by rw [<- Y2]; exact (List.getElem?_eq_some_iff.1 h).1
 have hi : j / ts.length < xs.length := (Nat.div_lt_iff_lt_mul hts).2 hj;have hk : j % ts.length < ts.length := Nat.mod_lt _ hts;have e : j = j / ts.length * ts.length + j % ts.length := by rw [Nat.mul_comm]; exact (Nat.div_add_mod j ts.length).symm
 refine ⟨_, _, hi, hk, e, ?_⟩;rw [e, Yh2 ts xs _ _ hi hk, List.getElem?_eq_getElem hk, Option.map_some, Option.some.injEq] at h;rw [<- h, Ydp, List.getD_eq_getElem?_getD, List.getElem?_eq_getElem hk, Option.getD_some]
theorem RdV.scalar {t : Ty} {u : Value} {c : Cl} (h : RdV t u c) (ht : ∀ ts, t ≠ .sl ts) : u = t.val c := by
 cases t with
 | int k => exact h.isInt
 | bool => exact h.isBool
 | str => exact h.isStr
 | sl ts => exact absurd rfl (ht ts)
theorem srcRo {ts : List Ty} (hts : 0 < ts.length) (hsc : ∀ k ts', tyAt ts k ≠ .sl ts') (r : Ro ts) (hs : Heap) : Yl2 (.rs ts r) hs ts r.xs := fun φ w0 M R w hS => by
 obtain ⟨A, c, hv, _, _, u, h1, _⟩ := r.inv;refine ⟨A, c, hv, ?_⟩;rcases Nat.eq_zero_or_pos r.xs.length with h0 | h0
 ·exact .inl h0
 ·obtain ⟨b, off, rfl, hb, _⟩ := h1 (fun e => by rw [e] at h0; simp at h0);refine .inr ⟨b, off, rfl, fun j u hu => ?_⟩;obtain ⟨i, k, hi, hk, rfl, rfl⟩ := Yis hts hu;have h2 := r.cell hi hk;rw [<- (r.ok i k).scalar (hsc k)];have := Yw8 hS h2.2 h2.1;rwa [hv] at this
theorem Yvw {ts : List Ty} (hts : 0 < ts.length) {T id n : Nat} {xs : Dt} {x : AV} (h : OwnSl T ts xs id n x) : Yl2 x [(id, .arr T ts xs)] ts (xs.take n) := fun φ w0 M R w hS => by
 have hS' : St w0 M ((It.arr T ts xs).conc φ id :: R) w := by simpa [Yb] using hS
 obtain ⟨hc, hn⟩ := h.conc hts hS';have hl : (xs.take n).length = n := by simp; omega
 refine ⟨_, _, by rw [hc, hl], ?_⟩;rcases Nat.eq_zero_or_pos n with h0 | h0
 ·exact .inl (by rw [hl, h0])
 ·rw [Yer hts (by omega) hS'];refine .inr ⟨_, _, rfl, fun j u hu => ?_⟩;obtain ⟨i, k, hi, hk, rfl, rfl⟩ := Yis hts hu;rw [hl] at hi;have e : cel (xs.take n) i k = cel xs i k := by
   have : (xs.take n).getD i [] = xs.getD i [] := by simp only [List.getD_eq_getElem?_getD, List.getElem?_take, if_pos hi]
   unfold cel; rw [this]
  rw [Nat.zero_add, e, <- Yfh φ];exact Ybf hS' (Yjs (T := T) (by omega) hk φ)
theorem Y0e {ts : List Ty} (hts : 0 < ts.length) {T id l n : Nat} {xs : Dt} (hl : l + n <= xs.length) : Yl2 (.rwp id ts.length l n) [(id, .arr T ts xs)] ts ((xs.drop l).take n) := fun φ w0 M R w hS => by
 have hS' : St w0 M ((It.arr T ts xs).conc φ id :: R) w := by simpa [Yb] using hS
 have hlen : ((xs.drop l).take n).length = n := by simp; omega
 rcases Nat.eq_zero_or_pos n with h0 | h0
 ·refine ⟨_, _, by rw [hlen]; rfl, .inl (by rw [hlen, h0])⟩
 ·refine ⟨_, _, by rw [Yn8 hts hS' hl h0, hlen], .inr ⟨_, _, rfl, fun j u hu => ?_⟩⟩;obtain ⟨i, k, hi, hk, rfl, rfl⟩ := Yis hts hu;rw [hlen] at hi;have e : cel ((xs.drop l).take n) i k = cel xs (l + i) k := by
   have : ((xs.drop l).take n).getD i [] = xs.getD (l + i) [] := by simp only [List.getD_eq_getElem?_getD, List.getElem?_take, if_pos hi, List.getElem?_drop]
   unfold cel; rw [this]
  rw [e, <- Yfh φ, <- Nat.add_assoc, <- Nat.add_mul];exact Ybf hS' (Yjs (T := T) (by omega) hk φ)
theorem Yrs {x : AV} {hs : Heap} {ts : List Ty} (h : ∀ φ, ∃ A c, x.conc φ = .slice A 0 c) : Yl2 x hs ts [] := fun φ w0 M R w hS => by
 obtain ⟨A, c, e⟩ := h φ;exact ⟨A, c, e, .inl rfl⟩
theorem Yeu {ts : List Ty} (hts : 0 < ts.length) {x : AV} {hp : Heap} {K : Heap -> Dt -> Prop} (h : Ycc ts x hp K) : ∃ hs ys, K hs ys /\ PartOf hs hp /\ Yl2 x hs ts ys := by
 unfold Ycc at h
 split at h
 ·rename_i A n c;obtain ⟨h1, h2⟩ := Ya h;obtain rfl := Yd.1 h1;exact ⟨_, _, h2, .nil _, Yrs fun φ => ⟨_, _, rfl⟩⟩
 ·exact ⟨_, _, h, .nil _, Yrs fun φ => ⟨_, _, rfl⟩⟩
 ·obtain ⟨h1, h2⟩ := Ya h;obtain ⟨rfl, h3⟩ := Y3 h1;exact ⟨_, _, h2, .nil _, srcRo hts h3 _ _⟩
 ·obtain ⟨it, hl, h0⟩ := Ye h
  split at h0
  ·rename_i xs;obtain ⟨h1, h2⟩ := Ya h0;obtain ⟨e, h3⟩ := Y3 h1;subst e;refine ⟨_, _, h2, .one hl, ?_⟩;have key : ∀ (T id : Nat) (ts : List Ty), 0 < ts.length -> Yl2 (.rw id) [(id, .arr T ts xs)] ts xs := fun T id ts hts => by
    have := Yvw hts (T := T) (id := id) (n := List.length xs) (xs := xs) (x := .rw id) (.inl ⟨rfl, rfl⟩);rwa [List.take_length] at this
   exact key _ _ _ hts
  ·exact h0.elim
 ·rename_i id off lo m;obtain ⟨it, hl, h0⟩ := Ye h
  split at h0
  ·split at h0
   ·rename_i hm;obtain rfl := Yd.1 hm;exact ⟨_, _, h0, .nil _, Yrs fun φ => ⟨_, _, rfl⟩⟩
   ·obtain ⟨news, h1, h2, h3, h4⟩ := Ygb h0;obtain ⟨ys, h5, h6, h7, _⟩ := Yde h1;refine ⟨_, _, h5, .one hl, fun φ w0 M R w hS => ?_⟩;have hS' := (by simpa [Yb] using hS : St w0 M ((It.row _ _ _ _).conc φ id :: R) w);have hnil := Ybm h2 φ id w0 M R w hS';refine ⟨_, _, by simp only [AV.conc, hnil, Bool.false_eq_true, if_false, h6]; rfl, .inr ⟨_, _, rfl, fun j u hu => ?_⟩⟩;exact Ybf hS' (h3 φ j u (by rw [h7 φ]; exact hu))
  ·obtain ⟨h1, h2⟩ := Ya h0;simp only [Bool.and_eq_true, Yd] at h1;obtain ⟨⟨h11, rfl⟩, rfl⟩ := h1;obtain ⟨rfl, h3⟩ := Y3 h11;obtain ⟨h4, h5⟩ := h2;exact ⟨_, _, h5, .one hl, Yvw hts (.inr ⟨rfl, of_decide_eq_true h4⟩)⟩
  ·exact h0.elim
 ·rename_i id sz' l m;obtain ⟨it, hl, h0⟩ := Ye h
  split at h0
  ·obtain ⟨h1, h2⟩ := Ya h0;simp only [Bool.and_eq_true, Yd] at h1;obtain ⟨h11, rfl⟩ := h1;obtain ⟨rfl, h3⟩ := Y3 h11;obtain ⟨h4, h5⟩ := h2;exact ⟨_, _, h5, .one hl, Y0e hts (of_decide_eq_true h4)⟩
  ·exact h0.elim
 ·exact h.elim
theorem Ydj {id : Nat} {it : It} : ∀ {hs : Heap}, Ydq.disjB hs [(id, it)] = true -> id ∉ keys hs
 | [], _ => by simp [keys]
 | p :: hs, h => by
  unfold Ydq.disjB at h
  split at h
  ·rename_i h1;have h2 := Ydj h;simp only [keys, List.map_cons, List.mem_cons, not_or];refine ⟨fun e => ?_, h2⟩;rw [Yn] at h1;simp [e] at h1
  ·cases h
theorem PartOf.cons {hs hp : Heap} {id : Nat} {it : It} (h : PartOf hs hp) (hl : look hp id = some it) (hn : id ∉ keys hs) : PartOf ((id, it) :: hs) hp :=
 ⟨by simp only [keys, List.map_cons, List.nodup_cons]; exact ⟨hn, h.nd⟩, fun p hp => by
  rcases List.mem_cons.1 hp with rfl | hp
  ·exact hl
  ·exact h.all p hp⟩
theorem Ydw {n b : Nat} (h : n * b <= 140737488355328) (hb : 1 <= b) : n <= maxLen := by
 have : n * 1 <= n * b := Nat.mul_le_mul_left _ hb;unfold maxLen;omega
theorem Ymd {c : Cx} (ht : TabOk c.P c.tt) {T : TypeId} {sv xv : AV} {s x : Operand} {hp : Heap} {k : KE} {id' : Nat} (hsv : At tm s sv) (hsj : sv.rd = true) (hx : At tm x xv) (hxj : xv.rd = true) (h : Ydq c T id' sv xv hp k) :
  Res1 c.P { dst, op := .call { callee := .builtin .append, args := #[s, x], argTypes := #[T, T] }, type, pos, after, guard } tm hp k := by
 have h1 := Yj ht h
 split at h1
 ·exact h1.elim
 ·rename_i e sz by_ zs hs;obtain ⟨h2, h3⟩ := Ya h1;simp only [Bool.and_eq_true, Nat.ble_eq] at h2;obtain ⟨⟨h21, h22⟩, h23⟩ := h2;have hz := Y7 h21
  split at h3
  ·obtain ⟨ts, h4, h5, _⟩ := Yha h3;have hsz : sz = ts.length := by omega
   subst hsz;obtain ⟨hs', ys, h6, h7, h8⟩ := Yeu h22 h4;obtain ⟨h9, h10⟩ := h6;have h9 := of_decide_eq_true h9;exact ⟨_, _, _, _, h10, h7, Y1, Yx0 hs hz h22 hsv hx hxj h8 (Ydw h9 h23) h9⟩
  ·rename_i ts' q;obtain ⟨ts, h4, h5, _⟩ := Yha h3;have hsz : sz = ts.length := by omega
   subst hsz;obtain ⟨hs', ys, h6, h7, h8⟩ := Yeu h22 h4;obtain ⟨h9, h10⟩ := h6;simp only [Bool.and_eq_true, decide_eq_true_eq] at h9;exact ⟨_, _, _, _, h10, h7, Y1, Yxy hs hz h22 hsv h9.1.1.1 h9.1.1.2 hx hxj h8 h9.1.2 (Ydw h9.2 h23) h9.2⟩
  ·rename_i id;obtain ⟨it, hl, h4⟩ := Ye h3
   split at h4
   ·rename_i T' ts xs;obtain ⟨h5, h6⟩ := Ya h4;simp only [Bool.and_eq_true, Yd] at h5;obtain ⟨rfl, rfl⟩ := h5;obtain ⟨hs', ys, h7, h8, h9⟩ := Yeu h22 h6;obtain ⟨h10, h11⟩ := Ya h7;obtain ⟨h12, h13⟩ := h11;have h12 := of_decide_eq_true h12;have hne := Ydj h10;exact ⟨_, _, _, _, h13, h8.cons hl hne, fun i hi => by simp [keys] at hi ⊢; exact .inl hi, Yx1 hs hz h22 hsv hx hxj h9 hne (Ydw h12 h23) h12⟩
   ·exact h4.elim
  ·rename_i id off lo n;obtain ⟨it, hl, h4⟩ := Ye h3
   split at h4
   ·rename_i T' sz' n' cs;obtain ⟨h5, h6⟩ := Ya h4;simp only [Bool.and_eq_true, Yd] at h5;obtain ⟨⟨⟨⟨rfl, rfl⟩, rfl⟩, rfl⟩, rfl⟩ := h5;obtain ⟨ts, h7, h8, _⟩ := Yha h6;have hsz : sz' = ts.length := by omega
    subst hsz;obtain ⟨xs, h9, h10, h11, _⟩ := Yde h7;obtain ⟨hs', ys, h12, h13, h14⟩ := Yeu h22 h9;obtain ⟨h15, h16⟩ := Ya h12;obtain ⟨h17, h18⟩ := h16;have h17 := of_decide_eq_true h17;have hne := Ydj h15;refine ⟨_, _, _, _, h18, h13.cons hl hne, fun i hi => by simp [keys] at hi ⊢; exact .inl hi, Yxz hs hz h22 hsv hsj (fun φ w0 M R w hS => ?_) hx hxj h14 hne (Ydw h17 h23) h17⟩;simp only [It.conc, AV.conc, h11 φ, h10, Nat.sub_zero] at hS ⊢;exact hS
   ·exact h4.elim
  ·exact h3.elim
theorem Yri {p : AV} {x : Operand} {hp : Heap} {k : KE} {D : Prop} (hx : At tm x p) (hj : p.rd = true) (h : Yvp p k D) : Res1 P { dst, op := .nilCheck x, type, pos, after, guard } tm hp k \/ D := by
 unfold Yvp at h
 split at h
 ·refine .inl ⟨_, _, _, _, h, .nil _, Y1, Does.pure fun φ a ho w => ?_⟩;have e := ho x (by simp [Op.operands]) _ hx hj;simp only [AV.conc] at e;simp [execOp, e, AV.conc]
 ·refine .inl ⟨_, _, _, _, h, .nil _, Y1, Does.pure fun φ a ho w => ?_⟩;have e := ho x (by simp [Op.operands]) _ hx hj;simp only [AV.conc] at e;simp [execOp, e, AV.conc]
 ·exact .inr h
theorem Yl9 {c : Cx} (ht : TabOk c.P c.tt) {T : TypeId} {ok : Bool} {m i : AV} {x ix : Operand} {hp : Heap} {k : KE} {D : Prop} (hx : At tm x m) (hi : At tm ix i) (h : Ype c T ok m i hp k D) : Res1 c.P { dst, op := .lookup T x ix ok, type, pos, after, guard } tm hp k \/ D := .inr h
theorem Yl5 {c : Cx} (ht : TabOk c.P c.tt) {T : TypeId} {m i v : AV} {x ix y : Operand} {hp : Heap} {k : KE} {D : Prop} (hx : At tm x m) (hi : At tm ix i) (hy : At tm y v) (h : Ypa c T m i v hp k D) : Res1 c.P { dst, op := .mapUpdate T x ix y, type, pos, after, guard } tm hp k \/ D := .inr h
theorem Yv2 {d : Nat} {T e : TypeId} (hu : P.underlying T = some (.slice e)) (A : Option Addr) (n c : Nat) (w : World) : (Op.equalIn (d + 1) T (.slice A n c) (.slice none 0 0)).run P w = .ok A.isNone w := by
 cases A <;> simp [Op.equalIn, Sem.run_bind, run_underlying hu w]
theorem Ypm {T : TypeId} (h : Ykd P T = true) : ∃ e, P.underlying T = some (.slice e) := by
 unfold Ykd at h
 split at h
 ·rename_i e he; exact ⟨e, he⟩
 ·cases h
def Yzd : Bool -> BinOp
 | true => .neq
 | false => .eql
theorem Yue {T : TypeId} {neq : Bool} (h : Ykd P T = true) (x y : Operand) (A : Option Addr) (n c : Nat) : Yic P (Yzd neq) T x y (.slice A n c) (.slice none 0 0) (.bool (match neq with | true => !A.isNone | false => A.isNone)) := fun w => by
 obtain ⟨e, hu⟩ := Ypm h;have e1 : (Op.equal T (.slice A n c) (.slice none 0 0)).run P w = .ok A.isNone w := Yv2 (d := 9999) hu A n c w;cases neq <;> simp [Yzd, eqGuard, binOp, e1, Sem.run_bind]
theorem Yos {T T' : TypeId} {neq : Bool} {x y : Operand} {a : AV} {hs : Heap} {val : AV} (hT : Ykd P T = true) (hx : At tm x a) (ja : a.rd = true) (hy : At tm y (.v (.slice none 0 0)))
  (hv : ∀ (φ : Phi) (w0 : World) (M : List Nat) (R : RL) (w : World), St w0 M (Yb φ hs ++ R) w -> ∃ A n c, a.conc φ = .slice A n c /\ val.conc φ = .bool (match neq with | true => !A.isNone | false => A.isNone)) :
  Does P { dst, op := .binOp (Yzd neq) T x y T', type, pos, after, guard } tm hs val [] [] :=
 fun φ w0 M R ac w K Q ho _ hS kk => by
  obtain ⟨A, n, c, h1, h2⟩ := hv φ w0 M R w hS;have e1 := ho.ev (x := x) (by simp [Op.operands]) hx ja;have e2 := ho.ev (x := y) (by simp [Op.operands]) hy (by simp);rw [h1] at e1;have h4 := kk φ w (Agree.refl _ _) (by simpa [Yh] using hS);rw [h2] at h4;exact Y0b e1 e2 (Yue hT x y A n c w) h4
theorem Yk0 {c : Cx} {T T' : TypeId} {neq : Bool} {a b : AV} {x y : Operand} {hp : Heap} {k : KE} {D : Prop} (hx : At tm x a) (ja : a.rd = true) (hy : At tm y b) (h : Yth c neq T a b hp k D) :
  Res1 c.P { dst, op := .binOp (Yzd neq) T x y T', type, pos, after, guard } tm hp k \/ D := by
 unfold Yth at h
 split at h
 ·split at h
  ·exact .inr h
  ·rename_i hT
   split at h
   ·rename_i id off lo n;obtain ⟨it, hl, h1⟩ := Ye h
    split at h1
    ·rename_i hlive;refine .inl ⟨_, _, _, _, h1, .one hl, Y1, Yos hT hx ja hy fun φ w0 M R w hS => ?_⟩;have hn := Ybm hlive φ id w0 M R w hS;simp only [AV.conc, hn, Bool.false_eq_true, if_false];exact ⟨_, _, _, rfl, by cases neq <;> rfl⟩
    ·exact .inr h1
   ·rename_i ts r
    split at h
    ·refine .inl ⟨_, _, _, _, h, .nil _, Y1, Yos hT hx ja hy fun φ w0 M R w hS => ?_⟩;obtain ⟨A, c, hv, _⟩ := r.inv;simp only [AV.conc, hv];exact ⟨_, _, _, rfl, by cases A <;> rfl⟩
    ·refine .inl ⟨_, _, _, _, h, .nil _, Y1, Yos hT hx ja hy fun φ w0 M R w hS => ?_⟩;obtain ⟨A, c, hv, _⟩ := r.inv;simp only [AV.conc, hv];exact ⟨_, _, _, rfl, by cases A <;> rfl⟩
   ·rename_i id;obtain ⟨it, hl, h1⟩ := Ye h
    split at h1
    ·rename_i T2 ts xs;obtain ⟨h2, h3⟩ := Ya h1;obtain ⟨h4, h5⟩ := h3;refine .inl ⟨_, _, _, _, h5, .one hl, Y1, Yos hT hx ja hy fun φ w0 M R w hS => ?_⟩;have hn := Yer (Nat.le_of_ble_eq_true h2) (of_decide_eq_true h4) hS;simp only [AV.conc, hn, Bool.false_eq_true, if_false];exact ⟨_, _, _, rfl, by cases neq <;> rfl⟩
    ·exact .inr h1
   ·exact .inr h
 ·exact .inr h
theorem Yr9 {c : Cx} {op : BinOp} {T T' : TypeId} {a b : AV} {x y : Operand} {hp : Heap} {k : KE} {D : Prop} (hx : At tm x a) (ja : a.rd = true) (hy : At tm y b) (h : Ywl c op T a b hp k D) :
  Res1 c.P { dst, op := .binOp op T x y T', type, pos, after, guard } tm hp k \/ D := by
 unfold Ywl at h
 split at h
 ·exact Yk0 (neq := false) hx ja hy h
 ·exact Yk0 (neq := true) hx ja hy h
 ·exact .inr h
theorem Ypd {c : Cx} (ht : TabOk c.P c.tt) {T : TypeId} {xv yv : AV} {x y : Operand} {hp : Heap} {k : KE} {id : Nat} {D : Prop} (hx : At tm x xv) (hy : At tm y yv) (h : Yvq c T id xv yv k D) : Res1 c.P { dst, op := .makeSlice T x y, type, pos, after, guard } tm hp k \/ D := .inr h
end
theorem Res1.op {c : Cx} {o : Oper} {tm : List AV} {hp : Heap} {k kp : KE} (h : Res1 c.P o tm hp k) : OpRes c o tm hp k kp := .inl h
theorem Yo4 {c : Cx} {o : Oper} {tm : List AV} {hp : Heap} {k kp : KE} (hc : HandOk c) (h : Yd7 c o tm hp k kp) : OpRes c o tm hp k kp := by
 have old : Yc9 c o tm hp k kp -> OpRes c o tm hp k kp := fun h => by rw [Yym] at h; exact Yt4 hc h
 obtain ⟨dst, op, type, pos, after, guard⟩ := o;unfold Yd7 at h
 split at h
 ·rename_i hop;dsimp only at hop; subst hop;obtain ⟨a, ja, hx, h1⟩ := Yg h;obtain ⟨b, jb, hy, h2⟩ := Yg h1;rcases Yrq h2 _ _ with ⟨r, h3, h4⟩ | h3
  ·exact .pure h3 (d_bin hx hy ja jb h4)
  ·exact (Yr9 hx ja hy h3).elim Res1.op old
 ·rename_i hop;dsimp only at hop; subst hop;obtain ⟨a, ja, hx, h1⟩ := Yg h;rcases Yt8 (P := c.P) h1 with ⟨r, h3, _, h4⟩ | h3
  ·exact .pure h3 (Y16 hx ja h4)
  ·exact old h3
 ·rename_i hop;dsimp only at hop; subst hop;obtain ⟨a, ja, hx, h1⟩ := Yg h;rcases Ypj h1 with ⟨r, h3, _, h4⟩ | h3
  ·refine .pure h3 (Does.pure fun φ ac ho w => ?_);have e := ho _ (by simp [Op.operands]) _ hx ja;unfold execOp;simp only [e, Sem.run_bind, h4 φ w, Result.andThen_ok, Sem.run_pure]
  ·exact old h3
 ·rename_i hop;dsimp only at hop; subst hop;rcases Ypc (P := c.P) h with ⟨r, h3, h4⟩ | h3
  ·exact .pure h3 h4
  ·exact old h3
 ·rename_i hop;dsimp only at hop; subst hop;obtain ⟨a, ja, hx, h1⟩ := Yg h;obtain ⟨b, jb, hy, h2⟩ := Yg h1;exact (Yrm hc.tab hx hy h2).elim Res1.op old
 ·rename_i hop;dsimp only at hop; subst hop;obtain ⟨a, ja, hx, h1⟩ := Yg h;obtain ⟨b, jb, hy, h2⟩ := Yg h1;exact (Yma hc.tab hx hy h2).elim Res1.op old
 ·rename_i hop;dsimp only at hop; subst hop;obtain ⟨a, ja, hx, h1⟩ := Yg h;exact (Ymb hx h1).elim Res1.op old
 ·rename_i hop;dsimp only at hop; subst hop;obtain ⟨a, ja, hx, h1⟩ := Yg h;exact (Ypf hc.tab hx h1).elim Res1.op old
 ·rename_i hop;dsimp only at hop; subst hop;obtain ⟨a, ja, hx, h1⟩ := Yg h;obtain ⟨b, jb, hy, h2⟩ := Yg h1;exact (Ynz hc.tab hx hy jb h2).elim Res1.op old
 ·rename_i hop;dsimp only at hop; subst hop;obtain ⟨a, ja, hx, h1⟩ := Yg h;exact (Yn4 hc.tab hx h1).elim Res1.op old
 ·rename_i hop;dsimp only at hop; subst hop;obtain ⟨a, ja, hx, h1⟩ := Yg h;exact (Yn1 hc.tab hx h1).elim Res1.op old
 ·rename_i hop;dsimp only at hop; subst hop;obtain ⟨a, ja, hx, h1⟩ := Yg h;obtain ⟨b, jb, hy, h2⟩ := Yg h1;exact (Ypd hc.tab hx hy h2).elim Res1.op old
 ·rename_i hop;dsimp only at hop; subst hop;obtain ⟨m, jm, hx, h1⟩ := Yg h;exact (Yri hx jm h1).elim Res1.op old
 ·rename_i hop;dsimp only at hop; subst hop;obtain ⟨m, jm, hx, h1⟩ := Yg h;obtain ⟨i, ji, hi, h2⟩ := Yg h1;exact (Yl9 hc.tab hx hi h2).elim Res1.op old
 ·rename_i hop;dsimp only at hop; subst hop;obtain ⟨m, jm, hx, h1⟩ := Yg h;obtain ⟨i, ji, hi, h2⟩ := Yg h1;obtain ⟨v, jv, hy, h3⟩ := Yg h2;exact (Yl5 hc.tab hx hi hy h3).elim Res1.op old
 ·rename_i cl hop;dsimp only at hop; subst hop;obtain ⟨callee, ⟨args⟩, tys⟩ := cl;dsimp only at h
  split at h
  ·split at h
   ·rename_i x;obtain ⟨v, jv, hx, h1⟩ := Yg h;exact (Yrk hc.tab hx jv h1).elim Res1.op old
   ·rename_i x y;obtain ⟨a, ja, hx, h1⟩ := Yg h;obtain ⟨b, jb, hy, h2⟩ := Yg h1;rcases Yml (P := c.P) (mx := false) hx ja hy jb tys h2 with ⟨r, h3, h4⟩ | h3
    ·exact .pure h3 h4
    ·exact old h3
   ·rename_i x y;obtain ⟨a, ja, hx, h1⟩ := Yg h;obtain ⟨b, jb, hy, h2⟩ := Yg h1;rcases Yml (P := c.P) (mx := true) hx ja hy jb tys h2 with ⟨r, h3, h4⟩ | h3
    ·exact .pure h3 h4
    ·exact old h3
   ·rename_i s x;obtain ⟨a, ja, hx, h1⟩ := Yg h;obtain ⟨b, jb, hy, h2⟩ := Yg h1
    split at h2
    ·obtain ⟨tys⟩ := tys;dsimp only at h2
     split at h2
     ·obtain ⟨h3, h4⟩ := Ya h2;obtain rfl := Yd.1 h3;exact Res1.op (Ymd hc.tab hx ja hy jb h4)
     ·exact h2.elim
    ·exact old h2
   ·exact old h
  ·exact old h
 ·exact old h
end Go.Proofs.Ytmogofidmchdoaa
namespace Go.Proofs.Ytmogofidmchdoaa
open Go.RowKit
attribute [local irreducible] Go.Oper.wp
@[reducible] def atW (w : World) : InW := ⟨w, w.heap.size, fun b => b < w.heap.size, fun _ h => h⟩
theorem St.nowF {W : InW} {w0 w : World} {M : List Nat} {L : RL} (F : Nat -> Prop) (h : @St W w0 M L w) : @St (atF w F) w [] [] w :=
 @St.start (atF w F) w (@InOk.mk (atF w F) w [] (Nat.le_refl _) (by simp) (Below.refl _ _))
theorem RdV.nowF {W : InW} {w0 w : World} {M : List Nat} {L : RL} (h : @St W w0 M L w) {F : Nat -> Prop} (hF : ∀ b, W.F b -> F b) {t : Ty} {v : Value} {c : Cl} (hr : @RdV W t v c) : @RdV (atF w F) t v c :=
 RdV.mono2 (W1 := W) (W2 := atF w F) (fun b hb => ⟨Nat.lt_of_lt_of_le (W.lt b hb) (Nat.le_trans h.inw.base h.kept.size), hF b hb⟩) (fun b hb => h.belowIn.block b (W.lt b hb)) hr
theorem Ysp {w : World} {r : Res} (h : r.holds w) {b : Nat} (hb : b ∈ r.foot) : ¬ r.frz b := by
 cases r with
 | blk _ _ => exact fun h => h
 | row _ _ _ _ _ => exact fun h => h
 | abs own fz p => exact h.2.1 b hb
theorem St.farZ [InW] {w0 w : World} {M : List Nat} {L : RL} (h : St w0 M L w) {x r : Res} (hx : x ∈ L) (hr : r ∈ L) {b : Nat} (hb : b ∈ x.foot) : ¬ r.frz b := fun hz => by
 rcases Classical.em (x = r) with e | e
 ·subst e; exact Ysp (h.has _ hx) hb hz
 ·obtain ⟨s, t, rfl⟩ := List.append_of_mem hx;have hp := (List.perm_middle.pairwise_iff (fun h => apart.symm h)).1 h.sep;have := (List.pairwise_cons.1 hp).1 r (by
   simp only [List.mem_append, List.mem_cons] at hr ⊢;rcases hr with hr | hr | hr
   ·exact .inl hr
   ·exact absurd hr.symm e
   ·exact .inr hr)
  exact this.1 b hb (.inr hz)
theorem St.back0 [InW] {w0 w w' : World} {M : List Nat} {L1 L L2 : RL} {F' : Nat -> Prop} (h : St w0 M (L1 ++ L) w) (ck : Kept w.heap.size [] w w') (ch : ∀ r ∈ L2, r.holds w') (co : ∀ r ∈ L2, ∀ b ∈ r.foot, w.heap.size <= b) (cs : L2.Pairwise apart) (cz : ∀ r ∈ L2, ∀ b, r.frz b -> w.heap.size <= b \/ F' b)
  (hF : ∀ r ∈ L2, ∀ b, r.frz b -> F' b -> InW.F b \/ (∃ q ∈ L1, q.in_ b) \/ ∃ q ∈ L, q.frz b) : St w0 M (L2 ++ L) w' := by
 have hsep := List.pairwise_append.1 h.sep;have hL : St w0 M L w := h.sub (List.sublist_append_right _ _);refine ⟨h.kept.trans ck h.size (by simp), ?_, ?_, ?_, h.inw, ?_⟩
 ·intro x hx;rcases List.mem_append.1 hx with hx | hx
  ·exact ch x hx
  ·have hx' := hL.has x hx;exact Res.keep hx' fun b hb => ck.block b (Res.lt2 hx' b hb) (by simp)
 ·intro x hx b hb;rcases List.mem_append.1 hx with hx | hx
  ·exact .inl (Nat.le_trans h.size (co x hx b hb))
  ·exact hL.own x hx b hb
 ·refine List.pairwise_append.2 ⟨cs, hL.sep, fun x hx y hy => ⟨fun b hb hb' => ?_, fun b hb hb' => ?_⟩⟩
  ·have h1 := co x hx b hb;have := Res.lt2 (hL.has y hy) b hb';omega
  ·have hlt := Res.lt (hL.has y hy) b hb;rcases hb' with hb' | hb'
   ·have := co x hx b hb'; omega
   ·rcases cz x hx b hb' with h' | h'
    ·omega
    ·rcases hF x hx b hb' h' with h2 | ⟨q, hq, h2⟩ | ⟨q, hq, h2⟩
     ·exact hL.farF hy hb h2
     ·exact (hsep.2.2 q hq y hy).2 b hb h2
     ·exact hL.farZ hy hq hb h2
 ·intro x hx b hb;rcases List.mem_append.1 hx with hx | hx
  ·rcases cz x hx b hb with h' | h'
   ·exact .inl (Nat.le_trans h.size h')
   ·rcases hF x hx b hb h' with h2 | ⟨q, hq, h2⟩ | ⟨q, hq, h2⟩
    ·exact .inr (.inr h2)
    ·rcases h2 with h2 | h2
     ·rcases h.own q (List.mem_append_left _ hq) b h2 with h3 | h3
      ·exact .inl h3
      ·exact .inr (.inl h3)
     ·exact h.fz q (List.mem_append_left _ hq) b h2
    ·exact hL.fz q hq b h2
  ·exact hL.fz x hx b hb
theorem St.back {W W' : InW} {w0 w w' : World} {M : List Nat} {L1 L L2 : RL} (h : @St W w0 M (L1 ++ L) w) (hc : @St W' w [] L2 w') (hF : ∀ r ∈ L2, ∀ b, r.frz b -> W'.F b -> W.F b \/ (∃ q ∈ L1, q.in_ b) \/ ∃ q ∈ L, q.frz b) : @St W w0 M (L2 ++ L) w' :=
 @St.back0 W w0 w w' M L1 L L2 W'.F h (@St.kept W' _ _ _ _ hc) (@St.has W' _ _ _ _ hc) (fun r hr b hb => (@St.own W' _ _ _ _ hc r hr b hb).resolve_right (by simp)) (@St.sep W' _ _ _ _ hc)
  (fun r hr b hb => (@St.fz W' _ _ _ _ hc r hr b hb).elim .inl fun h => .inr (h.resolve_left (by simp))) hF
def Ylp (t : Ty) (c : Cl) : Prop := match t with | .int _ => ∃ n, c = .i n | .bool => ∃ b, c = .b b | .str => ∃ s, c = .s s | .sl _ => ∃ xs, c = .l xs
section
variable [W : InW]
theorem Ywy {h : Heap} {i : Nat} (hm : i ∈ keys h) : ∃ x, look h i = some x := by
 cases hl : look h i with
 | some x => exact ⟨x, rfl⟩
 | none =>
  obtain ⟨q, hq, e⟩ := List.mem_map.1 hm;exact absurd hl (by
   clear hm
   induction h with
   | nil => cases hq
   | cons p h ih =>
    rw [Yn]
    split
    ·simp
    ·rename_i hne;rcases List.mem_cons.1 hq with rfl | hq
     ·exact absurd e hne
     ·intro h2; rw [Yn, if_neg hne] at hl; exact ih hl hq h2)
def addH (hs : Heap) (id : Nat) (it : It) (K : Heap -> Prop) : Prop := match look hs id with | some _ => K hs | none => K ((id, it) :: hs)
theorem Ycm {hs hp : Heap} {id : Nat} {it : It} {K : Heap -> Prop} (h : addH hs id it K) (hpart : PartOf hs hp) (hl : look hp id = some it) : ∃ hs', K hs' /\ PartOf hs' hp /\ (∀ p ∈ hs, p ∈ hs') /\ (id, it) ∈ hs' := by
 unfold addH at h
 split at h
 ·rename_i x hx;refine ⟨hs, h, hpart, fun p hp => hp, ?_⟩;have h1 := Yba hx;have h2 := hpart.all _ h1;rw [hl] at h2;cases h2;exact h1
 ·rename_i hx;refine ⟨_, h, hpart.cons hl fun hm => ?_, fun p hp => List.mem_cons_of_mem _ hp, List.mem_cons_self⟩;obtain ⟨x, hx2⟩ := Ywy hm;rw [hx] at hx2; cases hx2
def Ybr : Nat -> Ty -> Ty -> Bool
 | 0, _, _ => false
 | n + 1, t, u => match t, u with
  | .int k, .int k' => decide (k = k')
  | .bool, .bool => true
  | .str, .str => true
  | .sl ts, .sl us => sameL n ts us
  | _, _ => false
where
 sameL (n : Nat) : List Ty -> List Ty -> Bool
  | [], [] => true
  | t :: ts, u :: us => match Ybr n t u with | true => sameL n ts us | false => false
  | _, _ => false
theorem Yz : ∀ (n : Nat) (t u : Ty), Ybr n t u = true -> t = u
 | 0, _, _, h => by simp [Ybr] at h
 | n + 1, t, u, h => by
  have hL : ∀ ts us : List Ty, Ybr.sameL n ts us = true -> ts = us := by
   intro ts
   induction ts with
   | nil => intro us h; cases us <;> simp_all [Ybr.sameL]
   | cons t ts ih =>
    intro us h;cases us with
    | nil => simp [Ybr.sameL] at h
    | cons u us =>
     unfold Ybr.sameL at h
     split at h
     ·rename_i h1;rw [Yz n t u h1, ih us h]
     ·cases h
  cases t <;> cases u <;> simp only [Ybr, Bool.false_eq_true, decide_eq_true_eq] at h
  ·rw [h]
  ·rfl
  ·rfl
  ·rw [hL _ _ h]
def Yss (t : Ty) (x : AV) (hp hs : Heap) (K : Heap -> Cl -> Prop) : Prop :=
 match t with
 | .int k => (match x with | .si k' n => Yc (decide (k' = k)) (K hs (.i n)) | .v (.int k' n) => Yc (decide (k' = k)) (K hs (.i n)) | _ => Stuck 401)
 | .bool => (match x with | .sb b => K hs (.b b) | .v (.bool b) => K hs (.b b) | _ => Stuck 402)
 | .str => (match x with | .ss s => K hs (.s s) | .v (.string s) => K hs (.s s) | _ => Stuck 403)
 | .sl ts => (match x with
  | .rs ts' r => Yc (Ybr 9 (.sl ts') (.sl ts)) (K hs (.l r.xs))
  | .v (.slice _ n _) => Yc (Nat.beq n 0) (K hs (.l []))
  | .emp _ => K hs (.l [])
  | .opq id => Y0 hp id fun it => (match it with | .fro ts' xs => Yc (Ybr 9 (.sl ts') (.sl ts)) (addH hs id (.fro ts' xs) fun hs => K hs (.l xs)) | _ => Stuck 404)
  | .rw id => Y0 hp id fun it => (match it with
   | .arr T ts' xs => Yc (Ycc.sameTs ts' ts && Nat.ble 1 ts.length) (addH hs id (.arr T ts' xs) fun hs => K hs (.l xs))
   | .nst T ts' xs => Yc (Ybr 9 (.sl ts') (.sl ts)) (addH hs id (.nst T ts' xs) fun hs => K hs (.l xs))
   | .frw ts' xs => Yc (Ybr 9 (.sl ts') (.sl ts)) (addH hs id (.frw ts' xs) fun hs => K hs (.l xs))
   | _ => Stuck 404)
  | .sl id off lo m => Y0 hp id fun it => (match it with
   | .arr T ts' xs => Yc (Ycc.sameTs ts' ts && Nat.ble 1 ts.length && Nat.beq off 0 && Nat.beq lo 0) (Need (decide (m <= xs.length)) (addH hs id (.arr T ts' xs) fun hs => K hs (.l (xs.take m))))
   | .row T sz n cs => (match Nat.beq m 0 with
    | true => K hs (.l [])
    | false => Yc (Nat.ble 1 ts.length && Nat.ble m 4611686018427387904 && Nat.ble (lo + m) n && Nat.beq off (lo * sz)) (Ywn (.row T sz n cs) off m ts.length fun news => Yc (Ycc.sameTs ts ts) (Yrw ts m news fun ys => addH hs id (.row T sz n cs) fun hs => K hs (.l ys))))
   | _ => Stuck 405)
  | .rwp id sz' l m => Y0 hp id fun it => (match it with
   | .arr T ts' xs => Yc (Ycc.sameTs ts' ts && Nat.ble 1 ts.length && Nat.beq sz' ts.length) (Need (decide (l + m <= xs.length)) (addH hs id (.arr T ts' xs) fun hs => K hs (.l ((xs.drop l).take m))))
   | .nst T ts' xs => Yc (Ybr 9 (.sl ts') (.sl ts) && Nat.beq sz' ts.length) (Need (decide (l + m <= xs.length)) (addH hs id (.nst T ts' xs) fun hs => K hs (.l ((xs.drop l).take m))))
   | _ => Stuck 405)
  | _ => Stuck 406)
def InB (φ : Phi) (hs : Heap) (b : Nat) : Prop := InW.F b \/ ∃ p ∈ hs, (p.2.conc φ p.1).in_ b
theorem InB.mono {φ : Phi} {hs hs' : Heap} (hh : ∀ p ∈ hs, p ∈ hs') {b : Nat} (h : InB φ hs b) : InB φ hs' b := h.elim .inl fun ⟨p, hp, hb⟩ => .inr ⟨p, hh p hp, hb⟩
def ReadsIn (hs : Heap) (t : Ty) (x : AV) (c : Cl) : Prop :=
 ∀ (φ : Phi) (w0 : World) (M : List Nat) (L : RL) (w : World), St w0 M L w -> (∀ p ∈ hs, p.2.conc φ p.1 ∈ L) -> @RdV (atF w (InB φ hs)) t (x.conc φ) c
theorem ReadsIn.mono {hs hs' : Heap} {t : Ty} {x : AV} {c : Cl} (h : ReadsIn hs t x c) (hh : ∀ p ∈ hs, p ∈ hs') : ReadsIn hs' t x c := fun φ w0 M L w hS hm =>
 (h φ w0 M L w hS fun p hp => hm p (hh p hp)).grow (fun b h1 h2 => ⟨h1, h2.mono hh⟩) fun _ _ _ => rfl
theorem St.front {w0 w : World} {M : List Nat} {L : RL} (h : St w0 M L w) {r : Res} (hr : r ∈ L) : ∃ R, St w0 M (r :: R) w := by
 obtain ⟨s, t, rfl⟩ := List.append_of_mem hr;exact ⟨_, h.perm List.perm_middle⟩
theorem Yx8 {w : World} {b off : Nat} {u : Value} (h : w.cell? ⟨b, off, none⟩ = some u) : b < w.heap.size := by
 unfold World.cell? at h;rcases Nat.lt_or_ge b w.heap.size with hb | hb
 ·exact hb
 ·simp [Array.getElem?_eq_none hb] at h
theorem Yka {xv : AV} {hs : Heap} {ts : List Ty} {ys : Dt} {id : Nat} {it : It} (hts : 0 < ts.length) (hsc : ∀ k ts', tyAt ts k ≠ .sl ts')
  (hlen : ∀ (φ : Phi) (w0 : World) (M : List Nat) (R : RL) (w : World), St w0 M (it.conc φ id :: R) w -> ys.length <= maxLen /\ ∀ A m c, xv.conc φ = .slice A m c -> m <= c /\ ∀ b off, 0 < ys.length -> A = some ⟨b, off, none⟩ -> (it.conc φ id).in_ b)
  (h : Yl2 xv [(id, it)] ts ys) (hm : (id, it) ∈ hs) : ReadsIn hs (.sl ts) xv (.l ys) := fun φ w0 M L w hS hall => by
 obtain ⟨R, hS'⟩ := hS.front (hall _ hm);obtain ⟨A, c, h1, h2⟩ := h φ w0 M R w (by simpa [Yb] using hS');obtain ⟨h3, h4⟩ := hlen φ w0 M R w hS';obtain ⟨hc, hin⟩ := h4 _ _ _ h1;rw [h1];refine @RdV.sl (atF w (InB φ hs)) ts A c (.l ys) (fun i k => (tyAt ts k).val (cel ys i k)) hc h3 (fun hne => ?_) (fun i k t hi ht => ?_)
 ·obtain ⟨b, off, rfl, h5⟩ := h2.resolve_left (fun e => hne (List.length_eq_zero_iff.1 e));have key : ∀ i k, i < ys.length -> k < ts.length -> w.cell? ⟨b, off + i * ts.length + k, none⟩ = some ((tyAt ts k).val (cel ys i k)) := fun i k hi hk => by
   rw [Nat.add_assoc];refine h5 _ _ ?_;rw [Yh2 ts ys i k hi hk, List.getElem?_eq_getElem hk, Option.map_some, Ydp, List.getD_eq_getElem?_getD, List.getElem?_eq_getElem hk, Option.getD_some]
  have hpos : 0 < ys.length := by
   cases ys with
   | nil => exact absurd rfl hne
   | cons _ _ => simp
  exact ⟨b, off, rfl, ⟨Yx8 (key 0 0 hpos hts), .inr ⟨_, hm, hin b off hpos rfl⟩⟩, key⟩
 ·have e : tyAt ts k = t := by rw [Ydp, List.getD_eq_getElem?_getD, ht]; rfl
  subst e
  show @RdV (atF w (InB φ hs)) (tyAt ts k) ((tyAt ts k).val (cel ys i k)) (cel ys i k)
  have hn := hsc k;generalize cel ys i k = cc;generalize tyAt ts k = t at hn;cases t with
  | int kd => exact @RdV.int (atF w (InB φ hs)) kd cc
  | bool => exact @RdV.bool (atF w (InB φ hs)) cc
  | str => exact @RdV.str (atF w (InB φ hs)) cc
  | sl ts' => exact absurd rfl (hn ts')
theorem Yhr {hs : Heap} {ts : List Ty} {x : AV} (h : ∀ φ, ∃ A c, x.conc φ = .slice A 0 c) : ReadsIn hs (.sl ts) x (.l []) := fun φ w0 M L w hS hall => by
 obtain ⟨A, c, e⟩ := h φ;rw [e];exact @RdV.sl (atF w (InB φ hs)) ts A c (.l []) (fun _ _ => undef) (Nat.zero_le _) (Nat.zero_le _) (fun hn => absurd rfl hn) (fun i k t hi => by simp [Cl.lst] at hi)
theorem Ykx {hs : Heap} {ts : List Ty} {T id n : Nat} {xs : Dt} {x : AV} (hts : 0 < ts.length) (hsc : ∀ k ts', tyAt ts k ≠ .sl ts') (ho : OwnSl T ts xs id n x) (hm : (id, It.arr T ts xs) ∈ hs) : ReadsIn hs (.sl ts) x (.l (xs.take n)) :=
 Yka hts hsc (fun φ w0 M R w hS => by
  obtain ⟨h1, h2⟩ := ho.conc hts hS;obtain ⟨h3, h4⟩ := You hts hS;refine ⟨by rw [List.length_take]; omega, fun A m c e => ?_⟩;rw [h1] at e;cases e;refine ⟨by omega, fun b off hp he => ?_⟩;cases hn : (φ id).nil with
  | true => simp [hn] at he
  | false =>
   simp only [hn, Bool.false_eq_true, if_false, Option.some.injEq, Addr.mk.injEq] at he;exact .inl (by simp [It.conc, Res.foot, hn, Value.ownBlock, he.1])) (Yvw hts ho) hm
theorem Yv0 {hs : Heap} {ts : List Ty} {T id l n : Nat} {xs : Dt} (hts : 0 < ts.length) (hsc : ∀ k ts', tyAt ts k ≠ .sl ts') (hl : l + n <= xs.length) (hm : (id, It.arr T ts xs) ∈ hs) : ReadsIn hs (.sl ts) (.rwp id ts.length l n) (.l ((xs.drop l).take n)) :=
 Yka hts hsc (fun φ w0 M R w hS => by
  obtain ⟨h3, h4⟩ := You hts hS;refine ⟨by rw [List.length_take, List.length_drop]; omega, fun A m c e => ?_⟩;have e' := e;simp only [AV.conc, Value.slice.injEq] at e;refine ⟨by omega, fun b off hp he => ?_⟩;rw [List.length_take, List.length_drop] at hp;rw [Yn8 hts hS hl (by omega)] at e';simp only [Value.slice.injEq] at e';rw [he] at e';simp only [Option.some.injEq, Addr.mk.injEq] at e';have hnil := Yer hts (by omega) hS;exact .inl (by simp [It.conc, Res.foot, hnil, Value.ownBlock, e'.1.1])) (Y0e hts hl) hm
theorem Yxb {hs : Heap} {ts : List Ty} {id : Nat} {xs : Dt} (hm : (id, It.fro ts xs) ∈ hs) : ReadsIn hs (.sl ts) (.opq id) (.l xs) := fun φ w0 M L w hS hall => by
 have h := Ytu (hS.has _ (hall _ hm));exact RdV.grow (w := w) h (fun b h1 h2 => ⟨h1, .inr ⟨_, hm, .inr h2⟩⟩) fun _ _ _ => rfl
theorem Yw9 {hs : Heap} {ts : List Ty} {id : Nat} {xs : Dt} (hm : (id, It.frw ts xs) ∈ hs) : ReadsIn hs (.sl ts) (.rw id) (.l xs) := fun φ w0 M L w hS hall => by
 have h := Ytu (hS.has _ (hall _ hm));exact RdV.grow (w := w) h (fun b h1 h2 => ⟨h1, .inr ⟨_, hm, .inr h2⟩⟩) fun _ _ _ => rfl
theorem Ymw {w : World} {F F' : Nat -> Prop} {ts : List Ty} {A : Option Addr} {c : Nat} {vs : List Value} {xs : Dt} (hc : xs.length <= c) (hm : xs.length <= maxLen) (hF : ∀ b, b < w.heap.size -> F b -> F' b)
  (ha : xs ≠ [] -> ∃ b off, A = some ⟨b, off, none⟩ /\ b < w.heap.size /\ F' b /\ ∀ j u, vs[j]? = some u -> w.cell? ⟨b, off + j, none⟩ = some u) (hr : RowsRd w F ts vs xs) : @RdV (atF w F') (.sl ts) (.slice A xs.length c) (.l xs) := by
 refine @RdV.sl (atF w F') ts A c (.l xs) (fun i k => vs.getD (i * ts.length + k) undef) hc hm (fun hne => ?_) (fun i k t hi ht => ?_)
 ·obtain ⟨b, off, h1, h2, h3, h4⟩ := ha hne;refine ⟨b, off, h1, ⟨h2, h3⟩, fun i k hi hk => ?_⟩;obtain ⟨u, h5, _⟩ := hr i k ts[k] hi (List.getElem?_eq_getElem hk);rw [Nat.add_assoc];refine h4 _ _ ?_;rw [List.getD_eq_getElem?_getD, h5]; rfl
 ·obtain ⟨u, h5, h6⟩ := hr i k t hi ht;rw [List.getD_eq_getElem?_getD, h5];exact h6.grow (fun b h1 h2 => ⟨h1, hF b h1 h2⟩) fun _ _ _ => rfl
theorem Ydv {w0 w : World} {M : List Nat} {R : RL} {φ : Phi} {id T : Nat} {ts : List Ty} {xs : Dt} (h : St w0 M ((It.nst T ts xs).conc φ id :: R) w) : (φ id).fn = xs.length /\ ∃ vs, w.ownsRow 0 T ts.length (.slice (if (φ id).nil then none else some ⟨(φ id).b, 0, none⟩) (φ id).fn (φ id).c) (φ id).fn vs /\ RowsRd w (φ id).F ts vs xs := by
 obtain ⟨h1, vs, h2, h3⟩ := Y2g (h.look Look.head);exact ⟨h1.symm, vs, h2, h3⟩
theorem Ydg {w0 w : World} {M : List Nat} {R : RL} {φ : Phi} {id T : Nat} {ts : List Ty} {xs : Dt} (hn : 0 < xs.length) (h : St w0 M ((It.nst T ts xs).conc φ id :: R) w) : (φ id).nil = false := by
 obtain ⟨e, vs, hh, _⟩ := Ydv h;cases hnil : (φ id).nil with
 | false => rfl
 | true =>
  rw [hnil] at hh;rcases hh.2 with ⟨_, h0⟩ | ⟨g, cap, cur, hg, _⟩
  ·omega
  ·simp at hg
theorem Yr7 {w0 w : World} {M : List Nat} {R : RL} {φ : Phi} {id T : Nat} {ts : List Ty} {xs : Dt} (h : St w0 M ((It.nst T ts xs).conc φ id :: R) w) : xs.length <= (φ id).c /\ xs.length <= maxLen := by
 obtain ⟨e, vs, hh, _⟩ := Ydv h;rcases hh.2 with ⟨_, h0⟩ | ⟨g, cap, cur, hg, _, _, hnc, hm, _⟩
 ·omega
 ·simp only [Value.slice.injEq] at hg; omega
theorem Ytf {φ : Phi} {id T : Nat} {ts : List Ty} {xs : Dt} (hnil : (φ id).nil = false) : ((It.nst T ts xs).conc φ id).in_ (φ id).b := .inl (by simp [It.conc, Res.nst, Res.foot, hnil, Value.ownBlock])
theorem Ywj {hs : Heap} {ts : List Ty} {T id : Nat} {xs : Dt} (hm : (id, It.nst T ts xs) ∈ hs) : ReadsIn hs (.sl ts) (.rw id) (.l xs) := fun φ w0 M L w hS hall => by
 obtain ⟨R, hS'⟩ := hS.front (hall _ hm);obtain ⟨e, vs, hrow, hr⟩ := Ydv hS';obtain ⟨h1, h2⟩ := Yr7 hS'
 show @RdV (atF w (InB φ hs)) (.sl ts) (.slice (if (φ id).nil then none else some ⟨(φ id).b, 0, none⟩) (φ id).fn (φ id).c) (.l xs)
 rw [e] at hrow ⊢;refine Ymw (F := (φ id).F) (vs := vs) h1 h2 (fun b _ hb => .inr ⟨_, hm, .inr hb⟩) (fun hne => ?_) hr;have hpos : 0 < xs.length := List.length_pos_iff.2 hne;have hnil := Ydg hpos hS';have hlt := Res.lt2 (hS'.has _ List.mem_cons_self) (φ id).b (Ytf hnil);exact ⟨_, _, by rw [hnil]; rfl, hlt, .inr ⟨_, hm, Ytf hnil⟩, fun j u hu => by rw [Nat.zero_add]; exact Yev hrow hu⟩
theorem Yki {w : World} {F : Nat -> Prop} {ts : List Ty} {vs : List Value} {xs : Dt} {l n : Nat} (h : RowsRd w F ts vs xs) (hl : l + n <= xs.length) : RowsRd w F ts (vs.drop (l * ts.length)) ((xs.drop l).take n) := fun i k t hi ht => by
 rw [List.length_take, List.length_drop] at hi;obtain ⟨u, h1, h2⟩ := h (l + i) k t (by omega) ht;refine ⟨u, by rw [List.getElem?_drop, <- h1]; congr 1; rw [Nat.add_mul]; omega, ?_⟩;have e : cel ((xs.drop l).take n) i k = cel xs (l + i) k := by
  unfold cel;have e2 : ((xs.drop l).take n).getD i [] = xs.getD (l + i) [] := by
   rw [List.getD_eq_getElem?_getD, List.getD_eq_getElem?_getD, List.getElem?_take, if_pos (by omega), List.getElem?_drop]
  rw [e2]
 rwa [e]
theorem Ykz {T : Nat} {ts : List Ty} {xs : Dt} {id l n : Nat} {w0 w : World} {M : List Nat} {R : RL} {φ : Phi} (hS : St w0 M ((It.nst T ts xs).conc φ id :: R) w) (hl : l + n <= xs.length) (hn : 0 < n) :
  (AV.rwp id ts.length l n).conc φ = .slice (some ⟨(φ id).b, l * ts.length, none⟩) n ((φ id).c - l) := by
 have hc := (Yr7 hS).1;have hnil := Ydg (by omega) hS;simp only [AV.conc, hnil, Bool.false_eq_true, if_false];rw [if_neg (show ¬ (φ id).c = l by omega), Option.map_some, Yp, Nat.zero_add]
theorem Yut {hs : Heap} {ts : List Ty} {T id l n : Nat} {xs : Dt} (hl : l + n <= xs.length) (hm : (id, It.nst T ts xs) ∈ hs) : ReadsIn hs (.sl ts) (.rwp id ts.length l n) (.l ((xs.drop l).take n)) := fun φ w0 M L w hS hall => by
 obtain ⟨R, hS'⟩ := hS.front (hall _ hm);obtain ⟨e, vs, hrow, hr⟩ := Ydv hS';obtain ⟨h1, h2⟩ := Yr7 hS';rcases Nat.eq_zero_or_pos n with h0 | h0
 ·subst h0;have := Yhr (hs := hs) (ts := ts) (x := .rwp id ts.length l 0) (fun φ => ⟨_, _, rfl⟩) φ w0 M L w hS hall;rwa [List.take_zero]
 ·rw [Ykz hS' hl h0];have hnil := Ydg (by omega) hS';have hlt := Res.lt2 (hS'.has _ List.mem_cons_self) (φ id).b (Ytf hnil);have hlen : ((xs.drop l).take n).length = n := by rw [List.length_take, List.length_drop]; omega
  have := Ymw (w := w) (F := (φ id).F) (F' := InB φ hs) (ts := ts) (A := some ⟨(φ id).b, l * ts.length, none⟩) (c := (φ id).c - l) (vs := vs.drop (l * ts.length)) (xs := (xs.drop l).take n) (by dsimp only at h1; omega) (by dsimp only at h1 h2; omega) (fun b _ hb => .inr ⟨_, hm, .inr hb⟩)
   (fun _ => ⟨_, _, rfl, hlt, .inr ⟨_, hm, Ytf hnil⟩, fun j u hu => by rw [List.getElem?_drop] at hu; exact Yev hrow hu⟩) (Yki hr hl)
  rwa [hlen] at this
theorem Yeo {t : Ty} {x : AV} {hp hs : Heap} {K : Heap -> Cl -> Prop} (h : Yss t x hp hs K) (hpart : PartOf hs hp) : ∃ hs' c, K hs' c /\ PartOf hs' hp /\ (∀ p ∈ hs, p ∈ hs') /\ Ylp t c /\ ReadsIn hs' t x c := by
 have keep : ∀ p ∈ hs, p ∈ hs := fun p hp => hp;unfold Yss at h
 split at h
 ·split at h
  ·obtain ⟨h1, h2⟩ := Ya h;obtain rfl := of_decide_eq_true h1;exact ⟨_, _, h2, hpart, keep, ⟨_, rfl⟩, fun φ w0 M L w hS _ => @RdV.int (atF w (InB φ hs)) _ (.i _)⟩
  ·obtain ⟨h1, h2⟩ := Ya h;obtain rfl := of_decide_eq_true h1;exact ⟨_, _, h2, hpart, keep, ⟨_, rfl⟩, fun φ w0 M L w hS _ => @RdV.int (atF w (InB φ hs)) _ (.i _)⟩
  ·exact h.elim
 ·split at h
  ·exact ⟨_, _, h, hpart, keep, ⟨_, rfl⟩, fun φ w0 M L w hS _ => @RdV.bool (atF w (InB φ hs)) (.b _)⟩
  ·exact ⟨_, _, h, hpart, keep, ⟨_, rfl⟩, fun φ w0 M L w hS _ => @RdV.bool (atF w (InB φ hs)) (.b _)⟩
  ·exact h.elim
 ·split at h
  ·exact ⟨_, _, h, hpart, keep, ⟨_, rfl⟩, fun φ w0 M L w hS _ => @RdV.str (atF w (InB φ hs)) (.s _)⟩
  ·exact ⟨_, _, h, hpart, keep, ⟨_, rfl⟩, fun φ w0 M L w hS _ => @RdV.str (atF w (InB φ hs)) (.s _)⟩
  ·exact h.elim
 ·split at h
  ·rename_i ts' r;obtain ⟨h1, h2⟩ := Ya h;have e := Yz _ _ _ h1;simp only [Ty.sl.injEq] at e;subst e;exact ⟨_, _, h2, hpart, keep, ⟨_, rfl⟩, fun φ w0 M L w hS _ => RdV.nowF hS (fun b hb => .inl hb) r.2⟩
  ·obtain ⟨h1, h2⟩ := Ya h;obtain rfl := Yd.1 h1;exact ⟨_, _, h2, hpart, keep, ⟨_, rfl⟩, Yhr fun φ => ⟨_, _, rfl⟩⟩
  ·exact ⟨_, _, h, hpart, keep, ⟨_, rfl⟩, Yhr fun φ => ⟨_, _, rfl⟩⟩
  ·obtain ⟨it, hl, h0⟩ := Ye h
   split at h0
   ·rename_i ts' xs;obtain ⟨h1, h2⟩ := Ya h0;have e := Yz _ _ _ h1;simp only [Ty.sl.injEq] at e;subst e;obtain ⟨hs', h3, h4, h5, h6⟩ := Ycm h2 hpart hl;exact ⟨_, _, h3, h4, h5, ⟨_, rfl⟩, Yxb h6⟩
   ·exact h0.elim
  ·obtain ⟨it, hl, h0⟩ := Ye h
   split at h0
   ·obtain ⟨h1, h2⟩ := Ya h0;simp only [Bool.and_eq_true, Nat.ble_eq] at h1;obtain ⟨e, hsc⟩ := Y3 h1.1;subst e;obtain ⟨hs', h3, h4, h5, h6⟩ := Ycm h2 hpart hl;have hts := h1.2;refine ⟨_, _, h3, h4, h5, ⟨_, rfl⟩, ?_⟩;have key : ∀ (T id : Nat) (ts : List Ty) (xs : Dt), 0 < ts.length -> (∀ k ts', tyAt ts k ≠ .sl ts') -> (id, It.arr T ts xs) ∈ hs' -> ReadsIn hs' (.sl ts) (.rw id) (.l xs) := fun T id ts xs a b c => by
     have := Ykx a b (T := T) (id := id) (n := List.length xs) (x := .rw id) (.inl ⟨rfl, rfl⟩) c;rwa [List.take_length] at this
    exact key _ _ _ _ hts hsc h6
   ·obtain ⟨h1, h2⟩ := Ya h0;have e := Yz _ _ _ h1;simp only [Ty.sl.injEq] at e;subst e;obtain ⟨hs', h3, h4, h5, h6⟩ := Ycm h2 hpart hl;exact ⟨_, _, h3, h4, h5, ⟨_, rfl⟩, Ywj h6⟩
   ·obtain ⟨h1, h2⟩ := Ya h0;have e := Yz _ _ _ h1;simp only [Ty.sl.injEq] at e;subst e;obtain ⟨hs', h3, h4, h5, h6⟩ := Ycm h2 hpart hl;exact ⟨_, _, h3, h4, h5, ⟨_, rfl⟩, Yw9 h6⟩
   ·exact h0.elim
  ·rename_i id off lo m;obtain ⟨it, hl, h0⟩ := Ye h
   split at h0
   ·obtain ⟨h1, h2⟩ := Ya h0;simp only [Bool.and_eq_true, Nat.ble_eq, Yd] at h1;obtain ⟨⟨⟨h11, h12⟩, rfl⟩, rfl⟩ := h1;obtain ⟨e, hsc⟩ := Y3 h11;subst e;obtain ⟨h3, h4⟩ := h2;obtain ⟨hs', h5, h6, h7, h8⟩ := Ycm h4 hpart hl;exact ⟨_, _, h5, h6, h7, ⟨_, rfl⟩, Ykx h12 hsc (.inr ⟨rfl, of_decide_eq_true h3⟩) h8⟩
   ·rename_i T sz n cs
    split at h0
    ·rename_i hm;obtain rfl := Yd.1 hm;exact ⟨_, _, h0, hpart, keep, ⟨_, rfl⟩, Yhr fun φ => ⟨_, _, rfl⟩⟩
    ·obtain ⟨h1, h2⟩ := Ya h0;simp only [Bool.and_eq_true, Nat.ble_eq, Yd] at h1;obtain ⟨⟨⟨h11, h12⟩, h13⟩, rfl⟩ := h1;obtain ⟨news, h3, h4, h5, _⟩ := Ygb h2;obtain ⟨hsc, h3⟩ := Ya h3;obtain ⟨ys, h6, h7, h8, _⟩ := Yde h3;obtain ⟨hs', h9, h10, h11', h12'⟩ := Ycm h6 hpart hl;refine ⟨_, _, h9, h10, h11', ⟨_, rfl⟩, Yka h11 (Y3 hsc).2 (fun φ w0 M R w hS => ⟨by unfold maxLen; omega, fun A m' c e => ?_⟩) (fun φ w0 M R w hS => ?_) h12'⟩
     ·have hc := Yii hS;have e' := e;simp only [AV.conc, Value.slice.injEq] at e;refine ⟨by omega, fun b off' hp he => ?_⟩;have hnil := Ybm h4 φ id w0 M R w hS;rw [he, hnil] at e;simp only [Bool.false_eq_true, if_false, Option.some.injEq, Addr.mk.injEq] at e;exact .inl (by simp [It.conc, Res.foot, hnil, Value.ownBlock, e.1.1])
     ·have hS' := (by simpa [Yb] using hS : St w0 M ((It.row T sz n cs).conc φ id :: R) w);have hnil := Ybm h4 φ id w0 M R w hS';refine ⟨_, _, by simp only [AV.conc, hnil, Bool.false_eq_true, if_false, h7]; rfl, .inr ⟨_, _, rfl, fun j u hu => ?_⟩⟩;exact Ybf hS' (h5 φ j u (by rw [h8 φ]; exact hu))
   ·exact h0.elim
  ·rename_i id sz' l m;obtain ⟨it, hl, h0⟩ := Ye h
   split at h0
   ·obtain ⟨h1, h2⟩ := Ya h0;simp only [Bool.and_eq_true, Nat.ble_eq, Yd] at h1;obtain ⟨⟨h11, h12⟩, rfl⟩ := h1;obtain ⟨e, hsc⟩ := Y3 h11;subst e;obtain ⟨h3, h4⟩ := h2;obtain ⟨hs', h5, h6, h7, h8⟩ := Ycm h4 hpart hl;exact ⟨_, _, h5, h6, h7, ⟨_, rfl⟩, Yv0 h12 hsc (of_decide_eq_true h3) h8⟩
   ·obtain ⟨h1, h2⟩ := Ya h0;simp only [Bool.and_eq_true, Yd] at h1;obtain ⟨h11, rfl⟩ := h1;have e := Yz _ _ _ h11;simp only [Ty.sl.injEq] at e;subst e;obtain ⟨h3, h4⟩ := h2;obtain ⟨hs', h5, h6, h7, h8⟩ := Ycm h4 hpart hl;exact ⟨_, _, h5, h6, h7, ⟨_, rfl⟩, Yut (of_decide_eq_true h3) h8⟩
   ·exact h0.elim
  ·exact h.elim
def Y1f : List Ty -> Bool
 | [] => false
 | .sl _ :: _ => true
 | _ :: ts => Y1f ts
abbrev DK := Ty -> AV -> Heap -> Heap -> (Heap -> Cl -> Prop) -> Prop
def Yx7 (D : DK) : List Ty -> List AV -> Heap -> Heap -> (Heap -> List Cl -> Prop) -> Prop
 | [], [], hp, hs, K => K hs []
 | t :: ts, x :: xs, hp, hs, K => D t x hp hs fun hs c => Yx7 D ts xs hp hs fun hs cs => K hs (c :: cs)
 | _, _, _, _, _ => Stuck 410
def Yyw (D : DK) (ts : List Ty) : Nat -> List AV -> Heap -> Heap -> (Heap -> Dt -> Prop) -> Prop
 | 0, cs, hp, hs, K => (match cs with | [] => K hs [] | _ => Stuck 411)
 | m + 1, cs, hp, hs, K => Yhb cs ts.length fun r => Yiw cs ts.length fun rest => Yx7 D ts r hp hs fun hs l => Yyw D ts m rest hp hs fun hs ys => K hs (l :: ys)
def Yqu : Nat -> DK
 | 0, t, x, hp, hs, K => Yss t x hp hs K
 | f + 1, t, x, hp, hs, K => match t, x with
  | .sl ts, .sl id off lo m => (match Y1f ts with
   | false => Yss t x hp hs K
   | true => (match look hp id with
    | some (.row T sz n cs) => (match Nat.ble 1 m with
     | true => Yc (Nat.beq sz ts.length && Nat.ble 1 ts.length && Nat.ble m 4611686018427387904 && Nat.ble (lo + m) n && Nat.ble 1 n && Nat.beq off (lo * sz)) (Yiw cs off fun r => Yhb r (m * ts.length) fun news => addH hs id (.row T sz n cs) fun hs => Yyw (Yqu f) ts m news hp hs fun hs ys => K hs (.l ys))
     | false => Yss t x hp hs K)
    | _ => Yss t x hp hs K))
  | _, _ => Yss t x hp hs K
def DOk (D : DK) : Prop := ∀ (t : Ty) (x : AV) (hp hs : Heap) (K : Heap -> Cl -> Prop), D t x hp hs K -> PartOf hs hp -> ∃ hs' c, K hs' c /\ PartOf hs' hp /\ (∀ p ∈ hs, p ∈ hs') /\ Ylp t c /\ ReadsIn hs' t x c
theorem Ylo {D : DK} (hD : DOk D) : ∀ {ts : List Ty} {xs : List AV} {hp hs : Heap} {K : Heap -> List Cl -> Prop}, Yx7 D ts xs hp hs K -> PartOf hs hp -> ∃ hs' cs, K hs' cs /\ PartOf hs' hp /\ (∀ p ∈ hs, p ∈ hs') /\ xs.length = ts.length /\ cs.length = ts.length /\
  ∀ (k : Nat) (t : Ty), ts[k]? = some t -> ∃ x, xs[k]? = some x /\ ReadsIn hs' t x (cs.getD k .z)
 | [], [], hp, hs, K, h, hpart => ⟨hs, [], h, hpart, fun p hp => hp, rfl, rfl, fun k t e => by simp at e⟩
 | t :: ts, x :: xs, hp, hs, K, h, hpart => by
  obtain ⟨hs1, c, h1, h2, h3, h4, h5⟩ := hD _ _ _ _ _ h hpart;obtain ⟨hs2, cs, k1, k2, k3, k4, k5, k6⟩ := Ylo hD h1 h2;refine ⟨hs2, c :: cs, k1, k2, fun p hp => k3 p (h3 p hp), by simp [k4], by simp [k5], fun k t' e => ?_⟩;cases k with
  | zero =>
   simp only [List.getElem?_cons_zero, Option.some.injEq] at e;subst e;exact ⟨x, rfl, h5.mono k3⟩
  | succ k =>
   obtain ⟨y, y1, y2⟩ := k6 k t' (by simpa using e);exact ⟨y, by simpa using y1, by simpa using y2⟩
 | [], _ :: _, _, _, _, h, _ => h.elim
 | _ :: _, [], _, _, _, h, _ => h.elim
theorem Yig {D : DK} (hD : DOk D) {ts : List Ty} : ∀ {m : Nat} {cs : List AV} {hp hs : Heap} {K : Heap -> Dt -> Prop}, Yyw D ts m cs hp hs K -> PartOf hs hp -> ∃ hs' ys, K hs' ys /\ PartOf hs' hp /\ (∀ p ∈ hs, p ∈ hs') /\ ys.length = m /\
  ∀ (i k : Nat) (t : Ty), i < m -> ts[k]? = some t -> ∃ x, cs[i * ts.length + k]? = some x /\ ReadsIn hs' t x (cel ys i k)
 | 0, cs, hp, hs, K, h, hpart => by
  cases cs with
  | nil => exact ⟨hs, [], h, hpart, fun p hp => hp, rfl, fun i k t hi => by omega⟩
  | cons _ _ => exact h.elim
 | m + 1, cs, hp, hs, K, h, hpart => by
  obtain ⟨h1, h2⟩ := Ybq h;obtain ⟨_, h3⟩ := Ybw h2;obtain ⟨hs1, l, h4, h5, h6, h7, h8, h9⟩ := Ylo hD h3 hpart;obtain ⟨hs2, ys, k1, k2, k3, k4, k5⟩ := Yig hD h4 h5;refine ⟨hs2, l :: ys, k1, k2, fun p hp => k3 p (h6 p hp), by simp [k4], fun i k t hi ht => ?_⟩;have hk : k < ts.length := by
   rcases Nat.lt_or_ge k ts.length with a | a
   ·exact a
   ·rw [List.getElem?_eq_none a] at ht; cases ht
  cases i with
  | zero =>
   obtain ⟨x, x1, x2⟩ := h9 k t ht;refine ⟨x, ?_, x2.mono k3⟩;rw [List.getElem?_take, if_pos hk] at x1;rw [Nat.zero_mul, Nat.zero_add];exact x1
  | succ i =>
   obtain ⟨x, x1, x2⟩ := k5 i k t (by omega) ht;refine ⟨x, ?_, x2⟩;rw [List.getElem?_drop] at x1;rw [show (i + 1) * ts.length + k = ts.length + (i * ts.length + k) by rw [Nat.add_mul]; omega];exact x1
theorem Ydk : ∀ f, DOk (Yqu f)
 | 0 => fun t x hp hs K h hpart => Yeo h hpart
 | f + 1 => fun t x hp hs K h hpart => by
  unfold Yqu at h
  split at h
  ·rename_i ts id off lo m
   split at h
   ·exact Yeo h hpart
   ·split at h
    ·rename_i T sz n cs hl
     split at h
     ·rename_i hm;rw [Nat.ble_eq] at hm;obtain ⟨h1, h2⟩ := Ya h;simp only [Bool.and_eq_true, Nat.ble_eq, Yd] at h1;obtain ⟨⟨⟨⟨⟨rfl, h12⟩, h13⟩, h14⟩, h15⟩, rfl⟩ := h1;obtain ⟨h3, h4⟩ := Ybw h2;obtain ⟨h5, h6⟩ := Ybq h4;obtain ⟨hs1, h7, h8, h9, h10⟩ := Ycm h6 hpart hl;obtain ⟨hs2, ys, k1, k2, k3, k4, k5⟩ := Yig (Ydk f) h7 h8;refine ⟨_, _, k1, k2, fun p hp => k3 p (h9 p hp), ⟨_, rfl⟩, fun φ w0 M L w hS hall => ?_⟩;obtain ⟨R, hS'⟩ := hS.front (hall _ (k3 _ h10));have hnil : (φ id).nil = false := Yih h15 hS';have hcap : n <= (φ id).c := Yii hS';have hcell : ∀ i k x, cs[lo * ts.length + (i * ts.length + k)]? = some x -> w.cell? ⟨(φ id).b, lo * ts.length + i * ts.length + k, none⟩ = some (x.conc φ) := fun i k x hx => by
       refine Ybf hS' (k := lo * ts.length + i * ts.length + k) (v := x.conc φ) ?_
       show (AV.concL φ cs)[_]? = _
       rw [Yb6, Nat.add_assoc, hx];rfl
      have hrow : ∀ i k t, i < m -> ts[k]? = some t -> ∃ x, cs[lo * ts.length + (i * ts.length + k)]? = some x /\ ReadsIn hs2 t x (cel ys i k) := fun i k t hi ht => by
       obtain ⟨x, x1, x2⟩ := k5 i k t hi ht;refine ⟨x, ?_, x2⟩;rw [List.getElem?_take] at x1
       split at x1
       ·rwa [List.getElem?_drop] at x1
       ·cases x1
      show @RdV (atF w (InB φ hs2)) (.sl ts) (.slice (if (φ id).nil then none else some ⟨(φ id).b, lo * ts.length, none⟩) m ((φ id).c - lo)) (.l ys)
      rw [hnil];have e := @RdV.sl (atF w (InB φ hs2)) ts (some ⟨(φ id).b, lo * ts.length, none⟩) ((φ id).c - lo) (.l ys) (fun i k => (cs.getD (lo * ts.length + (i * ts.length + k)) .junk).conc φ)
       (by show ys.length <= _; omega) (by show ys.length <= _; unfold maxLen; omega) (fun _ => ?_) (fun i k t hi ht => ?_)
      ·rw [show (Cl.l ys).lst.length = m from k4] at e;exact e
      ·have key : ∀ i k, i < ys.length -> k < ts.length -> w.cell? ⟨(φ id).b, lo * ts.length + i * ts.length + k, none⟩ = some ((cs.getD (lo * ts.length + (i * ts.length + k)) .junk).conc φ) := fun i k hi hk => by
        obtain ⟨x, x1, _⟩ := hrow i k ts[k] (by omega) (List.getElem?_eq_getElem hk);rw [hcell i k x x1, List.getD_eq_getElem?_getD, x1];rfl
       exact ⟨_, _, rfl, ⟨Yx8 (key 0 0 (by omega) (by omega)), .inr ⟨_, k3 _ h10, .inl (by simp [It.conc, Res.foot, hnil, Value.ownBlock])⟩⟩, key⟩
      ·obtain ⟨x, x1, x2⟩ := hrow i k t (by have : i < ys.length := hi; omega) ht;rw [show (cs.getD (lo * ts.length + (i * ts.length + k)) AV.junk) = x by rw [List.getD_eq_getElem?_getD, x1]; rfl];exact x2 φ w0 M L w hS fun p hp => hall p hp
     ·exact Yeo h hpart
    ·exact Yeo h hpart
  ·exact Yeo h hpart
end
end Go.Proofs.Ytmogofidmchdoaa
namespace Go.Proofs.Ytmogofidmchdoaa
open Go.RowKit
variable [InW]
attribute [local irreducible] Go.Oper.wp
def It.own : It -> Bool
 | .fro .. => false
 | .frw .. => false
 | .dead => false
 | _ => true
def memN (i : Nat) : List Nat -> Bool
 | [] => false
 | j :: l => match Nat.beq j i with | true => true | false => memN i l
theorem Yjm {i : Nat} : ∀ {l : List Nat}, memN i l = true ↔ i ∈ l
 | [] => by simp [memN]
 | j :: l => by
  unfold memN;cases h : Nat.beq j i with
  | true => simp [Yd.1 h]
  | false =>
   have := Yx.1 h;simp only [List.mem_cons];exact ⟨fun h => .inr (Yjm.1 h), fun h => Yjm.2 (h.resolve_left fun e => this e.symm)⟩
def Ydy : Heap -> Heap
 | [] => []
 | p :: hs => match p.2.own with | true => (p.1, .dead) :: Ydy hs | false => Ydy hs
def Yhy (us : List Nat) (p : Nat × It) : Nat × It := if memN p.1 us = true then (p.1, .dead) else p
theorem Ycs : ∀ {hs : Heap}, ∀ p ∈ Ydy hs, p.2 = .dead /\ p.1 ∈ keys hs
 | [], p, hp => by cases hp
 | q :: hs, p, hp => by
  unfold Ydy at hp
  split at hp
  ·rcases List.mem_cons.1 hp with rfl | hp
   ·exact ⟨rfl, by simp [keys]⟩
   ·have := Ycs p hp;exact ⟨this.1, by simp only [keys, List.map_cons, List.mem_cons]; exact .inr this.2⟩
  ·have := Ycs p hp;exact ⟨this.1, by simp only [keys, List.map_cons, List.mem_cons]; exact .inr this.2⟩
theorem Yvk {i : Nat} : ∀ {hs : Heap}, (keys hs).Nodup -> upd hs i .dead = hs.map fun p => if p.1 = i then (p.1, .dead) else p
 | [], _ => rfl
 | q :: hs, hn => by
  simp only [keys, List.map_cons, List.nodup_cons] at hn;unfold upd;cases hb : Nat.beq q.1 i with
  | true =>
   have e := Yd.1 hb;simp only [List.map_cons, e, if_true, List.cons.injEq, true_and];symm;refine (List.map_congr_left fun p hp => ?_).trans (List.map_id' _);rw [if_neg];intro h;exact hn.1 (by rw [e, <- h]; exact List.mem_map_of_mem hp)
  | false =>
   simp only [List.map_cons, if_neg (Yx.1 hb), Yvk hn.2]
theorem Yes : ∀ {us hs : Heap}, (keys hs).Nodup -> (∀ p ∈ us, p.2 = .dead) -> Yh hs us = hs.map (Yhy (keys us))
 | [], hs, _, _ => by
  have : Yhy [] = id := by funext p; simp [Yhy, memN]
  simp [Yh, keys, this]
 | u :: us, hs, hn, hd => by
  have h1 : u.2 = .dead := hd u List.mem_cons_self;have h2 : (keys (upd hs u.1 .dead)).Nodup := by rw [Yjp]; exact hn
  rw [Yh, h1, Yes h2 fun p hp => hd p (List.mem_cons_of_mem _ hp), Yvk hn, List.map_map];refine List.map_congr_left fun p hp => ?_;simp only [Function.comp]
  by_cases e : p.1 = u.1
  ·simp only [e, if_true, Yhy, keys, List.map_cons, memN, Nat.beq_refl]
   split <;> simp
  ·simp only [if_neg e, Yhy, keys, List.map_cons, memN, Yx.2 (Ne.symm e)]
def SetF (φ : Phi) (hs : Heap) (us : List Nat) (b : Nat) : Prop := InW.F b \/ ∃ p ∈ hs, (p.2.conc φ p.1).frz b \/ p.1 ∈ us /\ b ∈ (p.2.conc φ p.1).foot
theorem InB.set {φ : Phi} {hs : Heap} {b : Nat} (h : InB φ hs b) : SetF φ hs (keys (Ydy hs)) b := by
 rcases h with h | ⟨p, hp, h⟩
 ·exact .inl h
 ·refine .inr ⟨p, hp, ?_⟩;rcases h with h | h
  ·refine .inr ⟨?_, h⟩;have ho : p.2.own = true := by
    cases hi : p.2 <;> first | rfl | (rw [hi] at h; simp [It.conc, Res.foot, Res.fro, Value.ownBlock] at h)
   clear h
   induction hs with
   | nil => cases hp
   | cons q hs ih =>
    unfold Ydy;rcases List.mem_cons.1 hp with rfl | hp
    ·rw [ho]; simp [keys]
    ·split
     ·simp only [keys, List.map_cons, List.mem_cons]; exact .inr (ih hp)
     ·exact ih hp
  ·exact .inl h
theorem Yll (φ : Phi) (us : List Nat) (p : Nat × It) : ((Yhy us p).2.conc φ (Yhy us p).1 = Res.row (.slice none 0 0) 0 0 0 [] /\ p.1 ∈ us) \/ (Yhy us p = p /\ p.1 ∉ us) := by
 unfold Yhy
 split
 ·rename_i h; exact .inl ⟨rfl, Yjm.1 h⟩
 ·rename_i h; exact .inr ⟨rfl, fun hm => h (Yjm.2 hm)⟩
theorem Yod {α : Type} {R : Res -> Res -> Prop} (hsy : ∀ a b, R a b -> R b a) {f : α -> Res} : ∀ {l : List α}, (l.map f).Pairwise R -> ∀ p ∈ l, ∀ q ∈ l, p ≠ q -> R (f p) (f q)
 | [], _, p, hp, _, _, _ => by cases hp
 | a :: l, h, p, hp, q, hq, hne => by
  simp only [List.map_cons, List.pairwise_cons] at h;rcases List.mem_cons.1 hp with e | hp2
  ·rcases List.mem_cons.1 hq with e2 | hq2
   ·exact absurd (e.trans e2.symm) hne
   ·rw [e]; exact h.1 _ (List.mem_map.2 ⟨q, hq2, rfl⟩)
  ·rcases List.mem_cons.1 hq with e2 | hq2
   ·rw [e2]; exact hsy _ _ (h.1 _ (List.mem_map.2 ⟨p, hp2, rfl⟩))
   ·exact Yod hsy h.2 p hp2 q hq2 hne
theorem Yg3 {b : Nat} : ¬ (Res.row (.slice none 0 0) 0 0 0 []).in_ b := fun h => h.elim (by simp [Res.foot, Value.ownBlock]) fun h => h
theorem St.give {φ : Phi} {w0 w : World} {M : List Nat} {hs us : Heap} {A R X : RL} (h : St w0 M (Yb φ hs ++ R) w) (hn : (keys hs).Nodup) (hd : ∀ p ∈ us, p.2 = .dead) (hX : ∀ x ∈ X, x.holds w) (hXs : X.Pairwise apart)
  (hXf : ∀ x ∈ X, ∀ b ∈ x.foot, ∃ p ∈ hs, p.1 ∈ keys us /\ b ∈ (p.2.conc φ p.1).foot) (hXz : ∀ x ∈ X, ∀ b, x.frz b -> SetF φ hs (keys us) b) : St w0 M (X ++ (Yb φ (Yh hs us) ++ R)) w := by
 have hsep := List.pairwise_append.1 h.sep;have hp := Yod (fun a b => apart.symm) (f := fun p : Nat × It => p.2.conc φ p.1) hsep.1;have hm : ∀ p ∈ hs, p.2.conc φ p.1 ∈ Yb φ hs := fun p hp => List.mem_map.2 ⟨p, hp, rfl⟩;rw [Yes hn hd, <- List.append_assoc];have hdead : (Res.row (.slice none 0 0) 0 0 0 []).holds w := ⟨by simp, .inl ⟨rfl, rfl⟩⟩;have hmem : ∀ r ∈ Yb φ (hs.map (Yhy (keys us))), r = Res.row (.slice none 0 0) 0 0 0 [] \/ ∃ p ∈ hs, p.1 ∉ keys us /\ r = p.2.conc φ p.1 := fun r hr => by
  obtain ⟨q, hq, rfl⟩ := List.mem_map.1 hr;obtain ⟨p, hpm, rfl⟩ := List.mem_map.1 hq;rcases Yll φ (keys us) p with ⟨e, _⟩ | ⟨e, h2⟩
  ·exact .inl e
  ·exact .inr ⟨p, hpm, h2, by rw [e]⟩
 refine St.repack h (L2 := X ++ Yb φ (hs.map (Yhy (keys us)))) ?_ ?_ ?_ ?_
 ·intro r hr;rcases List.mem_append.1 hr with hr | hr
  ·exact hX r hr
  ·rcases hmem r hr with rfl | ⟨p, hpm, _, rfl⟩
   ·exact hdead
   ·exact h.has _ (List.mem_append_left _ (hm p hpm))
 ·intro r hr b hb;rcases List.mem_append.1 hr with hr | hr
  ·obtain ⟨p, hpm, _, hb⟩ := hXf r hr b hb;exact ⟨_, hm p hpm, hb⟩
  ·rcases hmem r hr with rfl | ⟨p, hpm, _, rfl⟩
   ·exact absurd (.inl hb) Yg3
   ·exact ⟨_, hm p hpm, hb⟩
 ·intro r hr b hb;rcases List.mem_append.1 hr with hr | hr
  ·rcases hXz r hr b hb with h1 | ⟨p, hpm, h1⟩
   ·exact .inl h1
   ·exact .inr ⟨_, hm p hpm, h1.elim .inr fun h => .inl h.2⟩
  ·rcases hmem r hr with rfl | ⟨p, hpm, _, rfl⟩
   ·exact False.elim hb
   ·exact .inr ⟨_, hm p hpm, .inr hb⟩
 ·refine List.pairwise_append.2 ⟨hXs, ?_, fun x hx r hr => ?_⟩
  ·unfold Yb;rw [List.map_map, List.pairwise_map];have h2 := List.pairwise_map.1 hsep.1;refine h2.imp fun {p q} hpq => ?_;simp only [Function.comp];rcases Yll φ (keys us) p with ⟨e, _⟩ | ⟨e, _⟩
   ·rw [e]; exact ⟨fun b hb => absurd (.inl hb) Yg3, fun b _ => Yg3⟩
   ·rw [e];rcases Yll φ (keys us) q with ⟨e, _⟩ | ⟨e, _⟩
    ·rw [e]; exact ⟨fun b _ => Yg3, fun b hb => absurd (.inl hb) Yg3⟩
    ·rw [e]; exact hpq
  ·rcases hmem r hr with rfl | ⟨p, hpm, hnp, rfl⟩
   ·exact ⟨fun b _ => Yg3, fun b hb => absurd (.inl hb) Yg3⟩
   ·refine ⟨fun b hb => ?_, fun b hb hb' => ?_⟩
    ·obtain ⟨q, hqm, hq, hb⟩ := hXf x hx b hb;exact (hp q hqm p hpm fun e => hnp (e ▸ hq)).1 b hb
    ·rcases hb' with hb' | hb'
     ·obtain ⟨q, hqm, hq, hb'⟩ := hXf x hx b hb';exact (hp q hqm p hpm fun e => hnp (e ▸ hq)).2 b hb (.inl hb')
     ·rcases hXz x hx b hb' with h1 | ⟨q, hqm, h1⟩
      ·exact h.farF (List.mem_append_left _ (hm p hpm)) hb h1
      ·rcases h1 with h1 | h1
       ·exact h.farZ (List.mem_append_left _ (hm p hpm)) (List.mem_append_left _ (hm q hqm)) hb h1
       ·exact (hp q hqm p hpm fun e => hnp (e ▸ h1.1)).2 b hb (.inl h1.2)
def Res.rdl (F : Nat -> Prop) (ts : List Ty) (vs : List Value) (xs : Dt) : Res := .abs [] F fun w => RowsRd w F ts vs xs
theorem Yko {F : Nat -> Prop} {ts : List Ty} {vs : List Value} {xs : Dt} {w : World} (hb : ∀ b, F b -> b < w.heap.size) (h : RowsRd w F ts vs xs) : (Res.rdl F ts vs xs).holds w :=
 ⟨fun b h => hb b (h.resolve_left (by simp)), by simp, fun w' hk => h.grow (fun b h1 h2 => ⟨Yfd h1 (hk b (.inr h2)), h2⟩) fun b _ h2 => hk b (.inr h2)⟩
theorem Y18 {F : Nat -> Prop} {ts : List Ty} {vs : List Value} {xs : Dt} {w : World} (h : (Res.rdl F ts vs xs).holds w) : RowsRd w F ts vs xs := h.2.2 w fun _ _ => rfl
theorem St.joinN {w0 w : World} {M : List Nat} {R : RL} {v : Value} {e : TypeId} {ts : List Ty} {n : Nat} {vs : List Value} {xs : Dt} {F : Nat -> Prop} (h : St w0 M (.row v e ts.length n vs :: Res.rdl F ts vs xs :: R) w) (hn : xs.length = n) : St w0 M (.nst v e ts n xs F :: R) w := by
 have h1 := h.has _ List.mem_cons_self;have h2 := h.has _ (List.mem_cons_of_mem _ List.mem_cons_self);have hsep := (List.pairwise_cons.1 h.sep).1 _ List.mem_cons_self;refine St.repack (L1 := [.row v e ts.length n vs, Res.rdl F ts vs xs]) (L2 := [.nst v e ts n xs F]) h ?_ ?_ ?_ (by simp)
 ·intro r hr;rw [List.mem_singleton] at hr;subst hr;exact Yhp (fun b hb => Res.lt2 h2 b (.inr hb)) (fun b hb hz => hsep.1 b hb (.inr hz)) ⟨hn, vs, h1, Y18 h2⟩
 ·intro r hr b hb;rw [List.mem_singleton] at hr;subst hr;exact ⟨_, List.mem_cons_self, hb⟩
 ·intro r hr b hb;rw [List.mem_singleton] at hr;subst hr;exact .inr ⟨_, List.mem_cons_of_mem _ List.mem_cons_self, .inr hb⟩
theorem Y0r {xs ys : Dt} {i j : Nat} (h : xs[i]? = ys[j]?) (k : Nat) : cel xs i k = cel ys j k := by
 unfold cel;simp only [List.getD_eq_getElem?_getD, h]
theorem Yuf {w : World} {F : Nat -> Prop} {ts : List Ty} {vs us : List Value} {xs ys : Dt} (hl : vs.length = xs.length * ts.length) (h1 : RowsRd w F ts vs xs) (h2 : RowsRd w F ts us ys) : RowsRd w F ts (vs ++ us) (xs ++ ys) := fun i k t hi ht => by
 have hk : k < ts.length := by
  rcases Nat.lt_or_ge k ts.length with a | a
  ·exact a
  ·rw [List.getElem?_eq_none a] at ht; cases ht
 rcases Nat.lt_or_ge i xs.length with h | h
 ·obtain ⟨u, h3, h4⟩ := h1 i k t h ht;have hlt : i * ts.length + k < vs.length := (List.getElem?_eq_some_iff.1 h3).1;refine ⟨u, by rw [List.getElem?_append_left hlt, h3], ?_⟩;have e : cel (xs ++ ys) i k = cel xs i k := Y0r (List.getElem?_append_left h) k;rwa [e]
 ·rw [List.length_append] at hi;obtain ⟨u, h3, h4⟩ := h2 (i - xs.length) k t (by omega) ht;have e1 : i * ts.length = xs.length * ts.length + (i - xs.length) * ts.length := by rw [<- Nat.add_mul]; congr 1; omega
  refine ⟨u, ?_, ?_⟩
  ·rw [List.getElem?_append_right (by rw [hl]; omega), hl, <- h3]
   congr 1
   omega
  ·have e : cel (xs ++ ys) i k = cel ys (i - xs.length) k := Y0r (List.getElem?_append_right h) k;rwa [e]
end Go.Proofs.Ytmogofidmchdoaa
namespace Go.Proofs.Ytmogofidmchdoaa
open Go.RowKit
variable [InW]
attribute [local irreducible] Go.Oper.wp
section
variable {P : Program} {tm : List AV} {dst : Option Tmp} {type : TypeId} {pos : String} {after : Array Edge} {guard : Option (Nat × Bool)}
def Ycq (d j : Nat) : Nat := 3 * (j * 1024 + d) + 2
theorem SetF.lt {w0 w : World} {M : List Nat} {L : RL} {φ : Phi} {hs : Heap} {us : List Nat} (hS : St w0 M L w) (hm : ∀ p ∈ hs, p.2.conc φ p.1 ∈ L) {b : Nat} (h : SetF φ hs us b) : b < w.heap.size := by
 rcases h with h | ⟨p, hp, h⟩
 ·exact Nat.lt_of_lt_of_le (InW.lt b h) (Nat.le_trans hS.inw.base hS.kept.size)
 ·exact Res.lt2 (hS.has _ (hm p hp)) b (h.elim .inr fun h => .inl h.2)
theorem SetF.nil {φ : Phi} {hs : Heap} {b : Nat} (h : SetF φ hs [] b) : InW.F b \/ ∃ q ∈ Yb φ hs, q.frz b := by
 rcases h with h | ⟨p, hp, h⟩
 ·exact .inl h
 ·exact .inr ⟨_, List.mem_map.2 ⟨p, hp, rfl⟩, h.resolve_right fun h => by cases h.1⟩
theorem Yda {φ : Phi} {hs : Heap} {R : RL} : ∀ p ∈ hs, p.2.conc φ p.1 ∈ Yb φ hs ++ R := fun p hp => List.mem_append_left _ (List.mem_map.2 ⟨p, hp, rfl⟩)
def Y1w (φ : Phi) (hs : Heap) (w : World) (ts : List Ty) (xs : Dt) (i b off : Nat) : Prop :=
 ∃ u : Nat -> Value, ∀ k, k < ts.length -> w.cell? ⟨b, off + k, none⟩ = some (u k) /\ @RdV (atF w (SetF φ hs [])) (tyAt ts k) (u k) (cel xs i k)
theorem Ynv {ts : List Ty} {k : Nat} (hk : k < ts.length) : ts[k]? = some (tyAt ts k) := by
 rw [Ydp, List.getD_eq_getElem?_getD, List.getElem?_eq_getElem hk, Option.getD_some]
theorem Yxc {w0 w : World} {M : List Nat} {R : RL} {φ : Phi} {id i : Nat} {ts : List Ty} {xs : Dt} (hS : St w0 M (Yb φ [(id, It.fro ts xs)] ++ R) w) (hi : i < xs.length) : ∃ b off c, (φ id).v = .slice (some ⟨b, off, none⟩) xs.length c /\ Y1w φ [(id, .fro ts xs)] w ts xs i b (off + i * ts.length) := by
 obtain ⟨v', hv'⟩ : ∃ v', v' = (φ id).v := ⟨_, rfl⟩;have h := Ytu (hS.has _ List.mem_cons_self);unfold froP at h
 change @RdV (atF w (φ id).F) (.sl ts) (φ id).v (.l xs) at h
 rw [<- hv'] at h ⊢;cases h with
 | sl _ A c _ u hc hm ha hr =>
  simp only [Cl.lst] at hc hm ha hr;obtain ⟨b, off, rfl, h2, h3⟩ := ha (fun e => by rw [e] at hi; simp at hi);refine ⟨b, off, c, rfl, fun k => u i k, fun k hk => ⟨h3 i k hi hk, (hr i k _ hi (Ynv hk)).grow (fun b h1 h2 => ⟨h1, .inr ⟨_, List.mem_cons_self, .inl h2⟩⟩) fun _ _ _ => rfl⟩⟩
end
end Go.Proofs.Ytmogofidmchdoaa
namespace Go.Proofs.Ytmogofidmchdoaa
open Go.RowKit
variable [InW]
attribute [local irreducible] Go.Oper.wp
section
variable {P : Program} {tm : List AV} {dst : Option Tmp} {type : TypeId} {pos : String} {after : Array Edge} {guard : Option (Nat × Bool)}
theorem Yua {w0 w : World} {M : List Nat} {R : RL} {K : Act -> World -> Prop} {Q : Exit -> Act -> World -> Prop} {a : Act} {T e : TypeId} {by_ sz m c n : Nat} {zs : Array Value} {s x : Operand} {v : Value} {A : Option Addr} {vs news : List Value} (h : St w0 M (.row v e sz n vs :: R) w) (ht : SliceOf P T e sz by_ zs) (hz : zs.size = sz) (hsz : 0 < sz)
  (hs : a.eval s = v) (hx : a.eval x = .slice A m c) (hl : news.length = m * sz) (hsrc : m = 0 \/ ∃ b off, A = some ⟨b, off, none⟩ /\ ∀ j u, news[j]? = some u -> w.cell? ⟨b, off + j, none⟩ = some u) (h1 : ∀ u ∈ news, u.oneCell' = true) (h63 : n + m <= maxLen) (hb : (n + m) * by_ <= 140737488355328)
  (kk : ∀ v' w', St w0 M (.row v' e sz (n + m) (vs ++ news) :: R) w' -> K (a.put dst v') w') :
  Oper.wp P { dst, op := .call { callee := .builtin .append, args := #[s, x], argTypes := #[T, T] }, type, pos, after, guard } a w K Q := by
 rcases Nat.eq_zero_or_pos m with h0 | h0
 ·subst h0;have hn : news = [] := List.length_eq_zero_iff.1 (by rw [hl, Nat.zero_mul]);subst hn;have hrow := h.row .head;obtain ⟨A', c', hv, hc'⟩ : ∃ A' c', v = .slice A' n c' /\ n <= c' := by
   rcases hrow.2 with ⟨rfl, rfl⟩ | ⟨g, cap, cur, rfl, _, _, hnc, _⟩
   ·exact ⟨none, 0, rfl, Nat.le_refl _⟩
   ·exact ⟨_, _, rfl, hnc⟩
  obtain ⟨i, z, hi, hz1, hz2, his, hib⟩ := ht.parts;have hsrc : Src P i.size T (.slice A 0 c) 0 [] w := by
   cases A with
   | none => exact Src.ofNil w ht.1 c
   | some b => exact Src.ofSlice w ht.1 b 0 c [] (by simp) (by simp) (by simp)
  have hr := run_append_nothing w T T type e i ht.1 hi A' n c' hc' _ hsrc;have h4 := kk v w (by simpa using h);unfold Oper.wp execOp;simp only [resolve, invoke, builtin, Sem.run_bind, Sem.run_pure, Result.andThen_ok, List.map_toArray, List.map_cons, List.map_nil, hs, hx];rw [hv] at h4 ⊢;rw [hr];exact h4
 ·obtain ⟨b, off, rfl, hcell⟩ := hsrc.resolve_left (by omega);exact Yfc (news := news) h ht hz hsz (by rw [Ycf, hs]) (by rw [Ycf, hx]) .head hl (fun j u hj => by rw [Yp]; exact hcell j u hj) h1 h63 hb fun v' w' _ hS' => kk v' w' hS'
def SrcN (xv : AV) (hs us : Heap) (ts : List Ty) (ys : Dt) : Prop :=
 ∀ (φ : Phi) (w0 : World) (M : List Nat) (R : RL) (w : World), St w0 M (Yb φ hs ++ R) w -> ∃ A c vs, xv.conc φ = .slice A ys.length c /\ vs.length = ys.length * ts.length /\ (ys.length = 0 \/ ∃ b off, A = some ⟨b, off, none⟩ /\ ∀ j u, vs[j]? = some u -> w.cell? ⟨b, off + j, none⟩ = some u) /\ (∀ u ∈ vs, u.oneCell' = true) /\ RowsRd w (SetF φ hs (keys us)) ts vs ys
def DstN (sv : AV) (ds : Heap) (e : Nat) (ts : List Ty) (xs : Dt) : Prop :=
 ∀ (φ : Phi) (w0 : World) (M : List Nat) (R : RL) (w : World), St w0 M (Yb φ ds ++ R) w -> ∃ vs, w.ownsRow 0 e ts.length (sv.conc φ) xs.length vs /\ (∀ b ∈ (sv.conc φ).ownBlock.toList, ∃ p ∈ ds, b ∈ (p.2.conc φ p.1).foot) /\ RowsRd w (SetF φ ds []) ts vs xs
def Yd3 (ds : Heap) : Heap := ds.map fun p => (p.1, .dead)
theorem Yv8 {W : InW} {t : Ty} {v : Value} {c : Cl} (h : @RdV W t v c) : v.oneCell' = true := by cases h <;> rfl
theorem Yna (ds : Heap) : keys (Yd3 ds) = keys ds := by simp [keys, Yd3]
theorem Yqh {φ φ' : Phi} {ks : List Nat} (hag : Agree ks φ φ') {hs : Heap} {us : List Nat} (h : ∀ i ∈ ks, hasH i hs = false) : Yb φ' (hs.map (Yhy us)) = Yb φ (hs.map (Yhy us)) := by
 unfold Yb;rw [List.map_map, List.map_map];refine List.map_congr_left fun p hp => ?_;simp only [Function.comp];unfold Yhy
 split
 ·rfl
 ·exact Yge hag (fun hm => (Yt (h _ hm) hp).1 rfl) _ fun i hi => (Yt (h i hi) hp).2
theorem Yf1 {T e : TypeId} {by_ id' : Nat} {zs : List AV} {s x : Operand} {sv xv : AV} {ds hs us : Heap} {ts : List Ty} {xs ys : Dt} (ht : (mkTI P T).slice = some (e, ts.length, by_, zs)) (hz : zs.length = ts.length) (hsz : 0 < ts.length) (hsv : At tm s sv) (hsj : sv.rd = true) (hx : At tm x xv) (hxj : xv.rd = true)
  (hdst : DstN sv ds e ts xs) (hsrc : SrcN xv hs us ts ys) (hnd : (keys (ds ++ hs)).Nodup) (hus : ∀ p ∈ us, p.2 = .dead) (hkey : ∀ i ∈ keys us, i ∈ keys hs)
  (h63 : xs.length + ys.length <= maxLen) (hb : (xs.length + ys.length) * by_ <= 140737488355328) :
  Does P { dst, op := .call { callee := .builtin .append, args := #[s, x], argTypes := #[T, T] }, type, pos, after, guard } tm (ds ++ hs) (.rw id') (Yd3 ds ++ us) [(id', .nst e ts (xs ++ ys))] :=
 fun φ w0 M R a w K Q ho hn hS kk => by
  have e1 := ho s (by simp [Op.operands, Call.operands]) _ hsv hsj;have e2 := ho x (by simp [Op.operands, Call.operands]) _ hx hxj;have hSd : St w0 M (Yb φ ds ++ (Yb φ hs ++ R)) w := by rw [Yk, List.append_assoc] at hS; exact hS
  have hSs : St w0 M (Yb φ hs ++ (Yb φ ds ++ R)) w := hSd.perm (by rw [<- List.append_assoc, <- List.append_assoc]; exact List.perm_append_comm.append_right R);obtain ⟨vs, d1, d2, d3⟩ := hdst φ w0 M _ w hSd;obtain ⟨A, c, us', s1, s2, s3, s4, s5⟩ := hsrc φ w0 M _ w hSs;rw [s1] at e2;have hkd : ∀ p ∈ ds, ∀ q ∈ hs, p.1 ≠ q.1 := fun p hp q hq e => by
   rw [Ybi, List.nodup_append] at hnd;exact hnd.2.2 _ (List.mem_map_of_mem hp) _ (List.mem_map_of_mem hq) e
  have hmd : ∀ p ∈ ds, p ∈ ds ++ hs := fun p hp => List.mem_append_left _ hp;have hms : ∀ p ∈ hs, p ∈ ds ++ hs := fun p hp => List.mem_append_right _ hp;have hpm := Yod (fun a b => apart.symm) (f := fun p : Nat × It => p.2.conc φ p.1) (List.pairwise_append.1 hS.sep).1
  let Fn : Nat -> Prop := fun b => SetF φ ds [] b \/ SetF φ hs (keys us) b
  have hFlt : ∀ b, Fn b -> b < w.heap.size := fun b hb => hb.elim (SetF.lt hSd Yda) (SetF.lt hSs Yda);have hdead : ∀ p ∈ Yd3 ds ++ us, p.2 = .dead := fun p hp => by
   rcases List.mem_append.1 hp with hp | hp
   ·obtain ⟨q, _, rfl⟩ := List.mem_map.1 hp; rfl
   ·exact hus p hp
  have hkm : ∀ p ∈ ds, p.1 ∈ keys (Yd3 ds ++ us) := fun p hp => by
   rw [Ybi, Yna];exact List.mem_append_left _ (List.mem_map_of_mem hp)
  have hvl : vs.length = xs.length * ts.length := d1.1;have h2 := St.give (X := [.row (sv.conc φ) e ts.length xs.length vs, Res.rdl Fn ts (vs ++ us') (xs ++ ys)]) (us := Yd3 ds ++ us) (A := []) hS hnd hdead ?_ ?_ ?_ ?_
  ·refine Yua h2 (Yo ht φ).1 (by simp [Yf, hz]) hsz e1 e2 s2 s3 s4 h63 hb fun v' w' hS' => ?_;have hJ := hS'.joinN (by simp);obtain ⟨hd, hfn, hv⟩ := Ykj (hS'.row .head);subst hv;have hag := Yy φ id' { hd with F := Fn };have hnx := (hn id' (by simp [keys])).2;have eh : Yb (fun i => if i = id' then { hd with F := Fn } else φ i) (Yh (ds ++ hs) (Yd3 ds ++ us)) = Yb φ (Yh (ds ++ hs) (Yd3 ds ++ us)) := by
    rw [Yes hnd hdead];exact Yqh hag fun i hi => by rw [List.mem_singleton.1 hi]; exact hnx
   have := kk _ w' hag (by
    rw [Yk, eh];have e3 : Yb (fun i => if i = id' then { hd with F := Fn } else φ i) [(id', It.nst e ts (xs ++ ys))] = [Res.nst (.slice (if hd.nil then none else some ⟨hd.b, 0, none⟩) (xs.length + ys.length) hd.c) e ts (xs.length + ys.length) (xs ++ ys) Fn] := by simp [Yb, It.conc, hfn]
    rw [e3, List.append_assoc];exact hJ.perm (by simpa using List.perm_middle.symm))
   simpa [AV.conc, hfn] using this
  ·intro r hr;simp only [List.mem_cons, List.not_mem_nil, or_false] at hr;rcases hr with rfl | rfl
   ·exact d1
   ·exact Yko hFlt (Yuf hvl (d3.grow (fun b h1 h2 => ⟨h1, .inl h2⟩) fun _ _ _ => rfl) (s5.grow (fun b h1 h2 => ⟨h1, .inr h2⟩) fun _ _ _ => rfl))
  ·refine List.Pairwise.cons (fun r hr => ?_) (by simp);rw [List.mem_singleton] at hr;subst hr;refine ⟨fun b hb hb' => ?_, fun b hb => by simp [Res.rdl, Res.foot] at hb⟩;obtain ⟨p, hp, hpb⟩ := d2 b hb;have hpL := Yda (φ := φ) (R := R) p (hmd p hp);rcases hb' with hb' | hb'
   ·simp [Res.rdl, Res.foot] at hb'
   ·have hb' : Fn b := hb';rcases hb' with hb' | hb'
    ·rcases SetF.nil hb' with h1 | ⟨q, hq, h1⟩
     ·exact hS.farF hpL hpb h1
     ·obtain ⟨q', hq', rfl⟩ := List.mem_map.1 hq;exact hS.farZ hpL (Yda q' (hmd q' hq')) hpb h1
    ·rcases hb' with h1 | ⟨q, hq, h1⟩
     ·exact hS.farF hpL hpb h1
     ·rcases h1 with h1 | h1
      ·exact hS.farZ hpL (Yda q (hms q hq)) hpb h1
      ·exact (hpm p (hmd p hp) q (hms q hq) fun e => hkd p hp q hq (by rw [e])).1 b hpb (.inl h1.2)
  ·intro r hr b hb;simp only [List.mem_cons, List.not_mem_nil, or_false] at hr;rcases hr with rfl | rfl
   ·obtain ⟨p, hp, hpb⟩ := d2 b hb;exact ⟨p, hmd p hp, hkm p hp, hpb⟩
   ·simp [Res.rdl, Res.foot] at hb
  ·intro r hr b hb;simp only [List.mem_cons, List.not_mem_nil, or_false] at hr;rcases hr with rfl | rfl
   ·exact False.elim hb
   ·have hb : Fn b := hb;rcases hb with hb | hb
    ·rcases hb with h1 | ⟨q, hq, h1⟩
     ·exact .inl h1
     ·exact .inr ⟨q, hmd q hq, .inl (h1.resolve_right fun h => by cases h.1)⟩
    ·rcases hb with h1 | ⟨q, hq, h1⟩
     ·exact .inl h1
     ·refine .inr ⟨q, hms q hq, h1.imp (fun h => h) fun h => ⟨?_, h.2⟩⟩;rw [Ybi];exact List.mem_append_right _ h.1
theorem Y0w {xv : AV} {hs : Heap} {ts : List Ty} {ys : Dt} (hts : 0 < ts.length) (h : ReadsIn hs (.sl ts) xv (.l ys)) : SrcN xv hs (Ydy hs) ts ys := fun φ w0 M R w hS => by
 have hr := h φ w0 M _ w hS Yda;generalize xv.conc φ = v at hr;cases hr with
 | sl _ A c _ u hc hm ha hr =>
  simp only [Cl.lst] at hc hm ha hr ⊢;have hget : ∀ i k, i < ys.length -> k < ts.length -> ((List.range (ys.length * ts.length)).map fun j => u (j / ts.length) (j % ts.length))[i * ts.length + k]? = some (u i k) := fun i k hi hk => by
   have hlt : i * ts.length + k < ys.length * ts.length := by
    have := Nat.mul_le_mul_right ts.length (show i + 1 <= ys.length by omega);rw [Nat.add_mul] at this; omega
   rw [List.getElem?_map, List.getElem?_range hlt, Option.map_some];rw [Nat.mul_comm, Nat.mul_add_div hts, Nat.div_eq_of_lt hk, Nat.add_zero, Nat.mul_add_mod, Nat.mod_eq_of_lt hk]
  refine ⟨A, c, (List.range (ys.length * ts.length)).map fun j => u (j / ts.length) (j % ts.length), rfl, by simp, ?_, ?_, ?_⟩
  ·rcases Nat.eq_zero_or_pos ys.length with h0 | h0
   ·exact .inl h0
   ·obtain ⟨b, off, rfl, _, h3⟩ := ha (fun e => by rw [e] at h0; simp at h0);refine .inr ⟨b, off, rfl, fun j v hj => ?_⟩;rw [List.getElem?_map] at hj;rcases Nat.lt_or_ge j (ys.length * ts.length) with hlt | hge
    ·rw [List.getElem?_range hlt] at hj;simp only [Option.map_some, Option.some.injEq] at hj;subst hj;have h4 : j / ts.length < ys.length := Nat.div_lt_of_lt_mul (by rwa [Nat.mul_comm]);have h5 := h3 (j / ts.length) (j % ts.length) h4 (Nat.mod_lt _ hts);rwa [Nat.add_assoc, Nat.mul_comm (j / ts.length), Nat.div_add_mod] at h5
    ·rw [List.getElem?_eq_none (by simpa using hge)] at hj; cases hj
  ·intro v hv;obtain ⟨j, hj, rfl⟩ := List.mem_map.1 hv;rw [List.mem_range] at hj;have h4 : j / ts.length < ys.length := Nat.div_lt_of_lt_mul (by rwa [Nat.mul_comm]);exact Yv8 (hr (j / ts.length) (j % ts.length) _ h4 (Ynv (Nat.mod_lt _ hts)))
  ·intro i k t hi ht;have hk : k < ts.length := by
    rcases Nat.lt_or_ge k ts.length with a | a
    ·exact a
    ·rw [List.getElem?_eq_none a] at ht; cases ht
   exact ⟨_, hget i k hi hk, (hr i k t hi ht).grow (fun b h1 h2 => ⟨h1, h2.set⟩) fun _ _ _ => rfl⟩
theorem Ys5 {w : World} {F : Nat -> Prop} {ts : List Ty} {vs : List Value} {xs : Dt} (hts : 0 < ts.length) (hl : vs.length = xs.length * ts.length) (h : RowsRd w F ts vs xs) : ∀ u ∈ vs, u.oneCell' = true := fun u hu => by
 obtain ⟨j, hj, rfl⟩ := List.getElem_of_mem hu;rw [hl] at hj;have h4 : j / ts.length < xs.length := Nat.div_lt_of_lt_mul (by rwa [Nat.mul_comm]);obtain ⟨v, h5, h6⟩ := h (j / ts.length) (j % ts.length) _ h4 (Ynv (Nat.mod_lt _ hts));rw [Nat.mul_comm, Nat.div_add_mod, List.getElem?_eq_getElem (by rw [hl]; exact hj)] at h5;cases h5;exact Yv8 h6
theorem Yyp {ts : List Ty} {T id : Nat} {xs : Dt} (hts : 0 < ts.length) : SrcN (.rw id) [(id, .nst T ts xs)] [] ts xs := fun φ w0 M R w hS => by
 have hS' : St w0 M ((It.nst T ts xs).conc φ id :: R) w := hS;obtain ⟨e, vs, hrow, hr⟩ := Ydv hS';have hl : vs.length = xs.length * ts.length := by rw [<- e]; exact hrow.1
 refine ⟨_, _, vs, by simp only [AV.conc, e]; rfl, hl, ?_, Ys5 hts hl hr, hr.grow (fun b h1 h2 => ⟨h1, .inr ⟨_, List.mem_cons_self, .inl h2⟩⟩) fun _ _ _ => rfl⟩;rcases Nat.eq_zero_or_pos xs.length with h0 | h0
 ·exact .inl h0
 ·refine .inr ⟨(φ id).b, 0, by rw [Ydg h0 hS']; rfl, fun j u hu => ?_⟩;rw [Nat.zero_add];exact Yev hrow hu
theorem Yvv {ts : List Ty} {T id l n : Nat} {xs : Dt} (hts : 0 < ts.length) (hl : l + n <= xs.length) : SrcN (.rwp id ts.length l n) [(id, .nst T ts xs)] [] ts ((xs.drop l).take n) := fun φ w0 M R w hS => by
 have hS' : St w0 M ((It.nst T ts xs).conc φ id :: R) w := hS;obtain ⟨e, vs, hrow, hr⟩ := Ydv hS';have hvl : vs.length = xs.length * ts.length := by rw [<- e]; exact hrow.1
 have hlen : ((xs.drop l).take n).length = n := by rw [List.length_take, List.length_drop]; omega
 rcases Nat.eq_zero_or_pos n with h0 | h0
 ·subst h0;refine ⟨_, _, [], by rw [hlen]; rfl, by simp, .inl hlen, by simp, fun i k t hi => by rw [hlen] at hi; omega⟩
 ·have hp := Yki hr hl;have hle : n * ts.length <= (vs.drop (l * ts.length)).length := by
   rw [List.length_drop, hvl, <- Nat.sub_mul]; exact Nat.mul_le_mul_right _ (by omega)
  have hp2 : RowsRd w (φ id).F ts ((vs.drop (l * ts.length)).take (n * ts.length)) ((xs.drop l).take n) := fun i k t hi ht => by
   obtain ⟨u, h1, h2⟩ := hp i k t hi ht;rw [hlen] at hi;have hk : k < ts.length := by
    rcases Nat.lt_or_ge k ts.length with a | a
    ·exact a
    ·rw [List.getElem?_eq_none a] at ht; cases ht
   have hlt : i * ts.length + k < n * ts.length := by
    have := Nat.mul_le_mul_right ts.length (show i + 1 <= n by omega);rw [Nat.add_mul] at this; omega
   exact ⟨u, by rw [List.getElem?_take, if_pos hlt, h1], h2⟩
  have hl2 : ((vs.drop (l * ts.length)).take (n * ts.length)).length = ((xs.drop l).take n).length * ts.length := by rw [List.length_take, hlen]; omega
  refine ⟨_, _, (vs.drop (l * ts.length)).take (n * ts.length), by rw [Ykz hS' hl h0, hlen], hl2, .inr ⟨_, _, rfl, fun j u hu => ?_⟩, Ys5 hts hl2 hp2, hp2.grow (fun b h1 h2 => ⟨h1, .inr ⟨_, List.mem_cons_self, .inl h2⟩⟩) fun _ _ _ => rfl⟩;rw [List.getElem?_take] at hu
  split at hu
  ·rw [List.getElem?_drop] at hu; exact Yev hrow hu
  ·cases hu
theorem Yzm {ts : List Ty} {T id : Nat} {xs : Dt} : DstN (.rw id) [(id, .nst T ts xs)] T ts xs := fun φ w0 M R w hS => by
 have hS' : St w0 M ((It.nst T ts xs).conc φ id :: R) w := hS;obtain ⟨e, vs, hrow, hr⟩ := Ydv hS';refine ⟨vs, by simp only [AV.conc]; rw [<- e]; exact hrow, fun b hb => ⟨_, List.mem_cons_self, hb⟩, hr.grow (fun b h1 h2 => ⟨h1, .inr ⟨_, List.mem_cons_self, .inl h2⟩⟩) fun _ _ _ => rfl⟩
theorem Yzn {ts : List Ty} {e : Nat} : DstN (.v (.slice none 0 0)) [] e ts [] := fun φ w0 M R w hS =>
 ⟨[], ⟨by simp, .inl ⟨rfl, rfl⟩⟩, fun b hb => by simp [AV.conc, Value.ownBlock] at hb, fun i k t hi => by simp at hi⟩
theorem Yzl {ts : List Ty} {T id : Nat} : DstN (.sl id 0 0 0) [(id, .row T ts.length 0 [])] T ts [] := fun φ w0 M R w hS => by
 have hS' : St w0 M ((It.row T ts.length 0 []).conc φ id :: R) w := hS;have hrow : w.ownsRow 0 T ts.length (.slice (if (φ id).nil then none else some ⟨(φ id).b, 0, none⟩) 0 (φ id).c) 0 [] := hS'.look Look.head;exact ⟨[], hrow, fun b hb => ⟨_, List.mem_cons_self, hb⟩, fun i k t hi => by simp at hi⟩
end
end Go.Proofs.Ytmogofidmchdoaa
namespace Go.Proofs.Ytmogofidmchdoaa
open Go.RowKit
variable [InW]
attribute [local irreducible] Go.Oper.wp
def nstB (hp : Heap) (id : Nat) : Bool := match look hp id with | some (.nst _ _ _) => true | _ => false
def froB (hp : Heap) (id : Nat) : Bool := match look hp id with | some (.fro _ _) => true | _ => false
def isN (x : AV) (hp : Heap) : Bool :=
 match x with
 | .rw id => nstB hp id
 | .ep id _ _ _ => nstB hp id
 | .rwp id _ _ _ => nstB hp id
 | .opq id => froB hp id
 | .fp id _ _ _ => froB hp id
 | _ => false
def Yro (c : Cx) (T : TypeId) (s j : AV) (hp : Heap) (k : KE) : Prop :=
 intK j (fun kd i => tiK c.tt T fun ti => match ti.slice with
  | some (e, sz, by_, zs) => (match s with
   | .rw id => Y0 hp id fun it => (match it with
    | .nst T' ts xs => Yc (Nat.beq sz ts.length) (Need (decide (0 <= i) && decide (i < (xs.length : Int))) (k (.ep id ts.length i.toNat 0) [(id, .nst T' ts xs)] [] []))
    | _ => Stuck 501)
   | .rwp id sz' l n => Y0 hp id fun it => (match it with
    | .nst T' ts xs => Yc (Nat.beq sz ts.length && Nat.beq sz' ts.length) (Need (decide (0 <= i) && decide (i < (n : Int)) && decide (l + n <= xs.length)) (k (.ep id ts.length (l + i.toNat) 0) [(id, .nst T' ts xs)] [] []))
    | _ => Stuck 502)
   | .opq id => Y0 hp id fun it => (match it with
    | .fro ts xs => Yc (Nat.beq sz ts.length) (Need (decide (0 <= i) && decide (i < (xs.length : Int))) (k (.fp id ts.length i.toNat 0) [(id, .fro ts xs)] [] []))
    | _ => Stuck 503)
   | _ => Stuck 504)
  | none => Stuck 505) (Stuck 506)
def rowAt (s j : AV) (hp : Heap) : Bool := match s, j with | .sl id _ _ _, .si _ _ => (match look hp id with | some (.row _ _ _ _) => true | _ => false) | _, _ => false
def Yrn (c : Cx) (T : TypeId) (s j : AV) (hp : Heap) (k : KE) : Prop :=
 match s, j with
 | .sl id off lo n, .si kd i => tiK c.tt T fun ti => (match ti.slice with
  | some (e, sz, by_, zs) => Y0 hp id fun it => Yc (Yio it) (Need (decide (0 <= i) && decide (i < (n : Int))) (Ypl i sz n 0 off fun a => k (.ptr id a) [(id, it)] [] []))
  | none => Stuck 541)
 | _, _ => Stuck 542
noncomputable def Ys1 (c : Cx) (T d : Nat) (p : AV) (hp : Heap) (k : KE) : Prop := Stuck 99
def Yrl (c : Cx) (tys : List TypeId) (v : AV) (hp : Heap) (k : KE) : Prop :=
 match tys with
 | [T] => tiK c.tt T fun ti => (match ti.slice with
  | some _ => (match v with
   | .rw id => Y0 hp id fun it => (match it with | .nst T' ts xs => k (.si .i64 (xs.length : Int)) [(id, .nst T' ts xs)] [] [] | _ => Stuck 512)
   | .opq id => Y0 hp id fun it => (match it with | .fro ts xs => k (.si .i64 (xs.length : Int)) [(id, .fro ts xs)] [] [] | _ => Stuck 513)
   | .rwp id sz' l n => k (.si .i64 (n : Int)) [] [] []
   | _ => Stuck 514)
  | none => Stuck 515)
 | _ => Stuck 516
def Yj8 (c : Cx) (T : TypeId) (i : Nat) (p : AV) (k : KE) : Prop :=
 match p with
 | .fp id sz j o => tiK c.tt T fun ti => getK ti.fields i fun f => (match f with | some (off, n + 1) => fN false (o + off) fun o => k (.fp id sz j o) [] [] [] | _ => Stuck 517)
 | .ep id sz j o => tiK c.tt T fun ti => getK ti.fields i fun f => (match f with | some (off, n + 1) => fN false (o + off) fun o => k (.ep id sz j o) [] [] [] | _ => Stuck 518)
 | _ => Stuck 519
def Ypb (c : Cx) (T d : Nat) (tm : List AV) (s : AV) (lo hi mx : Option Operand) (hp : Heap) (k : KE) : Prop := Stuck 99
def Yj3 (c : Cx) (T : TypeId) (p v : AV) (hp : Heap) (k : KE) : Prop :=
 match p with
 | .ep id sz i j => Y0 hp id fun it => (match it with
  | .nst T' ts xs => Yc (Nat.beq sz ts.length) (tiK c.tt T fun ti => match ti.size with
   | some n => Yh9 v fun vs => Yc (lenB vs n && Yfk vs && Nat.ble 1 n && Nat.ble (j + n) ts.length) (Yiw ts j fun t1 => Yhb t1 n fun t2 => clsK t2 vs fun cs =>
     Need (decide (i < xs.length)) (k (.v undef) [(id, .nst T' ts xs)] [(id, .nst T' ts (xs.set i (Ybt (xs.getD i []) j cs)))] []))
   | none => Stuck 525)
  | _ => Stuck 526)
 | _ => Stuck 527
def Yj5 (ts : List Ty) (x : AV) (hp : Heap) (K : Heap -> Heap -> Dt -> Prop) : Prop :=
 match isN x hp, x with
 | true, .rw id => Y0 hp id fun it => (match it with | .nst T' ts' xs => Yc (Ybr 9 (.sl ts') (.sl ts)) (K [(id, .nst T' ts' xs)] [] xs) | _ => Stuck 528)
 | true, .rwp id sz' l n => Y0 hp id fun it => (match it with | .nst T' ts' xs => Yc (Ybr 9 (.sl ts') (.sl ts) && Nat.beq sz' ts.length) (Need (decide (l + n <= xs.length)) (K [(id, .nst T' ts' xs)] [] ((xs.drop l).take n))) | _ => Stuck 529)
 | _, x => Yqu 4 (.sl ts) x hp [] fun hs c => K hs (Ydy hs) c.lst
def Ys2 (x : AV) (hp : Heap) (K : List Ty -> Prop) : Prop :=
 match x with
 | .rs ts _ => K ts
 | .rw id => Y0 hp id fun it => (match it with | .nst _ ts _ => K ts | _ => Stuck 530)
 | .rwp id _ _ _ => Y0 hp id fun it => (match it with | .nst _ ts _ => K ts | _ => Stuck 531)
 | .opq id => Y0 hp id fun it => (match it with | .fro ts _ => K ts | _ => Stuck 532)
 | _ => Stuck 533
def appN (s x : AV) (hp : Heap) : Bool :=
 match isN s hp with
 | true => true
 | false => (match isN x hp with
  | true => true
  | false => (match x with | .rs ts _ => Y1f ts | _ => false))
def Ymm (c : Cx) (T : TypeId) (id' : Nat) (s x : AV) (hp : Heap) (k : KE) : Prop :=
 tiK c.tt T fun ti => match ti.slice with
  | none => Stuck 534
  | some (e, sz, by_, zs) => Yc (lenB zs sz && Nat.ble 1 sz && Nat.ble 1 by_) (match s with
   | .v (.slice none 0 0) => Ys2 x hp fun ts => Yc (Nat.beq ts.length sz) (Yj5 ts x hp fun hs us ys => Need (decide (ys.length * by_ <= 140737488355328)) (k (.rw id') hs us [(id', .nst e ts ys)]))
   | .rw id => Y0 hp id fun it => (match it with
    | .nst T' ts xs => Yc (Nat.beq T' e && Nat.beq ts.length sz) (Yj5 ts x hp fun hs us ys => Yc (Ydq.disjB hs [(id, .nst T' ts xs)]) (Need (decide ((xs.length + ys.length) * by_ <= 140737488355328)) (k (.rw id') ((id, .nst T' ts xs) :: hs) ((id, .dead) :: us) [(id', .nst e ts (xs ++ ys))])))
    | _ => Stuck 535)
   | .sl id off lo n => Y0 hp id fun it => (match it with
    | .row T' sz' n' cs => Yc (Nat.beq T' e && Nat.beq sz' sz && Nat.beq n' 0 && Nat.beq n 0 && Nat.beq off 0 && Nat.beq lo 0) (match cs with
     | [] => Ys2 x hp fun ts => Yc (Nat.beq ts.length sz) (Yj5 ts x hp fun hs us ys => Yc (Ydq.disjB hs [(id, .row T' sz' n' [])]) (Need (decide (ys.length * by_ <= 140737488355328)) (k (.rw id') ((id, .row T' sz' n' []) :: hs) ((id, .dead) :: us) [(id', .nst e ts ys)])))
     | _ => Stuck 536)
    | _ => Stuck 537)
   | _ => Stuck 538)
noncomputable def Yvg (c : Cx) (o : Oper) (tm : List AV) (hp : Heap) (k kp : KE) : Prop :=
 match o.op with
 | .indexAddr T x ix => evK tm x fun s => (match isN s hp with
  | true => evK tm ix fun j => Yro c T s j hp k
  | false => evK tm ix fun j => (match rowAt s j hp with | true => Yrn c T s j hp k | false => Yd7 c o tm hp k kp))
 | .load T x => evK tm x fun p => (match isN p hp with | true => Ys1 c T (o.dst.getD 0) p hp k | false => Yd7 c o tm hp k kp)
 | .store T x y => evK tm x fun p => (match isN p hp with | true => evK tm y fun v => Yj3 c T p v hp k | false => Yd7 c o tm hp k kp)
 | .fieldAddr T x i => evK tm x fun p => (match isN p hp with | true => Yj8 c T i p k | false => Yd7 c o tm hp k kp)
 | .slice T x lo hi mx => evK tm x fun s => (match isN s hp with | true => Ypb c T (o.dst.getD 0) tm s lo hi mx hp k | false => Yd7 c o tm hp k kp)
 | .nilCheck x => evK tm x fun p => (match p with | .fp id sz i j => k (.fp id sz i j) [] [] [] | _ => Yd7 c o tm hp k kp)
 | .call cl => (match cl.callee with
  | .builtin b => (match b, cl.args.toList with
   | .len, [x] => evK tm x fun v => (match isN v hp with | true => Yrl c cl.argTypes.toList v hp k | false => Yd7 c o tm hp k kp)
   | .append, [s, x] => evK tm s fun s => evK tm x fun x => (match appN s x hp with
    | true => (match cl.argTypes.toList with | [T, T'] => Yc (Nat.beq T T') (Ymm c T (3 * o.dst.getD 0) s x hp k) | _ => Stuck 539)
    | false => Yd7 c o tm hp k kp)
   | _, _ => Yd7 c o tm hp k kp)
  | _ => Yd7 c o tm hp k kp)
 | _ => Yd7 c o tm hp k kp
section
variable {P : Program} {tm : List AV} {dst : Option Tmp} {type : TypeId} {pos : String} {after : Array Edge} {guard : Option (Nat × Bool)}
theorem Yjr {T e sz by_ n : Nat} {zs : List AV} {x ix : Operand} {hs : Heap} {xv iv val : AV} {kd : IntKind} {i : Int} (ht : (mkTI P T).slice = some (e, sz, by_, zs)) (hx : At tm x xv) (hxj : xv.rd = true) (hi : At tm ix iv) (hij : iv.rd = true) (hiv : ∀ φ, iv.conc φ = .int kd i) (h0 : 0 <= i) (h1 : i < (n : Int))
  (hv : ∀ (φ : Phi) (w0 : World) (M : List Nat) (R : RL) (w : World), St w0 M (Yb φ hs ++ R) w -> ∃ b off c, xv.conc φ = .slice (some ⟨b, off, none⟩) n c /\ val.conc φ = .pointer (some ⟨b, off + i.toNat * sz, none⟩)) :
  Does P { dst, op := .indexAddr T x ix, type, pos, after, guard } tm hs val [] [] :=
 fun φ w0 M R a w K Q ho _ hS kk => by
  obtain ⟨b, off, c, h2, h3⟩ := hv φ w0 M R w hS;have e1 := ho.ev (x := x) (by simp [Op.operands]) hx hxj;have e2 := ho.ev (x := ix) (by simp [Op.operands]) hi hij;rw [h2] at e1;rw [hiv φ] at e2;refine Ykw (Yo ht φ).1 e1 e2 h0 h1 rfl ?_;have := kk φ w (Agree.refl _ _) (by simpa [Yh] using hS);rwa [h3] at this
theorem Yxa {w0 w : World} {M : List Nat} {R : RL} {φ : Phi} {id : Nat} {ts : List Ty} {xs : Dt} (hS : St w0 M (Yb φ [(id, It.fro ts xs)] ++ R) w) : ∃ A c, (φ id).v = .slice A xs.length c /\ xs.length <= c := by
 have h := Ytu (hS.has _ List.mem_cons_self);unfold froP at h
 change @RdV (atF w (φ id).F) (.sl ts) (φ id).v (.l xs) at h
 obtain ⟨v', hv'⟩ : ∃ v', v' = (φ id).v := ⟨_, rfl⟩;rw [<- hv'] at h ⊢;cases h with
 | sl _ A c _ u hc hm ha hr => exact ⟨A, c, rfl, hc⟩
theorem Ypi {c : Cx} (ht : TabOk c.P c.tt) {T : TypeId} {s j : AV} {x ix : Operand} {hp : Heap} {k : KE} (hx : At tm x s) (hi : At tm ix j) (h : Yro c T s j hp k) : Res1 c.P { dst, op := .indexAddr T x ix, type, pos, after, guard } tm hp k := by
 unfold Yro at h;rcases Yd0 h with ⟨kd, i, h0, hc, hr⟩ | h0
 ·have h1 := Yj ht h0
  split at h1
  ·rename_i e sz by_ zs hs
   split at h1
   ·rename_i id;obtain ⟨it, hl, h2⟩ := Ye h1
    split at h2
    ·rename_i T' ts xs;obtain ⟨h3, h4⟩ := Ya h2;obtain rfl := Yd.1 h3;obtain ⟨h5, h6⟩ := h4;simp only [Bool.and_eq_true, decide_eq_true_eq] at h5;refine ⟨_, _, _, _, h6, .one hl, Y1, Yjr hs hx rfl hi hr hc h5.1 h5.2 fun φ w0 M R w hS => ?_⟩;have hS' : St w0 M ((It.nst T' ts xs).conc φ id :: R) w := hS;refine ⟨(φ id).b, 0, (φ id).c, ?_, by simp [AV.conc]⟩;simp only [AV.conc, Ydg (show 0 < xs.length by omega) hS', (Ydv hS').1, Bool.false_eq_true, if_false]
    ·exact h2.elim
   ·rename_i id sz' l n;obtain ⟨it, hl, h2⟩ := Ye h1
    split at h2
    ·rename_i T' ts xs;obtain ⟨h3, h4⟩ := Ya h2;simp only [Bool.and_eq_true, Yd] at h3;obtain ⟨rfl, rfl⟩ := h3;obtain ⟨h5, h6⟩ := h4;simp only [Bool.and_eq_true, decide_eq_true_eq] at h5;refine ⟨_, _, _, _, h6, .one hl, Y1, Yjr hs hx rfl hi hr hc h5.1.1 h5.1.2 fun φ w0 M R w hS => ?_⟩;have hS' : St w0 M ((It.nst T' ts xs).conc φ id :: R) w := hS;exact ⟨(φ id).b, l * ts.length, _, Ykz hS' h5.2 (by omega), by simp [AV.conc, Nat.add_mul]⟩
    ·exact h2.elim
   ·rename_i id;obtain ⟨it, hl, h2⟩ := Ye h1
    split at h2
    ·rename_i ts xs;obtain ⟨h3, h4⟩ := Ya h2;obtain rfl := Yd.1 h3;obtain ⟨h5, h6⟩ := h4;simp only [Bool.and_eq_true, decide_eq_true_eq] at h5;refine ⟨_, _, _, _, h6, .one hl, Y1, Yjr hs hx rfl hi hr hc h5.1 h5.2 fun φ w0 M R w hS => ?_⟩;obtain ⟨b, off, c', hv, _⟩ := Yxc hS (show i.toNat < xs.length by omega);exact ⟨b, off, c', by simp only [AV.conc, hv], by simp only [AV.conc, hv, Ycl, Nat.add_zero]⟩
    ·exact h2.elim
   ·exact h1.elim
  ·exact h1.elim
 ·exact h0.elim
theorem Yph {c : Cx} (ht : TabOk c.P c.tt) {T : TypeId} {s j : AV} {x ix : Operand} {hp : Heap} {k : KE} (hx : At tm x s) (hi : At tm ix j) (h : Yrn c T s j hp k) : Res1 c.P { dst, op := .indexAddr T x ix, type, pos, after, guard } tm hp k := by
 unfold Yrn at h
 split at h
 ·rename_i id off lo n kd i;have h1 := Yj ht h
  split at h1
  ·rename_i e sz by_ zs hs;obtain ⟨it, hl, h2⟩ := Ye h1;obtain ⟨h3, h4⟩ := Ya h2;obtain ⟨h5, h6⟩ := h4;simp only [Bool.and_eq_true, decide_eq_true_eq] at h5;have h7 := Ygw h6 (by omega) (by omega);refine ⟨_, _, _, _, h7, .one hl, Y1, Yjr hs hx rfl hi rfl (fun φ => rfl) h5.1 h5.2 fun φ w0 M R w hS => ?_⟩;have hn := Ybm h3 φ id w0 M R w (by simpa [Yb] using hS);refine ⟨(φ id).b, off, (φ id).c - lo, by simp only [AV.conc, hn, Bool.false_eq_true, if_false], ?_⟩;simp only [AV.conc, Int.natCast_zero, Int.sub_zero]
  ·exact h1.elim
 ·exact h.elim
theorem Yn3 {c : Cx} (ht : TabOk c.P c.tt) {T d : Nat} {p : AV} {x : Operand} {hp : Heap} {k : KE} (hx : At tm x p) (h : Ys1 c T d p hp k) : Res1 c.P { dst, op := .load T x, type, pos, after, guard } tm hp k := h.elim
theorem Ypg {c : Cx} (ht : TabOk c.P c.tt) {tys : Array TypeId} {v : AV} {x : Operand} {hp : Heap} {k : KE} (hx : At tm x v) (hj : v.rd = true) (h : Yrl c tys.toList v hp k) :
  Res1 c.P { dst, op := .call { callee := .builtin .len, args := #[x], argTypes := tys }, type, pos, after, guard } tm hp k := by
 obtain ⟨tys⟩ := tys;unfold Yrl at h
 split at h
 ·rename_i T hT;have hT : tys = [T] := hT;subst hT;have h1 := Yj ht h
  split at h1
  ·rename_i q hq;obtain ⟨e, sz, by_, zs⟩ := q
   split at h1
   ·rename_i id;obtain ⟨it, hl, h2⟩ := Ye h1
    split at h2
    ·rename_i T' ts xs;refine ⟨_, _, _, _, h2, .one hl, Y1, Yg4 hq hx hj fun φ w0 M R w hS => ?_⟩;have hS' : St w0 M ((It.nst T' ts xs).conc φ id :: R) w := hS;exact ⟨_, _, by simp only [AV.conc, (Ydv hS').1]; rfl⟩
    ·exact h2.elim
   ·rename_i id;obtain ⟨it, hl, h2⟩ := Ye h1
    split at h2
    ·refine ⟨_, _, _, _, h2, .one hl, Y1, Yg4 hq hx hj fun φ w0 M R w hS => ?_⟩;obtain ⟨A, c, hv, _⟩ := Yxa hS;exact ⟨A, c, hv⟩
    ·exact h2.elim
   ·exact ⟨_, _, _, _, h1, .nil _, Y1, Yg4 hq hx hj fun φ w0 M R w hS => ⟨_, _, rfl⟩⟩
   ·exact h1.elim
  ·exact h1.elim
 ·exact h.elim
theorem Yxw {T : TypeId} {x : Operand} {j off id sz i k : Nat} (hf : Yfx P T j off) (hx : At tm x (.fp id sz i k)) : Does P { dst, op := .fieldAddr T x j, type, pos, after, guard } tm [] (.fp id sz i (k + off)) [] [] :=
 fun φ w0 M R a w K Q ho _ hS kk => by
  have e1 := ho.ev (x := x) (by simp [Op.operands]) hx (by simp);simp only [AV.conc] at e1;rw [Yg7] at e1;refine Yoe hf e1 rfl ?_;have := kk φ w (Agree.refl _ _) hS;simp only [AV.conc] at this;rw [<- Nat.add_assoc, Ygi] at this;exact this
theorem Ymc {c : Cx} (ht : TabOk c.P c.tt) {T : TypeId} {i : Nat} {p : AV} {x : Operand} {hp : Heap} {k : KE} (hx : At tm x p) (h : Yj8 c T i p k) : Res1 c.P { dst, op := .fieldAddr T x i, type, pos, after, guard } tm hp k := by
 unfold Yj8 at h
 split at h
 ·have h1 := Yj ht h;obtain ⟨f, h2, h3⟩ := Y8 h1
  split at h3
  ·exact ⟨_, _, _, _, Yfy.1 h3, .nil _, Y1, Yxw (Yel h2) hx⟩
  ·exact h3.elim
 ·have h1 := Yj ht h;obtain ⟨f, h2, h3⟩ := Y8 h1
  split at h3
  ·exact ⟨_, _, _, _, Yfy.1 h3, .nil _, Y1, Yqz (Yel h2) hx⟩
  ·exact h3.elim
 ·exact h.elim
theorem Yl8 {c : Cx} (ht : TabOk c.P c.tt) {T d : Nat} {s : AV} {x : Operand} {lo hi mx : Option Operand} {hp : Heap} {k : KE} (hx : At tm x s) (h : Ypb c T d tm s lo hi mx hp k) : Res1 c.P { dst, op := .slice T x lo hi mx, type, pos, after, guard } tm hp k := h.elim
theorem Ydr (cs : List Cl) : ∀ (l : List Cl) (j k : Nat), (Ybt l j cs).getD k .z = if j <= k /\ k < j + cs.length then cs.getD (k - j) .z else l.getD k .z
 | l, 0, k => by
  simp only [Ybt, Nat.zero_le, true_and, Nat.zero_add, Nat.sub_zero, List.getD_eq_getElem?_getD]
  split
  ·rename_i h; rw [List.getElem?_append_left h]
  ·rename_i h;rw [List.getElem?_append_right (by omega), List.getElem?_drop, show cs.length + (k - cs.length) = k by omega]
 | l, j + 1, 0 => by cases l <;> simp [Ybt]
 | l, j + 1, k + 1 => by
  have := Ydr cs l.tail j k;simp only [Ybt, List.getD_cons_succ, this, Nat.add_le_add_iff_right, show k + 1 < j + 1 + cs.length ↔ k < j + cs.length by omega, show k + 1 - (j + 1) = k - j by omega]
  split
  ·rfl
  ·cases l <;> simp
theorem Yu6 {T T' : TypeId} {x y : Operand} {id i j n : Nat} {ts : List Ty} {xs : Dt} {vs : List AV} {v : AV} {cs : List Cl} (hs : Yb4 P T n) (hx : At tm x (.ep id ts.length i j)) (hy : At tm y v) (hj : v.rd = true) (hc : ∀ φ, (v.conc φ).cells = (AV.concL φ vs).toArray) (hn : vs.length = n) (h0 : 0 < n) (h1 : Yfk vs = true)
  (hi : i < xs.length) (hk : j + n <= ts.length) (hcs : cs.length = n) (hv : ∀ φ, AV.concL φ vs = Yw ((ts.drop j).take n) cs) (hsc : ∀ k, k < n -> ∀ ts', tyAt ts (j + k) ≠ .sl ts') :
  Does P { dst, op := .store T x y, type, pos, after, guard } tm [(id, .nst T' ts xs)] (.v undef) [(id, .nst T' ts (xs.set i (Ybt (xs.getD i []) j cs)))] [] :=
 fun φ w0 M R a w K Q ho _ hS kk => by
  have hS' : St w0 M ((It.nst T' ts xs).conc φ id :: R) w := hS;have h2 := Ym (ho.ev (x := x) (by simp [Op.operands]) hx (by simp));have h3 := Ym (ho.ev (x := y) (by simp [Op.operands]) hy hj);obtain ⟨e, us, hrow, hr⟩ := Ydv hS';have hul : us.length = xs.length * ts.length := by rw [<- e]; exact hrow.1
  have hl : (AV.concL φ vs).length = n := by rw [Yf, hn]
  have hlen : i * ts.length + j + n <= us.length := by
   rw [hul];have : (i + 1) * ts.length <= xs.length * ts.length := Nat.mul_le_mul_right _ hi;rw [Nat.succ_mul] at this; omega
  have hnil := Ydg (by omega) hS';have hnew : RowsRd w (φ id).F ts (us.take (i * ts.length + j) ++ AV.concL φ vs ++ us.drop (i * ts.length + j + n)) (xs.set i (Ybt (xs.getD i []) j cs)) := fun i' k t hi' ht => by
   rw [List.length_set] at hi';have hk' : k < ts.length := by
    rcases Nat.lt_or_ge k ts.length with a | a
    ·exact a
    ·rw [List.getElem?_eq_none a] at ht; cases ht
   obtain ⟨u, g1, g2⟩ := hr i' k t hi' ht;have hL : (us.take (i * ts.length + j) ++ AV.concL φ vs).length = i * ts.length + j + n := by rw [List.length_append, List.length_take, hl]; omega
   by_cases hin : i' = i /\ j <= k /\ k < j + n
   ·obtain ⟨rfl, hk1, hk2⟩ := hin;have ec : cel (xs.set i' (Ybt (xs.getD i' []) j cs)) i' k = cs.getD (k - j) .z := by
     unfold cel;rw [List.getD_eq_getElem?_getD (l := xs.set _ _), List.getElem?_set_self hi, Option.getD_some, Ydr, if_pos ⟨hk1, by omega⟩]
    have et : tyAt ts k = t := by rw [Ydp, List.getD_eq_getElem?_getD, ht]; rfl
    have hns := hsc (k - j) (by omega);rw [show j + (k - j) = k by omega, et] at hns;refine ⟨t.val (cs.getD (k - j) .z), ?_, ?_⟩
    ·rw [List.append_assoc, List.getElem?_append_right (by rw [List.length_take]; omega), List.length_take, List.getElem?_append_left (by rw [hl]; omega), hv φ, Yid, List.getElem?_take, if_pos (by omega), List.getElem?_drop];rw [show i' * ts.length + k - min (i' * ts.length + j) us.length = k - j by omega, show j + (k - j) = k by omega, ht];rfl
    ·rw [ec];cases t with
     | int kd => exact @RdV.int (atF w (φ id).F) kd _
     | bool => exact @RdV.bool (atF w (φ id).F) _
     | str => exact @RdV.str (atF w (φ id).F) _
     | sl ts' => exact absurd rfl (hns ts')
   ·have ec : cel (xs.set i (Ybt (xs.getD i []) j cs)) i' k = cel xs i' k := by
     unfold cel
     by_cases ei : i' = i
     ·subst ei;rw [List.getD_eq_getElem?_getD (l := xs.set _ _), List.getElem?_set_self hi, Option.getD_some, Ydr, if_neg (by rw [hcs]; exact fun h => hin ⟨rfl, h⟩)]
     ·rw [List.getD_eq_getElem?_getD (l := xs.set _ _), List.getElem?_set_ne (Ne.symm ei), <- List.getD_eq_getElem?_getD]
    refine ⟨u, ?_, by rw [ec]; exact g2⟩;have hcase : i' * ts.length + k < i * ts.length + j \/ i * ts.length + j + n <= i' * ts.length + k := by
     rcases Nat.lt_trichotomy i' i with h | h | h
     ·have := Nat.mul_le_mul_right ts.length (show i' + 1 <= i by omega);rw [Nat.add_mul] at this; omega
     ·subst h; omega
     ·have := Nat.mul_le_mul_right ts.length (show i + 1 <= i' by omega);rw [Nat.add_mul] at this; omega
    rcases hcase with h | h
    ·rw [List.getElem?_append_left (by omega), List.getElem?_append_left (by rw [List.length_take]; omega), List.getElem?_take, if_pos h, g1]
    ·rw [List.getElem?_append_right (by omega), hL, List.getElem?_drop, <- g1]; congr 1; omega
  have hX := hS.give (X := [.row (.slice (if (φ id).nil then none else some ⟨(φ id).b, 0, none⟩) (φ id).fn (φ id).c) T' ts.length (φ id).fn us, Res.rdl (φ id).F ts (us.take (i * ts.length + j) ++ AV.concL φ vs ++ us.drop (i * ts.length + j + n)) (xs.set i (Ybt (xs.getD i []) j cs))]) (us := [(id, .dead)]) (A := []) (by simp [keys]) (by simp) ?_ ?_ ?_ ?_
  ·have hX' := hX;simp only [List.cons_append, List.nil_append] at hX';refine Yf6 (v := v.conc φ) hX' hs h2 h3 (by rw [hc φ]; simp [Yf, hn]) h0 (fun u hu => Ycd h1 φ u (by rw [hc φ] at hu; simpa using hu)) hlen fun w' hS2 => ?_;rw [hc φ, show ((AV.concL φ vs).toArray.toList) = AV.concL φ vs from rfl] at hS2;have hJ := hS2.joinN (by rw [List.length_set, e]);refine kk φ w' (Agree.refl _ _) ?_;have e4 : Yh [(id, It.nst T' ts xs)] [(id, .dead)] = [(id, .dead)] := by simp [Yh, upd, Nat.beq_refl]
   rw [e4] at hJ;have e5 : Yh [(id, It.nst T' ts xs)] [(id, It.nst T' ts (xs.set i (Ybt (xs.getD i []) j cs)))] = [(id, It.nst T' ts (xs.set i (Ybt (xs.getD i []) j cs)))] := by simp [Yh, upd, Nat.beq_refl]
   rw [e5];have hJ2 : St w0 M ((It.nst T' ts (xs.set i (Ybt (xs.getD i []) j cs))).conc φ id :: It.dead.conc φ id :: R) w' := hJ;have hJ3 := (hJ2.perm (List.Perm.swap _ _ _)).drop;simpa [Yb] using hJ3
  ·intro r hr2;simp only [List.mem_cons, List.not_mem_nil, or_false] at hr2;rcases hr2 with rfl | rfl
   ·exact hrow
   ·exact Yko (fun b hb => Res.lt2 (hS'.has _ List.mem_cons_self) b (.inr hb)) hnew
  ·refine List.Pairwise.cons (fun r hr2 => ?_) (by simp);rw [List.mem_singleton] at hr2;subst hr2;refine ⟨fun b hb hb' => ?_, fun b hb => by simp [Res.rdl, Res.foot] at hb⟩;rcases hb' with hb' | hb'
   ·simp [Res.rdl, Res.foot] at hb'
   ·exact Ysp (hS'.has _ List.mem_cons_self) hb hb'
  ·intro r hr2 b hb;simp only [List.mem_cons, List.not_mem_nil, or_false] at hr2;rcases hr2 with rfl | rfl
   ·exact ⟨_, List.mem_cons_self, by simp [keys], hb⟩
   ·simp [Res.rdl, Res.foot] at hb
  ·intro r hr2 b hb;simp only [List.mem_cons, List.not_mem_nil, or_false] at hr2;rcases hr2 with rfl | rfl
   ·exact False.elim hb
   ·exact .inr ⟨_, List.mem_cons_self, .inl hb⟩
theorem Yx4 : ∀ {ts : List Ty} {xs : List AV} {K : List Cl -> Prop}, clsK ts xs K -> ∀ (k : Nat) (ts' : List Ty), k < ts.length -> tyAt ts k ≠ .sl ts'
 | [], _, _, _, k, ts', hk => by simp at hk
 | t :: ts, [], _, h, _, _, _ => h.elim
 | t :: ts, x :: xs, K, h, 0, ts', _ => fun e => by
  have e : t = .sl ts' := e;subst e;exact h.elim
 | t :: ts, x :: xs, K, h, k + 1, ts', hk => by
  obtain ⟨c, h1, _, _⟩ := Yh8 h;exact Yx4 h1 k ts' (by simpa using hk)
theorem Yl6 {c : Cx} (ht : TabOk c.P c.tt) {T : TypeId} {p v : AV} {x y : Operand} {hp : Heap} {k : KE} (hx : At tm x p) (hy : At tm y v) (hj : v.rd = true) (h : Yj3 c T p v hp k) : Res1 c.P { dst, op := .store T x y, type, pos, after, guard } tm hp k := by
 unfold Yj3 at h
 split at h
 ·rename_i id sz i j;obtain ⟨it, hl, h0⟩ := Ye h
  split at h0
  ·rename_i T' ts xs;obtain ⟨hz, h00⟩ := Ya h0;obtain rfl := Yd.1 hz;have h1 := Yj ht h00
   split at h1
   ·rename_i n hn;obtain ⟨vs, h2, hc, _⟩ := Ycu h1;obtain ⟨h3, h4⟩ := Ya h2;simp only [Bool.and_eq_true, Nat.ble_eq] at h3;obtain ⟨⟨⟨h31, h32⟩, h33⟩, h34⟩ := h3;obtain ⟨_, h5⟩ := Ybw h4;obtain ⟨_, h6⟩ := Ybq h5;have hsc := fun k ts' hk => Yx4 h6 k ts' hk;obtain ⟨cs, h7, h8, h9, _, _⟩ := Yf2 h6;obtain ⟨h10, h11⟩ := h7;have hlt : ((ts.drop j).take n).length = n := by rw [List.length_take, List.length_drop]; omega
    refine ⟨_, _, _, _, h11, .one hl, fun i hi => by simpa [keys] using hi, Yu6 (Yb5 hn) hx hy hj hc (Y7 h31) (by omega) h32 (of_decide_eq_true h10) h34 (by omega) h8 fun k hk ts' e => hsc k ts' (by omega) ?_⟩;rw [Ydp] at e ⊢;rw [List.getD_eq_getElem?_getD] at e ⊢;rw [List.getElem?_take, if_pos hk, List.getElem?_drop];exact e
   ·exact h1.elim
  ·exact h0.elim
 ·exact h.elim
theorem Yfa {ts : List Ty} (hts : 0 < ts.length) {x : AV} {hp : Heap} {K : Heap -> Heap -> Dt -> Prop} (h : Yj5 ts x hp K) : ∃ hs us ys, K hs us ys /\ PartOf hs hp /\ SrcN x hs us ts ys /\ (∀ p ∈ us, p.2 = .dead) /\ ∀ i ∈ keys us, i ∈ keys hs := by
 unfold Yj5 at h
 split at h
 ·rename_i id _;obtain ⟨it, hl, h0⟩ := Ye h
  split at h0
  ·rename_i T' ts' xs;obtain ⟨h1, h2⟩ := Ya h0;have e := Yz _ _ _ h1;simp only [Ty.sl.injEq] at e;subst e;exact ⟨_, _, _, h2, .one hl, Yyp hts, by simp, by simp [keys]⟩
  ·exact h0.elim
 ·rename_i id sz' l n _;obtain ⟨it, hl, h0⟩ := Ye h
  split at h0
  ·rename_i T' ts' xs;obtain ⟨h1, h2⟩ := Ya h0;simp only [Bool.and_eq_true, Yd] at h1;obtain ⟨h11, rfl⟩ := h1;have e := Yz _ _ _ h11;simp only [Ty.sl.injEq] at e;subst e;obtain ⟨h3, h4⟩ := h2;exact ⟨_, _, _, h4, .one hl, Yvv hts (of_decide_eq_true h3), by simp, by simp [keys]⟩
  ·exact h0.elim
 ·obtain ⟨hs, c, h1, h2, _, hcan, h3⟩ := Ydk 4 _ _ _ _ _ h (.nil _);obtain ⟨ys, rfl⟩ := hcan;refine ⟨_, _, _, h1, h2, Y0w hts h3, fun p hp => (Ycs p hp).1, fun i hi => ?_⟩;obtain ⟨p, hp, rfl⟩ := List.mem_map.1 hi;exact (Ycs p hp).2
theorem Ykb {x : AV} {hp : Heap} {K : List Ty -> Prop} (h : Ys2 x hp K) : ∃ ts, K ts := by
 unfold Ys2 at h
 split at h
 ·exact ⟨_, h⟩
 ·obtain ⟨it, _, h0⟩ := Ye h
  split at h0
  ·exact ⟨_, h0⟩
  ·exact h0.elim
 ·obtain ⟨it, _, h0⟩ := Ye h
  split at h0
  ·exact ⟨_, h0⟩
  ·exact h0.elim
 ·obtain ⟨it, _, h0⟩ := Ye h
  split at h0
  ·exact ⟨_, h0⟩
  ·exact h0.elim
 ·exact h.elim
theorem Yw3 {ds us hs : Heap} (h : ∀ i ∈ keys us, i ∈ keys hs) : ∀ i ∈ keys (Yd3 ds ++ us), i ∈ keys (ds ++ hs) := fun i hi => by
 rw [Ybi, Yna] at hi;rw [Ybi];exact (List.mem_append.1 hi).elim (fun h => List.mem_append_left _ h) fun h2 => List.mem_append_right _ (h i h2)
theorem Yj9 {c : Cx} (ht : TabOk c.P c.tt) {T : TypeId} {sv xv : AV} {s x : Operand} {hp : Heap} {k : KE} {id' : Nat} (hsv : At tm s sv) (hsj : sv.rd = true) (hx : At tm x xv) (hxj : xv.rd = true) (h : Ymm c T id' sv xv hp k) :
  Res1 c.P { dst, op := .call { callee := .builtin .append, args := #[s, x], argTypes := #[T, T] }, type, pos, after, guard } tm hp k := by
 have h1 := Yj ht h
 split at h1
 ·exact h1.elim
 ·rename_i e sz by_ zs hs;obtain ⟨h2, h3⟩ := Ya h1;simp only [Bool.and_eq_true, Nat.ble_eq] at h2;obtain ⟨⟨h21, h22⟩, h23⟩ := h2;have hz := Y7 h21
  split at h3
  ·obtain ⟨ts, h4⟩ := Ykb h3;obtain ⟨h5, h6⟩ := Ya h4;obtain rfl := Yd.1 h5;obtain ⟨hs', us, ys, h7, h8, h9, h10, h11⟩ := Yfa (by omega) h6;obtain ⟨h12, h13⟩ := h7;have hb := of_decide_eq_true h12;have := Yf1 (dst := dst) (type := type) (pos := pos) (after := after) (guard := guard) (id' := id') hs hz (by omega) hsv hsj hx hxj (Yzn (e := e)) h9 (by simpa [keys] using h8.nd) h10 h11 (by simpa using Ydw hb h23) (by simpa using hb);exact ⟨_, _, _, _, h13, h8, h11, by simpa [Yd3] using this⟩
  ·rename_i id;obtain ⟨it, hl, h4⟩ := Ye h3
   split at h4
   ·rename_i T' ts xs;obtain ⟨h5, h6⟩ := Ya h4;simp only [Bool.and_eq_true, Yd] at h5;obtain ⟨rfl, rfl⟩ := h5;obtain ⟨hs', us, ys, h7, h8, h9, h10, h11⟩ := Yfa (by omega) h6;obtain ⟨h12, h13⟩ := Ya h7;obtain ⟨h14, h15⟩ := h13;have hb := of_decide_eq_true h14;have hpart := h8.cons hl (Ydj h12);have := Yf1 (dst := dst) (type := type) (pos := pos) (after := after) (guard := guard) (id' := id') hs hz (by omega) hsv hsj hx hxj (Yzm (id := id) (ts := ts) (xs := xs)) h9 hpart.nd h10 h11 (Ydw hb h23) hb;exact ⟨_, _, _, _, h15, hpart, Yw3 (ds := [(id, It.nst T' ts xs)]) h11, this⟩
   ·exact h4.elim
  ·rename_i id off lo n;obtain ⟨it, hl, h4⟩ := Ye h3
   split at h4
   ·rename_i T' sz' n' cs;obtain ⟨h5, h6⟩ := Ya h4;simp only [Bool.and_eq_true, Yd] at h5;obtain ⟨⟨⟨⟨⟨rfl, rfl⟩, rfl⟩, rfl⟩, rfl⟩, rfl⟩ := h5
    split at h6
    ·obtain ⟨ts, h60⟩ := Ykb h6;obtain ⟨h61, h62⟩ := Ya h60;obtain rfl := Yd.1 h61;obtain ⟨hs', us, ys, h7, h8, h9, h10, h11⟩ := Yfa (by omega) h62;obtain ⟨h12, h13⟩ := Ya h7;obtain ⟨h14, h15⟩ := h13;have hb := of_decide_eq_true h14;have hpart := h8.cons hl (Ydj h12);have := Yf1 (dst := dst) (type := type) (pos := pos) (after := after) (guard := guard) (id' := id') hs hz (by omega) hsv hsj hx hxj (Yzl (id := id) (ts := ts)) h9 hpart.nd h10 h11 (by simpa using Ydw hb h23) (by simpa using hb);exact ⟨_, _, _, _, h15, hpart, Yw3 (ds := [(id, It.row T' ts.length 0 [])]) h11, by simpa [Yd3] using this⟩
    ·exact h6.elim
   ·exact h4.elim
  ·exact h3.elim
end
theorem Yo3 {c : Cx} {o : Oper} {tm : List AV} {hp : Heap} {k kp : KE} (hc : HandOk c) (h : Yvg c o tm hp k kp) : OpRes c o tm hp k kp := by
 have old : Yd7 c o tm hp k kp -> OpRes c o tm hp k kp := fun h => Yo4 hc h;obtain ⟨dst, op, type, pos, after, guard⟩ := o;unfold Yvg at h
 split at h
 ·rename_i hop;dsimp only at hop; subst hop;obtain ⟨a, ja, hx, h1⟩ := Yg h
  split at h1
  ·obtain ⟨b, jb, hy, h2⟩ := Yg h1;exact (Ypi hc.tab hx hy h2).op
  ·obtain ⟨b, jb, hy, h2⟩ := Yg h1
   split at h2
   ·exact (Yph hc.tab hx hy h2).op
   ·exact old h2
 ·rename_i hop;dsimp only at hop; subst hop;obtain ⟨a, ja, hx, h1⟩ := Yg h
  split at h1
  ·exact (Yn3 hc.tab hx h1).op
  ·exact old h1
 ·rename_i hop;dsimp only at hop; subst hop;obtain ⟨a, ja, hx, h1⟩ := Yg h
  split at h1
  ·obtain ⟨b, jb, hy, h2⟩ := Yg h1;exact (Yl6 hc.tab hx hy jb h2).op
  ·exact old h1
 ·rename_i hop;dsimp only at hop; subst hop;obtain ⟨a, ja, hx, h1⟩ := Yg h
  split at h1
  ·exact (Ymc hc.tab hx h1).op
  ·exact old h1
 ·rename_i hop;dsimp only at hop; subst hop;obtain ⟨a, ja, hx, h1⟩ := Yg h
  split at h1
  ·exact (Yl8 hc.tab hx h1).op
  ·exact old h1
 ·rename_i hop;dsimp only at hop; subst hop;obtain ⟨a, ja, hx, h1⟩ := Yg h
  split at h1
  ·refine Res1.op ⟨_, _, _, _, h1, .nil _, Y1, Does.pure fun φ a ho w => ?_⟩;have e := ho _ (by simp [Op.operands]) _ hx ja;simp only [AV.conc] at e;simp [execOp, e, AV.conc]
  ·exact old h1
 ·rename_i cl hop;dsimp only at hop; subst hop;obtain ⟨callee, ⟨args⟩, tys⟩ := cl;dsimp only at h
  split at h
  ·split at h
   ·rename_i x;obtain ⟨v, jv, hx, h1⟩ := Yg h
    split at h1
    ·exact (Ypg hc.tab hx jv h1).op
    ·exact old h1
   ·rename_i s x;obtain ⟨a, ja, hx, h1⟩ := Yg h;obtain ⟨b, jb, hy, h2⟩ := Yg h1
    split at h2
    ·obtain ⟨tys⟩ := tys;dsimp only at h2
     split at h2
     ·obtain ⟨h3, h4⟩ := Ya h2;obtain rfl := Yd.1 h3;exact (Yj9 hc.tab hx ja hy jb h4).op
     ·exact h2.elim
    ·exact old h2
   ·exact old h
  ·exact old h
 ·exact old h
end Go.Proofs.Ytmogofidmchdoaa
namespace Go.Proofs.Ytmogofidmchdoaa
open Go.RowKit
set_option maxRecDepth 100000
set_option maxHeartbeats 1600000
variable [InW]
section
variable {P : Program} {tm : List AV} {dst : Option Tmp} {type : TypeId} {pos : String} {after : Array Edge} {guard : Option (Nat × Bool)}
theorem Yu5 (ts : List Ty) (xs : Dt) (n : Nat) (h : n <= xs.length) : Yq ts (xs.take n) = (Yq ts xs).take (n * ts.length) := by
 have e : Yq ts xs = Yq ts (xs.take n) ++ Yq ts (xs.drop n) := by rw [<- Yce, List.take_append_drop]
 have hl : (Yq ts (xs.take n)).length = n * ts.length := by rw [Y2, List.length_take, Nat.min_eq_left h]
 rw [e, <- hl, List.take_left]
end
end Go.Proofs.Ytmogofidmchdoaa
namespace Go.Proofs.Ytmogofidmchdoaa
open Go.RowKit
set_option maxRecDepth 100000
set_option maxHeartbeats 1600000
variable [InW]
section
variable {P : Program} {tm : List AV} {dst : Option Tmp} {type : TypeId} {pos : String} {after : Array Edge} {guard : Option (Nat × Bool)}
theorem Y2t {T : Nat} {ts : List Ty} {xs : Dt} {id : Nat} (hts : 0 < ts.length) {w0 w : World} {M : List Nat} {R : RL} {φ : Phi} (hS : St w0 M ((It.arr T ts xs).conc φ id :: R) w) : (φ id).fn = xs.length := by
 have h : w.ownsRow 0 T ts.length _ (φ id).fn (Yq ts xs) := hS.row (v := .slice (if (φ id).nil then none else some ⟨(φ id).b, 0, none⟩) (φ id).fn (φ id).c) Look.head;have := h.1;rw [Y2] at this;exact (Nat.eq_of_mul_eq_mul_right hts this).symm
theorem Yv1 {id sz n : Nat} (φ : Phi) : (AV.rwp id sz 0 n).conc φ = .slice (if (φ id).nil then none else some ⟨(φ id).b, 0, none⟩) n (φ id).c := by
 simp only [AV.conc, Nat.zero_mul, Nat.sub_zero];cases (φ id).nil <;> simp [Yp]
end
end Go.Proofs.Ytmogofidmchdoaa
namespace Go.Proofs.Ytmogofidmchdoaa
open Go.RowKit
set_option maxRecDepth 100000
set_option maxHeartbeats 1600000
variable [InW]
section
variable {P : Program} {tm : List AV} {dst : Option Tmp} {type : TypeId} {pos : String} {after : Array Edge} {guard : Option (Nat × Bool)}
def rI (r : List Cl) (k : Nat) : Int := (r.getD k .z).int
def key6 (r q : List Cl) : Prop := rI r 0 = rI q 0 /\ rI r 1 = rI q 1 /\ rI r 2 = rI q 2 /\ rI r 3 = rI q 3 /\ rI r 4 = rI q 4 /\ rI r 5 = rI q 5
instance (r q : List Cl) : Decidable (key6 r q) := by unfold key6; infer_instance
end
end Go.Proofs.Ytmogofidmchdoaa
namespace Go.Proofs.Ytmogofidmchdoaa
open Go.RowKit
section
variable [InW]
noncomputable def Yo2 (c : Cx) (o : Oper) (tm : List AV) (hp : Heap) (k kp : KE) : Prop := Yvg c o tm hp k kp
theorem Yo1 {c : Cx} {o : Oper} {tm : List AV} {hp : Heap} {k kp : KE} (hc : HandOk c) (h : Yo2 c o tm hp k kp) : OpRes c o tm hp k kp := Yo3 hc h
end
set_option maxRecDepth 100000
section
variable [InW]
attribute [local irreducible] Go.Oper.wp
section
variable {P : Program} {tm : List AV} {dst : Option Tmp} {type : TypeId} {pos : String} {after : Array Edge} {guard : Option (Nat × Bool)}
def reV (i j : Nat) : AV -> AV
 | .rw k => (match Nat.beq k i with | true => .rw j | false => .rw k)
 | x => x
def reL (i j : Nat) : List AV -> List AV
 | [] => []
 | c :: cs => reV i j c :: reL i j cs
theorem Yyz {φ φ' : Phi} {i j : Nat} (ha : Agree [j] φ φ') (hb : (φ' j).b = (φ i).b /\ (φ' j).nil = (φ i).nil /\ (φ' j).c = (φ i).c /\ (φ' j).fn = (φ i).fn) (x : AV) (hx : x.has j = false) : (reV i j x).conc φ' = x.conc φ := by
 have key : x.conc φ' = x.conc φ := Ydl ha x fun k hk => by rw [List.mem_singleton.1 hk]; exact hx
 unfold reV
 split
 ·rename_i k
  split
  ·rename_i h;obtain rfl := Yd.1 h;simp only [AV.conc, hb.1, hb.2.1, hb.2.2.1, hb.2.2.2]
  ·exact key
 ·exact key
theorem Ytb {φ φ' : Phi} {i j : Nat} (ha : Agree [j] φ φ') (hb : (φ' j).b = (φ i).b /\ (φ' j).nil = (φ i).nil /\ (φ' j).c = (φ i).c /\ (φ' j).fn = (φ i).fn) : ∀ cs : List AV, AV.hasL j cs = false -> AV.concL φ' (reL i j cs) = AV.concL φ cs
 | [], _ => rfl
 | c :: cs, h => by
  simp only [AV.hasL, Bool.or_eq_false_iff] at h;simp only [reL, AV.concL, Yyz ha hb c h.1, Ytb ha hb cs h.2]
theorem Yz3 {φ : Phi} {T id : Nat} {ts : List Ty} {xs : Dt} {b : Nat} (h : b ∈ ((It.arr T ts xs).conc φ id).foot \/ False) : (φ id).nil = false /\ b = (φ id).b := by
 rcases h with h | h
 ·cases hn : (φ id).nil with
  | true => simp [It.conc, Res.foot, Value.ownBlock, hn] at h
  | false => simp [It.conc, Res.foot, Value.ownBlock, hn] at h; exact ⟨rfl, h⟩
 ·cases h
theorem Yzj {φ : Phi} {T id : Nat} {ts : List Ty} {xs : Dt} (h : (φ id).nil = false) : (φ id).b ∈ ((It.arr T ts xs).conc φ id).foot := by
 simp [It.conc, Res.foot, Value.ownBlock, h]
theorem Yxm {T Tn Tl Tb : Nat} {x y : Operand} {id il bid id' i j : Nat} {ts tl : List Ty} {xs ys : Dt} {cs : List AV} (hs : Yb4 P T 1) (hx : At tm x (.ep id ts.length i j)) (hy : At tm y (.rw il))
  (hi : i < xs.length) (hk : j < ts.length) (ht : ts[j]? = some (.sl tl)) (htl : 0 < tl.length) (hsc : ∀ k ts', tyAt tl k ≠ .sl ts') (hnd : (keys [(id, It.nst Tn ts xs), (il, It.arr Tl tl ys), (bid, It.blk Tb cs)]).Nodup) :
  Does P { dst, op := .store T x y, type, pos, after, guard } tm [(id, .nst Tn ts xs), (il, .arr Tl tl ys), (bid, .blk Tb cs)] (.v undef) [(id, .dead), (il, .frw tl ys), (bid, .blk Tb (reL id id' cs))] [(id', .nst Tn ts (xs.set i (Ybt (xs.getD i []) j [.l ys])))] :=
 fun φ w0 M R a w K Q ho hn hS kk => by
  have h2 := Ym (ho.ev (x := x) (by simp [Op.operands]) hx (by simp));have h3 := Ym (ho.ev (x := y) (by simp [Op.operands]) hy rfl);have hS1 : St w0 M ((It.nst Tn ts xs).conc φ id :: (It.arr Tl tl ys).conc φ il :: (It.blk Tb cs).conc φ bid :: R) w := hS;obtain ⟨e, us, hrow, hr⟩ := Ydv hS1;have hnodup := hnd;simp only [keys, List.map_cons, List.map_nil, List.nodup_cons, List.mem_cons, List.not_mem_nil, or_false, not_or] at hnodup;obtain ⟨⟨n1, n2⟩, n3, _⟩ := hnodup;obtain ⟨hnew1, hnew2⟩ := hn id' (by simp [keys]);have hm1 : ((It.nst Tn ts xs).conc φ id) ∈ ((It.nst Tn ts xs).conc φ id :: (It.arr Tl tl ys).conc φ il :: (It.blk Tb cs).conc φ bid :: R) := List.mem_cons_self;have hm2 : ((It.arr Tl tl ys).conc φ il) ∈ ((It.nst Tn ts xs).conc φ id :: (It.arr Tl tl ys).conc φ il :: (It.blk Tb cs).conc φ bid :: R) := List.mem_cons_of_mem _ List.mem_cons_self;have hap : apart ((It.nst Tn ts xs).conc φ id) ((It.arr Tl tl ys).conc φ il) := (List.pairwise_cons.1 hS1.sep).1 _ List.mem_cons_self;have hread : @RdV (atF w (InB φ [(il, It.arr Tl tl ys)])) (.sl tl) ((AV.rw il).conc φ) (.l ys) := by
   have := Ykx (hs := [(il, It.arr Tl tl ys)]) htl hsc (T := Tl) (id := il) (n := List.length ys) (x := .rw il) (.inl ⟨rfl, rfl⟩) List.mem_cons_self φ w0 M _ w hS1 (fun p hp => by rw [List.mem_singleton.1 hp]; exact hm2);rwa [List.take_length] at this
  let Fl : Nat -> Prop := fun b => (φ il).nil = false /\ b = (φ il).b
  let Fn : Nat -> Prop := fun b => InW.F b \/ ((It.nst Tn ts xs).conc φ id).frz b \/ Fl b
  have hFl : ∀ b, Fl b -> b ∈ ((It.arr Tl tl ys).conc φ il).foot := fun b hb => by rw [hb.2]; exact Yzj hb.1
  have hllt : ∀ b, Fl b -> b < w.heap.size := fun b hb => Res.lt2 (hS1.has _ hm2) b (.inl (hFl b hb));have hInlt : ∀ b, InW.F b -> b < w.heap.size := fun b hb => Nat.lt_of_lt_of_le (InW.lt b hb) (Nat.le_trans hS1.inw.base hS1.kept.size);have hnlt : ∀ b, Fn b -> b < w.heap.size := fun b hb => by
   rcases hb with h | h | h
   ·exact hInlt b h
   ·exact Res.lt2 (hS1.has _ hm1) b (.inr h)
   ·exact hllt b h
  have hInB : ∀ b, InB φ [(il, It.arr Tl tl ys)] b -> InW.F b \/ Fl b := fun b hb => by
   rcases hb with h | ⟨p, hp, h⟩
   ·exact .inl h
   ·rw [List.mem_singleton.1 hp] at h;rcases h with h | h
    ·exact .inr (Yz3 (.inl h))
    ·exact False.elim h
  have hul : us.length = xs.length * ts.length := by rw [<- e]; exact hrow.1
  have hlen : i * ts.length + j + 1 <= us.length := by
   rw [hul];have : (i + 1) * ts.length <= xs.length * ts.length := Nat.mul_le_mul_right _ hi;rw [Nat.succ_mul] at this; omega
  have hcells : ((AV.rw il).conc φ).cells.toList = [(AV.rw il).conc φ] := by
   simp [AV.conc, Value.cells]
  have hnew : RowsRd w Fn ts (us.take (i * ts.length + j) ++ [(AV.rw il).conc φ] ++ us.drop (i * ts.length + j + 1)) (xs.set i (Ybt (xs.getD i []) j [.l ys])) := fun i' k t hi' ht' => by
   rw [List.length_set] at hi';have hk' : k < ts.length := by
    rcases Nat.lt_or_ge k ts.length with a | a
    ·exact a
    ·rw [List.getElem?_eq_none a] at ht'; cases ht'
   obtain ⟨u, g1, g2⟩ := hr i' k t hi' ht';have hL : (us.take (i * ts.length + j) ++ [(AV.rw il).conc φ]).length = i * ts.length + j + 1 := by rw [List.length_append, List.length_take]; simp; omega
   by_cases hin : i' = i /\ k = j
   ·obtain ⟨rfl, rfl⟩ := hin;have ec : cel (xs.set i' (Ybt (xs.getD i' []) k [.l ys])) i' k = .l ys := by
     unfold cel;rw [List.getD_eq_getElem?_getD (l := xs.set _ _), List.getElem?_set_self hi, Option.getD_some, Ydr, if_pos ⟨Nat.le_refl _, by simp⟩];simp
    rw [ht] at ht';cases ht';refine ⟨(AV.rw il).conc φ, ?_, ?_⟩
    ·rw [List.append_assoc, List.getElem?_append_right (by rw [List.length_take]; omega), List.length_take];rw [show i' * ts.length + k - min (i' * ts.length + k) us.length = 0 by omega];rfl
    ·rw [ec];exact hread.grow (w := w) (fun b h1 h2 => ⟨h1, (hInB b h2).elim .inl fun h => .inr (.inr h)⟩) fun _ _ _ => rfl
   ·have ec : cel (xs.set i (Ybt (xs.getD i []) j [.l ys])) i' k = cel xs i' k := by
     unfold cel
     by_cases ei : i' = i
     ·subst ei;rw [List.getD_eq_getElem?_getD (l := xs.set _ _), List.getElem?_set_self hi, Option.getD_some, Ydr, if_neg (by simp; omega)]
     ·rw [List.getD_eq_getElem?_getD (l := xs.set _ _), List.getElem?_set_ne (Ne.symm ei), <- List.getD_eq_getElem?_getD]
    refine ⟨u, ?_, by rw [ec]; exact g2.grow (w := w) (fun b h1 h2 => ⟨h1, .inr (.inl h2)⟩) fun _ _ _ => rfl⟩;have hcase : i' * ts.length + k < i * ts.length + j \/ i * ts.length + j + 1 <= i' * ts.length + k := by
     rcases Nat.lt_trichotomy i' i with h | h | h
     ·have := Nat.mul_le_mul_right ts.length (show i' + 1 <= i by omega);rw [Nat.add_mul] at this; omega
     ·subst h; omega
     ·have := Nat.mul_le_mul_right ts.length (show i + 1 <= i' by omega);rw [Nat.add_mul] at this; omega
    rcases hcase with h | h
    ·rw [List.getElem?_append_left (by omega), List.getElem?_append_left (by rw [List.length_take]; omega), List.getElem?_take, if_pos h, g1]
    ·rw [List.getElem?_append_right (by omega), hL, List.getElem?_drop, <- g1]; congr 1; omega
  have hSx : St w0 M (Yb φ [(id, It.nst Tn ts xs), (il, It.arr Tl tl ys)] ++ ((It.blk Tb cs).conc φ bid :: R)) w := hS1;have hfl : froP ((AV.rw il).conc φ) tl ys (fun b => InW.F b \/ Fl b) w := hread.grow (w := w) (fun b h1 h2 => ⟨h1, hInB b h2⟩) fun _ _ _ => rfl;have hX := hSx.give (X := [.row (.slice (if (φ id).nil then none else some ⟨(φ id).b, 0, none⟩) (φ id).fn (φ id).c) Tn ts.length (φ id).fn us, Res.rdl Fn ts (us.take (i * ts.length + j) ++ [(AV.rw il).conc φ] ++ us.drop (i * ts.length + j + 1)) (xs.set i (Ybt (xs.getD i []) j [.l ys])), Res.fro ((AV.rw il).conc φ) tl ys (fun b => InW.F b \/ Fl b)]) (us := [(id, .dead), (il, .dead)]) (A := []) (by simp [keys, n1]) (by simp) ?_ ?_ ?_ ?_
  ·have hX' := hX;simp only [List.cons_append, List.nil_append] at hX';refine Yf6 (v := (AV.rw il).conc φ) hX' hs h2 h3 (by simp [AV.conc, Value.cells]) (by omega) (fun u hu => by rw [hcells, List.mem_singleton] at hu; subst hu; rfl) hlen fun w' hS2 => ?_;rw [hcells] at hS2;have hJ := hS2.joinN (by rw [List.length_set, e]);have hag := Yy φ id' { φ id with F := Fn };have ne1 : id ≠ id' := fun h => by rw [h] at hnew2; simp [hasH, Nat.beq_refl] at hnew2
   have ne2 : il ≠ id' := fun h => by rw [h] at hnew2; simp [hasH, Nat.beq_refl] at hnew2
   have ne3 : bid ≠ id' := fun h => by rw [h] at hnew2; simp [hasH, Nat.beq_refl] at hnew2
   have hcs : AV.hasL id' cs = false := by
    simp only [hasH, It.has, Bool.or_eq_false_iff] at hnew2;exact hnew2.2.2.1.2
   have eu : Yh [(id, It.nst Tn ts xs), (il, It.arr Tl tl ys), (bid, It.blk Tb cs)] [(id, .dead), (il, .frw tl ys), (bid, .blk Tb (reL id id' cs))] = [(id, .dead), (il, .frw tl ys), (bid, .blk Tb (reL id id' cs))] := by
    simp [Yh, upd, Nat.beq_refl, Yx.2 n1, Yx.2 n2, Yx.2 n3]
   have eu2 : Yh [(id, It.nst Tn ts xs), (il, It.arr Tl tl ys)] [(id, .dead), (il, .dead)] = [(id, .dead), (il, .dead)] := by
    simp [Yh, upd, Nat.beq_refl, Yx.2 n1]
   refine kk (fun k => if k = id' then { φ id with F := Fn } else φ k) w' hag ?_;rw [eu];rw [eu2] at hJ;have ec : AV.concL (fun k => if k = id' then { φ id with F := Fn } else φ k) (reL id id' cs) = AV.concL φ cs := Ytb hag (by simp) cs hcs;simp only [Yb, List.map_cons, List.map_nil, List.cons_append, List.nil_append, It.conc, ec, if_neg ne2, if_neg ne3, if_true];simp only [Yb, List.map_cons, List.map_nil, List.cons_append, List.nil_append, It.conc] at hJ;have hperm : ∀ (a b c d f : Res) (L : RL), List.Perm (a :: b :: c :: d :: f :: L) (c :: d :: b :: f :: a :: L) := fun a b c d f L =>
    (List.perm_middle (l₁ := [a, b]) (a := c) (l₂ := d :: f :: L)).trans (List.Perm.cons c ((List.perm_middle (l₁ := [a, b]) (a := d) (l₂ := f :: L)).trans (List.Perm.cons d (List.perm_middle (l₁ := [b, f]) (a := a) (l₂ := L)).symm)))
   exact (hJ.perm (hperm _ _ _ _ _ _)).drop
  ·intro r hr2;simp only [List.mem_cons, List.not_mem_nil, or_false] at hr2;rcases hr2 with rfl | rfl | rfl
   ·exact hrow
   ·exact Yko hnlt hnew
   ·exact Ylh (fun b hb => hb.elim (hInlt b) (hllt b)) hfl
  ·have own : ∀ b, b ∈ ((It.nst Tn ts xs).conc φ id).foot -> ¬ Fn b := fun b hb hz => by
    rcases hz with h | h | h
    ·exact hS1.farF hm1 hb h
    ·exact Ysp (hS1.has _ hm1) hb h
    ·exact hap.1 b hb (.inl (hFl b h))
   refine List.Pairwise.cons (fun r hr2 => ?_) (List.Pairwise.cons (fun r hr2 => ?_) (by simp))
   ·simp only [List.mem_cons, List.not_mem_nil, or_false] at hr2;rcases hr2 with rfl | rfl
    ·refine ⟨fun b hb hb' => ?_, fun b hb => by simp [Res.rdl, Res.foot] at hb⟩;rcases hb' with hb' | hb'
     ·simp [Res.rdl, Res.foot] at hb'
     ·exact own b hb hb'
    ·refine ⟨fun b hb hb' => ?_, fun b hb => by simp [Res.fro, Res.foot] at hb⟩;rcases hb' with hb' | hb'
     ·simp [Res.fro, Res.foot] at hb'
     ·exact own b hb (hb'.elim .inl fun h => .inr (.inr h))
   ·rw [List.mem_singleton] at hr2;subst hr2;exact ⟨fun b hb => by simp [Res.rdl, Res.foot] at hb, fun b hb => by simp [Res.fro, Res.foot] at hb⟩
  ·intro r hr2 b hb;simp only [List.mem_cons, List.not_mem_nil, or_false] at hr2;rcases hr2 with rfl | rfl | rfl
   ·exact ⟨_, List.mem_cons_self, by simp [keys], hb⟩
   ·simp [Res.rdl, Res.foot] at hb
   ·simp [Res.fro, Res.foot] at hb
  ·intro r hr2 b hb;have hl : Fl b -> SetF φ [(id, It.nst Tn ts xs), (il, It.arr Tl tl ys)] (keys [(id, It.dead), (il, It.dead)]) b := fun h => .inr ⟨_, List.mem_cons_of_mem _ List.mem_cons_self, .inr ⟨by simp [keys], hFl b h⟩⟩;simp only [List.mem_cons, List.not_mem_nil, or_false] at hr2;rcases hr2 with rfl | rfl | rfl
   ·exact False.elim hb
   ·have hb : Fn b := hb;rcases hb with h | h | h
    ·exact .inl h
    ·exact .inr ⟨_, List.mem_cons_self, .inl h⟩
    ·exact hl h
   ·have hb : InW.F b \/ Fl b := hb;exact hb.elim .inl hl
end
def slB (hp : Heap) (v : AV) : Bool := match v with | .rw id => (match look hp id with | some (.arr _ _ _) => true | _ => false) | _ => false
def Y1g (i : Nat) : List AV -> Bool
 | [] => false
 | c :: cs => (match c with | .rw k => (match Nat.beq k i with | true => true | false => Y1g i cs) | _ => Y1g i cs)
def Yxg : Heap -> Nat -> (Nat -> Prop) -> Prop
 | [], _, _ => Stuck 660
 | p :: h, i, K => (match p.2 with | .blk _ cs => (match Y1g i cs with | true => K p.1 | false => Yxg h i K) | _ => Yxg h i K)
def reK (i j : Nat) : List AV -> (List AV -> Prop) -> Prop
 | [], K => K []
 | c :: cs, K => (match c with
  | .rw k => (match Nat.beq k i with | true => reK i j cs fun r => K (.rw j :: r) | false => reK i j cs fun r => K (.rw k :: r))
  | x => reK i j cs fun r => K (x :: r))
theorem Yiu : ∀ {h : Heap} {i : Nat} {K : Nat -> Prop}, Yxg h i K -> ∃ b, K b
 | [], _, _, h => h.elim
 | p :: h, i, K, hk => by
  unfold Yxg at hk
  split at hk
  ·split at hk
   ·exact ⟨_, hk⟩
   ·exact Yiu hk
  ·exact Yiu hk
theorem Yr0 {i j : Nat} : ∀ {cs : List AV} {K : List AV -> Prop}, reK i j cs K ↔ K (reL i j cs)
 | [], K => Iff.rfl
 | c :: cs, K => by
  unfold reK;simp only [reL];unfold reV
  split
  ·split <;> exact Yr0
  ·exact Yr0
def Yj4 (c : Cx) (T id' : Nat) (p v : AV) (hp : Heap) (k : KE) : Prop :=
 match p, v with
 | .ep id sz i j, .rw il => Y0 hp id fun it => (match it with
  | .nst Tn ts xs => Y0 hp il fun it => (match it with
   | .arr Tl tl ys => Yxg hp id fun bid => Y0 hp bid fun it => (match it with
    | .blk Tb cs => Yc (Nat.beq sz ts.length && Nat.ble 1 tl.length && not (Nat.beq id il) && not (Nat.beq id bid) && not (Nat.beq il bid)) (tiK c.tt T fun ti => match ti.size with
     | some n => Yc (Nat.beq n 1) (getK ts j fun t => (match t with
      | .sl tl' => Yc (Ycc.sameTs tl tl') (reK id id' cs fun cs' => Need (decide (i < xs.length)) (k (.v undef) [(id, .nst Tn ts xs), (il, .arr Tl tl ys), (bid, .blk Tb cs)] [(id, .dead), (il, .frw tl ys), (bid, .blk Tb cs')] [(id', .nst Tn ts (xs.set i (Ybt (xs.getD i []) j [.l ys])))]))
      | _ => Stuck 661))
     | none => Stuck 662)
    | _ => Stuck 663)
   | _ => Stuck 664)
  | _ => Stuck 665)
 | _, _ => Stuck 666
theorem Yr8 {a b : Nat} (h : not (Nat.beq a b) = true) : a ≠ b := fun e => by subst e; simp [Nat.beq_refl] at h
section
variable {P : Program} {tm : List AV} {dst : Option Tmp} {type : TypeId} {pos : String} {after : Array Edge} {guard : Option (Nat × Bool)}
theorem Yl7 {c : Cx} (ht : TabOk c.P c.tt) {T id' : Nat} {p v : AV} {x y : Operand} {hp : Heap} {k : KE} (hx : At tm x p) (hy : At tm y v) (h : Yj4 c T id' p v hp k) : Res1 c.P { dst, op := .store T x y, type, pos, after, guard } tm hp k := by
 unfold Yj4 at h
 split at h
 ·rename_i id sz i j il;obtain ⟨it, hl1, h1⟩ := Ye h
  split at h1
  ·rename_i Tn ts xs;obtain ⟨it2, hl2, h2⟩ := Ye h1
   split at h2
   ·rename_i Tl tl ys;obtain ⟨bid, h3⟩ := Yiu h2;obtain ⟨it3, hl3, h4⟩ := Ye h3
    split at h4
    ·rename_i Tb cs;obtain ⟨h5, h6⟩ := Ya h4;simp only [Bool.and_eq_true, Yd, Nat.ble_eq] at h5;obtain ⟨⟨⟨⟨rfl, h52⟩, h53⟩, h54⟩, h55⟩ := h5;have n1 := Yr8 h53;have n2 := Yr8 h54;have n3 := Yr8 h55;have h7 := Yj ht h6
     split at h7
     ·rename_i n hn;obtain ⟨h8, h9⟩ := Ya h7;obtain rfl := Yd.1 h8;obtain ⟨t, ht', h10⟩ := Y8 h9
      split at h10
      ·rename_i tl';obtain ⟨h11, h12⟩ := Ya h10;obtain ⟨rfl, h13⟩ := Y3 h11;obtain ⟨h14, h15⟩ := Yr0.1 h12;have hnd : (keys [(id, It.nst Tn ts xs), (il, It.arr Tl tl ys), (bid, It.blk Tb cs)]).Nodup := by simp [keys, n1, n2, n3]
       exact ⟨_, _, _, _, h15, ((PartOf.one hl3).cons hl2 (by simp [keys, n3])).cons hl1 (by simp [keys, n1, n2]), fun i hi => by simpa [keys] using hi, Yxm (Yb5 hn) hx hy (of_decide_eq_true h14) (List.getElem?_eq_some_iff.1 ht').1 ht' (by omega) h13 hnd⟩
      ·exact h10.elim
     ·exact h7.elim
    ·exact h4.elim
   ·exact h2.elim
  ·exact h1.elim
 ·exact h.elim
end
noncomputable def Yvh (c : Cx) (o : Oper) (tm : List AV) (hp : Heap) (k kp : KE) : Prop :=
 match o.op with
 | .store T x y => evK tm x fun p => (match p with
  | .ep _ _ _ _ => evK tm y fun v => (match slB hp v with
   | true => (match x with | .tmp t => Yj4 c T (3 * t) p v hp k | _ => Stuck 667)
   | false => Yo2 c o tm hp k kp)
  | _ => Yo2 c o tm hp k kp)
 | _ => Yo2 c o tm hp k kp
theorem Yre {c : Cx} {o : Oper} {tm : List AV} {hp : Heap} {k kp : KE} (hc : HandOk c) (h : Yvh c o tm hp k kp) : OpRes c o tm hp k kp := by
 have old : Yo2 c o tm hp k kp -> OpRes c o tm hp k kp := fun h => Yo1 hc h;obtain ⟨dst, op, type, pos, after, guard⟩ := o;unfold Yvh at h
 split at h
 ·rename_i T x y hop;dsimp only at hop; subst hop;obtain ⟨p, jp, hx, h1⟩ := Yg h
  split at h1
  ·obtain ⟨v, jv, hy, h2⟩ := Yg h1
   split at h2
   ·split at h2
    ·exact (Yl7 hc.tab hx hy h2).op
    ·exact h2.elim
   ·exact old h2
  ·exact old h1
 ·exact old h
end
variable [InW]
attribute [local irreducible] Go.Oper.wp
def wF (r : Option Nat) : Fence := { Fence.wide with round := r }
theorem Yvc {r : Option Nat} {n : Nat} {P : Program} {f : FuncId} {args : Array Value} {w : World} {R : Ending -> World -> Prop} : CallsIn (wF r) n P f args w R ↔ Calls P f args w R := callsIn_wide (n := n)
theorem Yv4 {r : Option Nat} {n : Nat} {P : Program} {row : String} {args : Array Value} {w : World} {R : Value -> World -> Prop} (h : Rows P row args w R) : RowsIn (wF r) n P row args w R := fun c cs _ =>
 let ⟨v, w', h1, h2⟩ := h c cs; ⟨v, w', h1, stepsIn_wide.2 h2⟩
theorem Ynt {r : Option Nat} {n : Nat} : (wF r).depth.isSome = true -> 1 <= n := fun h => by simp [wF, Fence.wide] at h
def opW (P : Program) (o : Oper) (a : Act) (w : World) (K : Act -> World -> Prop) (Q : Exit -> Act -> World -> Prop) : Prop := ∀ r, o.wpIn (wF r) 0 P a w K Q
theorem Y0j {P : Program} {o : Oper} {a : Act} {w : World} {K : Act -> World -> Prop} {Q : Exit -> Act -> World -> Prop} (hd : ∀ c, o.op ≠ .defer c) (h : o.wp P a w K Q) : opW P o a w K Q := fun r => by
 refine ⟨fun _ _ => trivial, ?_⟩;rw [Oper.semAt_eq _ _ _ hd];unfold Oper.wp at h;generalize (execOp a.eval o).run P w = x at h;cases x with
 | ok x w' =>
  cases x <;> simp only [Oper.upon, Oper.uponIn] at h ⊢
  case value v => exact h
  case skip => exact h
  case defer d => exact h
  case enter f args => exact ⟨Ynt, Yvc.2 h⟩
  case row row args => exact ⟨Ynt, Yv4 h⟩
 | halt x w' => cases x <;> simp only [Oper.upon, Oper.uponIn] at h ⊢; exact h
def DoesW (P : Program) (o : Oper) (tm : List AV) (hs : Heap) (val : AV) (us nw : Heap) : Prop :=
 ∀ (φ : Phi) (w0 : World) (M : List Nat) (R : RL) (a : Act) (w : World) (K : Act -> World -> Prop) (Q : Exit -> Act -> World -> Prop),
  OpsAt φ tm a o.op -> NewFor (keys nw) tm hs -> St w0 M (Yb φ hs ++ R) w ->
  (∀ φ' w', Agree (keys nw) φ φ' -> St w0 M (Yb φ' (Yh hs us ++ nw) ++ R) w' -> K (a.put o.dst (val.conc φ')) w') -> opW P o a w K Q
def DoesPW (P : Program) (o : Oper) (tm : List AV) (hs : Heap) (val : AV) (us nw : Heap) : Prop :=
 ∀ (φ : Phi) (w0 : World) (M : List Nat) (R : RL) (a : Act) (w : World) (K : Act -> World -> Prop) (Q : Exit -> Act -> World -> Prop),
  OpsAt φ tm a o.op -> NewFor (keys nw) tm hs -> St w0 M (Yb φ hs ++ R) w ->
  (∀ φ' w', Agree (keys nw) φ φ' -> St w0 M (Yb φ' (Yh hs us ++ nw) ++ R) w' -> Q (.panic [{ v := val.conc φ', recovered := false }]) a w') -> opW P o a w K Q
theorem Does.toW {P : Program} {o : Oper} {tm : List AV} {hs us nw : Heap} {val : AV} (hd : ∀ c, o.op ≠ .defer c) (h : Does P o tm hs val us nw) : DoesW P o tm hs val us nw :=
 fun φ w0 M R a w K Q h1 h2 h3 h4 => Y0j hd (h φ w0 M R a w K Q h1 h2 h3 h4)
theorem DoesP.toW {P : Program} {o : Oper} {tm : List AV} {hs us nw : Heap} {val : AV} (hd : ∀ c, o.op ≠ .defer c) (h : DoesP P o tm hs val us nw) : DoesPW P o tm hs val us nw :=
 fun φ w0 M R a w K Q h1 h2 h3 h4 => Y0j hd (h φ w0 M R a w K Q h1 h2 h3 h4)
theorem Ylj {P : Program} {o : Oper} {tm : List AV} {hp hs us nw : Heap} {val : AV} (hd : DoesW P o tm hs val us nw) (hpart : PartOf hs hp) (hu : ∀ i ∈ keys us, i ∈ keys hs) (hB : NewFor (keys nw) tm hp /\ (keys nw).Nodup /\ ∀ i ∈ keys nw, i % 3 ≠ 1)
  {φ0 φ : Phi} {w0 : World} {M : List Nat} {R : RL} {a : Act} {w : World} (h : RepS φ0 φ w0 M R tm hp a w) {K : Act -> World -> Prop} {Q : Exit -> Act -> World -> Prop}
  (kk : ∀ φ' w', RepS φ0 φ' w0 M R (putA tm o.dst val) (Y9 (Yh hp us) nw) (a.put o.dst (val.conc φ')) w' -> K (a.put o.dst (val.conc φ')) w') : opW P o a w K Q := by
 have hB' := hB;obtain ⟨b1, b2, b3⟩ := hB;have hS : St w0 M (Yb φ hs ++ (Yb φ (Yby hs hp) ++ R)) w := by
  have := h.st.perm ((Yr (hpart.perm h.nd)).append (List.Perm.refl R));rwa [Yk, List.append_assoc] at this
 refine hd φ w0 M _ a w K Q (h.tmps.ops _) (fun i hi => ⟨(b1 i hi).1, Yfv fun p hp' => ?_⟩) hS fun φ' w' hag hS' => kk φ' w' (h.new_heap hpart hu hB' hag hS' _ _);exact Yt (b1 i hi).2 (Yba (hpart.all p hp'))
theorem Ywz {h : Heap} {i : Nat} (hm : i ∈ keys h) : ∃ x, look h i = some x := by
 induction h with
 | nil => simp [keys] at hm
 | cons p h ih =>
  rw [Yn]
  split
  ·exact ⟨_, rfl⟩
  ·rename_i hne;simp only [keys, List.map_cons, List.mem_cons] at hm;rcases hm with e | hm
   ·exact absurd e.symm hne
   ·exact ih hm
def Yt3 (P : Program) (L : LI) (i : Nat) (args : List AV) (hs : Heap) (val : AV) (us nw : Heap) : Prop :=
 ∀ (φ : Phi) (w0 : World) (M : List Nat) (R : RL) (w : World), NewFor (keys nw) args hs -> St w0 M (Yb φ hs ++ R) w ->
  RoundIn Fence.wide 0 P (φ i).b (φ i).fn (AV.concL φ args).toArray L.assign L.body w fun e w' => ∃ φ', Agree (keys nw) φ φ' /\ e = .returned (val.conc φ') /\ St w0 M (Yb φ' (Yh hs us ++ nw) ++ R) w'
structure HandOkR (c : Cx) : Prop extends HandOk c where
 round : ∀ L i args hp d k, c.roundH L i args hp d k -> ∃ val hs us nw, k val hs us nw /\ PartOf hs hp /\ (∀ i ∈ keys us, i ∈ keys hs) /\ i ∈ keys hs /\ Yt3 c.P L i args hs val us nw
def Y0s (o : Oper) : Option (Operand × List Operand) := match o.op with | .call { callee := .value f, args := ⟨l⟩, .. } => some (f, l) | _ => none
def Y0o (o : Oper) : Bool := match o.op with | .defer _ => true | _ => false
def Yej (cs : List AV) : List (Nat × AV) -> List AV
 | [] => cs
 | p :: ps => Yej (cs.set p.1 p.2) ps
def lpK (it : It) (K : LI -> List AV -> Prop) : Prop := match it with | .lp L (d :: cs) => K L cs | _ => Stuck 90
def ylK (fv : AV) (K : Nat -> Prop) (K' : Prop) : Prop := match fv with | .yl i => K i | _ => K'
def Yyl (c : Cx) (o : Oper) (tm : List AV) (hp : Heap) (k kp : KE) : Prop :=
 match Y0s o with
 | none => (match Y0o o with | true => Stuck 92 | false => Yvh c o tm hp k kp)
 | some (f, args) => evK tm f fun fv => ylK fv (fun i => evsK tm args fun vs => Y0 hp i fun it => lpK it fun L cs => Yc (Nat.beq vs.length L.ps.size) (c.roundH L i (Yej cs (L.ps.toList.zip vs)) hp (o.dst.getD 0) k)) (Yvh c o tm hp k kp)
theorem Yx3 (φ : Phi) (cs : List AV) (n : Nat) (v : AV) : AV.concL φ (cs.set n v) = (AV.concL φ cs).set n (v.conc φ) := by rw [Y5, Y5, List.map_set]
theorem Yke (φ : Phi) : ∀ (ps : List Nat) (vs cs : List AV), (AV.concL φ (Yej cs (ps.zip vs))).toArray = (ps.zip (AV.concL φ vs)).foldl (fun (t : Array Value) (p : Nat × Value) => t.setIfInBounds p.1 p.2) (AV.concL φ cs).toArray
 | [], vs, cs => by simp [Yej]
 | _ :: _, [], cs => by simp [Yej, AV.concL]
 | p :: ps, v :: vs, cs => by
  simp only [List.zip_cons_cons, Yej, AV.concL, List.foldl_cons];rw [Yke φ ps vs, Yx3];simp
theorem Ymq {i : Nat} : ∀ (ps : List Nat) (vs cs : List AV), AV.hasL i vs = false -> AV.hasL i cs = false -> AV.hasL i (Yej cs (ps.zip vs)) = false
 | [], vs, cs, _, h => by simpa [Yej] using h
 | _ :: _, [], cs, _, h => by simpa [Yej] using h
 | p :: ps, v :: vs, cs, h1, h2 => by
  simp only [AV.hasL, Bool.or_eq_false_iff] at h1;simp only [List.zip_cons_cons, Yej];refine Ymq ps vs _ h1.2 ?_;rw [Yl, List.any_eq_false] at h2 ⊢;intro x hx;rcases List.mem_or_eq_of_mem_set hx with h | rfl
  ·exact h2 x h
  ·simpa using h1.1
section
variable {P : Program} {tm : List AV} {dst : Option Tmp} {type : TypeId} {pos : String} {after : Array Edge} {guard : Option (Nat × Bool)}
theorem Y1k {f : Operand} {args : List Operand} {tys : Array TypeId} {i : Nat} {L : LI} {x : AV} {cs vs : List AV} {hs : Heap} {val : AV} {us nw : Heap} (hf : At tm f (.yl i)) (ha : Ats tm args vs) (hl : look hs i = some (.lp L (x :: cs))) (hn : vs.length = L.ps.size)
  (hc : Yt3 P L i (Yej cs (L.ps.toList.zip vs)) hs val us nw) :
  DoesW P { dst, op := .call { callee := .value f, args := args.toArray, argTypes := tys }, type, pos, after, guard } tm hs val us nw :=
 fun φ w0 M R a w K Q ho hnew hS kk r => by
  have e1 := ho f (by simp [Op.operands, Call.operands]) _ hf (by simp);have e2 := ha.eval (φ := φ) (a := a) fun x hx v hv hj => ho x (by simp [Op.operands, Call.operands, hx]) v hv hj;refine ⟨fun _ _ => trivial, ?_⟩;rw [Oper.semAt_eq _ _ _ (fun c => by simp)];have hb : w.heap[(φ i).b]? = some (L.obj (φ i).fn (AV.concL φ (x :: cs))) := by
   have hm : Res.blk (φ i).b (L.obj (φ i).fn (AV.concL φ (x :: cs))) ∈ Yb φ hs ++ R := List.mem_append_left _ (List.mem_map.2 ⟨_, Yba hl, rfl⟩);exact hS.has _ hm
  have hl2 : (AV.concL φ vs).length = L.ps.size := by rw [Yf, hn]
  have hy := run_yield (P := P) (args := (AV.concL φ vs).toArray) hb (by simpa using hl2);have e3 : (args.toArray).map a.eval = (AV.concL φ vs).toArray := by rw [<- e2]; simp
  have hrun : (execOp a.eval { dst, op := .call { callee := .value f, args := args.toArray, argTypes := tys }, type, pos, after, guard }).run P w = .ok (.round (φ i).b (φ i).fn (AV.concL φ (Yej cs (L.ps.toList.zip vs))).toArray L.assign L.body) w := by
   simp only [execOp, resolve, e1, AV.conc, Deferred.ofValue, Sem.run_bind, Sem.run_pure, Result.andThen_ok, invoke, e3, Array.empty_append, Array.append_empty, hy]
   congr 2
   rw [Yke, <- Array.foldl_toList];simp [AV.concL, Array.toList_zip]
  rw [hrun];refine ⟨Ynt, ?_⟩;have hnw : NewFor (keys nw) (Yej cs (L.ps.toList.zip vs)) hs := fun j hj => by
   obtain ⟨h1, h2⟩ := hnew j hj;have h3 : AV.hasL j (x :: cs) = false := (Yt h2 (Yba hl)).2;simp only [AV.hasL, Bool.or_eq_false_iff] at h3;exact ⟨Ymq _ _ _ (ha.new h1) h3.2, h2⟩
  refine RoundIn.mono (hc φ w0 M R w hnw hS) fun e w' ⟨φ', hag, he, hS'⟩ => ?_;subst he;exact kk φ' w' hag hS'
end
def Y0u (c : Cx) (o : Oper) (tm : List AV) (hp : Heap) (k kp : KE) : Prop :=
 (∃ val hs us nw, k val hs us nw /\ PartOf hs hp /\ (∀ i ∈ keys us, i ∈ keys hs) /\ DoesW c.P o tm hs val us nw) \/
 (∃ val hs us nw, kp val hs us nw /\ PartOf hs hp /\ (∀ i ∈ keys us, i ∈ keys hs) /\ DoesPW c.P o tm hs val us nw)
theorem Yjx {c : Cx} {o : Oper} {tm : List AV} {hp : Heap} {k kp : KE} (hc : HandOkR c) (h : Yyl c o tm hp k kp) : Y0u c o tm hp k kp := by
 have plain : (∀ c, o.op ≠ .defer c) -> Yvh c o tm hp k kp -> Y0u c o tm hp k kp := fun hd h => by
  rcases Yre hc.toHandOk h with ⟨val, hs, us, nw, h1, h2, h3, h4⟩ | ⟨val, hs, us, nw, h1, h2, h3, h4⟩
  ·exact .inl ⟨val, hs, us, nw, h1, h2, h3, h4.toW hd⟩
  ·exact .inr ⟨val, hs, us, nw, h1, h2, h3, h4.toW hd⟩
 unfold Yyl at h
 split at h
 ·split at h
  ·exact h.elim
  ·rename_i hb;exact plain (fun c hc => by simp [Y0o, hc] at hb) h
 ·rename_i f args hcall;obtain ⟨dst, op, type, pos, after, guard⟩ := o;unfold Y0s at hcall
  split at hcall
  ·rename_i f' l tys hop;simp only [Option.some.injEq, Prod.mk.injEq] at hcall;obtain ⟨rfl, rfl⟩ := hcall;dsimp only at hop;subst hop;obtain ⟨fv, hj, hf, h1⟩ := Yg h;unfold ylK at h1
   split at h1
   ·rename_i i;obtain ⟨vs, h2, h3⟩ := Yfz h1;obtain ⟨it, h4, h5⟩ := Ye h3;unfold lpK at h5
    split at h5
    ·rename_i L d cs;obtain ⟨h6, h7⟩ := Ya h5;obtain ⟨val, hs, us, nw, a1, a2, a3, a4, a5⟩ := hc.round _ _ _ _ _ _ h7;obtain ⟨it', hit⟩ := Ywz a4;have : it' = .lp L (d :: cs) := by
      have := a2.all _ (Yba hit);rw [h4] at this;exact (Option.some.inj this).symm
     subst this;exact .inl ⟨val, hs, us, nw, a1, a2, a3, Y1k hf h2 hit (Yd.1 h6) a5⟩
    ·exact h5.elim
   ·exact plain (fun c => by simp) h1
  ·cases hcall
end Go.Proofs.Ytmogofidmchdoaa
