/-
  A machine over abstract states, proved sound: the help of the proof of a law.
-/
import Derived.Test.YtmogofidmchdoaaQa
import Derived.RangeFuncRecord
import Derived.OrdersIn
import Derived.LoopNIn
set_option linter.unusedVariables false
set_option linter.unusedSectionVars false
set_option linter.unusedSimpArgs false
namespace Go.Proofs.Ytmogofidmchdoaa
open Go.RowKit
variable [InW]
attribute [local irreducible] Go.Oper.wp
section
variable {P : Program} {tm : List AV} {dst : Option Tmp} {type : TypeId} {pos : String} {after : Array Edge} {guard : Option (Nat × Bool)}
noncomputable def Yxx : (t : Ty) -> (u : Value) -> (c : Cl) -> RdV t u c -> AV
 | .int k, _, c, _ => .si k c.int
 | .bool, _, c, _ => .sb c.bool
 | .str, _, c, _ => .ss c.str
 | .sl ts, u, c, h => .rs ts ⟨(u, c.lst), h.lst⟩
theorem Yq9 (φ : Phi) (t : Ty) (u : Value) (c : Cl) (h : RdV t u c) : (Yxx t u c h).conc φ = u := by
 cases t with
 | int k => exact h.isInt.symm
 | bool => exact h.isBool.symm
 | str => exact h.isStr.symm
 | sl ts => rfl
noncomputable def Ylw {ts : List Ty} (r : Ro ts) (i k : Nat) : AV := Yxx (tyAt ts k) (r.val i k) (cel r.xs i k) (r.ok i k)
noncomputable def Ydw {ts : List Ty} (r : Ro ts) (i : Nat) : Nat -> Nat -> List AV
 | _, 0 => []
 | k, n + 1 => Ylw r i k :: Ydw r i (k + 1) n
theorem Yjp {ts : List Ty} (r : Ro ts) (i : Nat) : ∀ (n k j : Nat), (Ydw r i k n)[j]? = if j < n then some (Ylw r i (k + j)) else none
 | 0, k, j => by simp [Ydw]
 | n + 1, k, 0 => by simp [Ydw]
 | n + 1, k, j + 1 => by simp [Ydw, Yjp r i n (k + 1) j, show k + 1 + j = k + (j + 1) by omega]
theorem Yfz {ts : List Ty} (r : Ro ts) (i : Nat) : ∀ (n k : Nat), (Ydw r i k n).length = n
 | 0, _ => rfl
 | n + 1, k => by simp [Ydw, Yfz r i n]
def Yhx (t : Ty) (c : Cl) : AV :=
 match t with
 | .int k => .si k c.int
 | .bool => .sb c.bool
 | .str => .ss c.str
 | .sl _ => .v (.slice none 0 0)
theorem Ye1 (φ : Phi) (t : Ty) (c : Cl) : (Yhx t c).conc φ = t.val c := by cases t <;> rfl
noncomputable def Ycp (ts : List Ty) (xs : Dt) (i : Nat) : Nat -> Nat -> List AV
 | _, 0 => []
 | k, n + 1 => Yhx (tyAt ts k) (cel xs i k) :: Ycp ts xs i (k + 1) n
theorem Yij (ts : List Ty) (xs : Dt) (i : Nat) : ∀ (n k j : Nat), (Ycp ts xs i k n)[j]? = if j < n then some (Yhx (tyAt ts (k + j)) (cel xs i (k + j))) else none
 | 0, k, j => by simp [Ycp]
 | n + 1, k, 0 => by simp [Ycp]
 | n + 1, k, j + 1 => by simp [Ycp, Yij ts xs i n (k + 1) j, show k + 1 + j = k + (j + 1) by omega]
theorem Ye0 (ts : List Ty) (xs : Dt) (i : Nat) : ∀ (n k : Nat), (Ycp ts xs i k n).length = n
 | 0, _ => rfl
 | n + 1, k => by simp [Ycp, Ye0 ts xs i n]
theorem Yuv {w0 w : World} {M : List Nat} {L : RL} (h : St w0 M L w) {p : Addr} {v : Value} (hb : p.block < InW.B) (hv : InW.w.cell? p = some v) : w.cell? p = some v := (h.belowIn.cell hb).trans hv
theorem Yvb {T e sz by_ : Nat} {zs : List AV} {x ix : Operand} {ts : List Ty} {r : Ro ts} {iv : AV} {kd : IntKind} {i : Int} (ht : (mkTI P T).slice = some (e, sz, by_, zs)) (hsz : sz = ts.length) (hx : At tm x (.rs ts r)) (hi : At tm ix iv) (hij : iv.rd = true) (hiv : ∀ φ, iv.conc φ = .int kd i)
  (h0 : 0 <= i) (h1 : i < (r.xs.length : Int)) : Does P { dst, op := .indexAddr T x ix, type, pos, after, guard } tm [] (.rp ts r i.toNat 0) [] [] :=
 fun φ w0 M R a w K Q ho _ hS kk => by
  subst hsz;obtain ⟨A, c, hv, _, _, u, h2, _⟩ := r.inv;obtain ⟨b, off, rfl, hb, _⟩ := h2 (fun e => by rw [e] at h1; simp at h1; omega);have e1 := ho.ev (x := x) (by simp [Op.operands]) hx (by simp);have e2 := ho.ev (x := ix) (by simp [Op.operands]) hi hij;simp only [AV.conc, hv] at e1;rw [hiv φ] at e2;refine Ym7 (Yk ht φ).1 e1 e2 h0 h1 rfl ?_;have := kk φ w (Agree.refl _ _) hS;simpa [AV.conc, hv, Ycz] using this
theorem Yvd {T : TypeId} {x : Operand} {j off i k : Nat} {ts : List Ty} {r : Ro ts} (hf : Ygj P T j off) (hx : At tm x (.rp ts r i k)) : Does P { dst, op := .fieldAddr T x j, type, pos, after, guard } tm [] (.rp ts r i (k + off)) [] [] :=
 fun φ w0 M R a w K Q ho _ hS kk => by
  have e1 := ho.ev (x := x) (by simp [Op.operands]) hx (by simp);simp only [AV.conc] at e1;rw [Yk0] at e1;refine Yqk hf e1 rfl ?_;have := kk φ w (Agree.refl _ _) hS;simp only [AV.conc] at this;rw [<- Nat.add_assoc, Yib] at this;exact this
theorem Yy4 {w0 w : World} {M : List Nat} {L : RL} (h : St w0 M L w) {ts : List Ty} (r : Ro ts) {i k : Nat} (hi : i < r.xs.length) (hk : k < ts.length) (φ : Phi) : w.cell? (Ycz r.v (i * ts.length + k)) = some ((Ylw r i k).conc φ) := by
 have := r.cell hi hk;unfold Ylw;rw [Yq9];exact Yuv h this.2 this.1
theorem Yu9 {T : TypeId} {x : Operand} {i k : Nat} {ts : List Ty} {r : Ro ts} (ha : Yfw P T false) (hx : At tm x (.rp ts r i k)) (hi : i < r.xs.length) (hk : k < ts.length) : Does P { dst, op := .load T x, type, pos, after, guard } tm [] (Ylw r i k) [] [] :=
 fun φ w0 M R a w K Q ho _ hS kk => by
  have h2 := Yo (ho.ev (x := x) (by simp [Op.operands]) hx (by simp));simp only [AV.conc] at h2;unfold Oper.wp execOp;simp only [h2, Sem.run_bind, Yct ha (Yy4 hS r hi hk φ), Result.andThen_ok, Sem.run_pure, Oper.upon];exact kk φ w (Agree.refl _ _) hS
theorem Yu8 {T : TypeId} {x : Operand} {i k n : Nat} {ts : List Ty} {r : Ro ts} (ha : Yfw P T true) (hs : Yb6 P T n) (hx : At tm x (.rp ts r i k)) (hi : i < r.xs.length) (hk : k + n <= ts.length) : Does P { dst, op := .load T x, type, pos, after, guard } tm [] (.agg (Ydw r i k n)) [] [] :=
 fun φ w0 M R a w K Q ho _ hS kk => by
  have h2 := Yo (ho.ev (x := x) (by simp [Op.operands]) hx (by simp));simp only [AV.conc] at h2;rw [Yk0] at h2;have hcs : Ynt w (Ycz r.v (i * ts.length + k)).block (Ycz r.v (i * ts.length + k)).off (AV.concL φ (Ydw r i k n)) := fun j u hj => by
   rw [Yb9, Yjp] at hj
   split at hj
   ·rename_i hjn;simp only [Option.map_some, Option.some.injEq] at hj;subst hj;have := Yy4 hS r hi (k := k + j) (by omega) φ;rw [<- Nat.add_assoc, Yib] at this;exact this
   ·cases hj
  unfold Oper.wp execOp;simp only [h2, Sem.run_bind, Ydr ha hs (by rw [Yd, Yfz]) hcs, Result.andThen_ok, Sem.run_pure, Oper.upon];exact kk φ w (Agree.refl _ _) hS
theorem Yno {T e sz by_ : Nat} {zs : List AV} {x : Operand} {xv : AV} {n : Nat} {hs : Heap} (ht : (mkTI P T).slice = some (e, sz, by_, zs)) (hx : At tm x xv) (hj : xv.rd = true)
  (hv : ∀ (φ : Phi) (w0 : World) (M : List Nat) (R : RL) (w : World), St w0 M (Yc φ hs ++ R) w -> ∃ A c, xv.conc φ = .slice A n c) : Does P { dst, op := .call { callee := .builtin .len, args := #[x], argTypes := #[T] }, type, pos, after, guard } tm hs (.si .i64 (n : Int)) [] [] :=
 fun φ w0 M R a w K Q ho _ hS kk => by
  obtain ⟨A, c, h1⟩ := hv φ w0 M R w hS;have e1 := ho.ev (x := x) (by simp [Op.operands, Call.operands]) hx hj;rw [h1] at e1;exact Yy9 (Yk ht φ).1 e1 (kk φ w (Agree.refl _ _) (by simpa [Yh] using hS))
def BoundS (tm : List AV) (x : Option Operand) (dflt k : Nat) : Prop := match x with | none => k = dflt | some x => ∃ kd v, At tm x v /\ v.rd = true /\ ∀ φ, v.conc φ = .int kd (k : Int)
theorem BoundS.is {φ : Phi} {a : Act} {x : Option Operand} {dflt k : Nat} (h : BoundS tm x dflt k) (ho : ∀ y, x = some y -> ∀ v, At tm y v -> v.rd = true -> a.eval y = v.conc φ) : Yd3 (x.map a.eval) dflt k := by
 cases x with
 | none => exact h
 | some y =>
  obtain ⟨kd, v, hy, hj, hv⟩ := h;simp only [Option.map_some, ho y rfl _ hy hj, hv φ, Yd3]
theorem Yu7 {T e sz by_ l h : Nat} {zs : List AV} {x : Operand} {hi lop : Option Operand} {ts : List Ty} {r : Ro ts} (ht : (mkTI P T).slice = some (e, sz, by_, zs)) (hsz : sz = ts.length) (hx : At tm x (.rs ts r)) (hl : BoundS tm lop 0 l) (hh : BoundS tm hi r.xs.length h) (h1 : l <= h) (h2 : h <= r.xs.length) :
  Does P { dst, op := .slice T x lop hi none, type, pos, after, guard } tm [] (.rs ts (r.cut l h)) [] [] :=
 fun φ w0 M R a w K Q ho _ hS kk => by
  subst hsz;obtain ⟨A, c, hv, hc, _⟩ := r.inv;have e1 := ho x (by simp [Op.operands]) _ hx (by simp);simp only [AV.conc, hv] at e1;have hr := Ydb (w := w) (Yk ht φ).1 A (n := r.xs.length) (c := c) (l := l) (h := h) (hl.is (φ := φ) (a := a) fun y hy => ho y (by simp [Op.operands, hy])) (hh.is (φ := φ) (a := a) fun y hy => ho y (by simp [Op.operands, hy])) h1 (by omega);rw [<- e1] at hr;unfold Oper.wp;rw [Yck hr];have h3 := kk φ w (Agree.refl _ _) hS;simp only [AV.conc, r.cut_v l h h1 h2, hv, Ro.cutV] at h3;exact h3
theorem Yw0 {T e sz by_ : Nat} {zs : List AV} {x : Operand} {hi mx : Operand} {ts : List Ty} {r : Ro ts} (ht : (mkTI P T).slice = some (e, sz, by_, zs)) (hx : At tm x (.rs ts r)) (hh : BoundS tm (some hi) 1 0) (hm : BoundS tm (some mx) 1 0) :
  Does P { dst, op := .slice T x none (some hi) (some mx), type, pos, after, guard } tm [] (.rs ts r.zero) [] [] :=
 fun φ w0 M R a w K Q ho _ hS kk => by
  obtain ⟨A, c, hv, hc, _⟩ := r.inv;have e1 := ho x (by simp [Op.operands]) _ hx (by simp);simp only [AV.conc, hv] at e1;obtain ⟨k1, v1, a1, b1, c1⟩ := hh;obtain ⟨k2, v2, a2, b2, c2⟩ := hm;have e2 := ho hi (by simp [Op.operands]) _ a1 b1;have e3 := ho mx (by simp [Op.operands]) _ a2 b2;rw [c1 φ] at e2;rw [c2 φ] at e3;have hr := Yif (w := w) (Yk ht φ).1 A (n := r.xs.length) (c := c) (h := 0) (m := 0) e2 e3 (Nat.le_refl _) (Nat.zero_le _);rw [<- e1] at hr;unfold Oper.wp;rw [Yck (lo := none) (hi := some hi) (mx := some mx) hr];have h3 := kk φ w (Agree.refl _ _) hS;simp only [AV.conc, r.zero_v, hv, zeroV] at h3;simp only [Oper.upon, if_true];exact h3
theorem Yh9 {w0 w : World} {M : List Nat} {R : RL} {φ : Phi} {id T : Nat} {ts : List Ty} {xs : Dt} (hts : 0 < ts.length) (h : St w0 M ((It.arr T ts xs).conc φ id :: R) w) : (φ id).fn = xs.length /\ w.ownsRow 0 T ts.length (.slice (if (φ id).nil then none else some ⟨(φ id).b, 0, none⟩) (φ id).fn (φ id).c) (φ id).fn (Yt ts xs) := by
 have hh : w.ownsRow 0 T ts.length (.slice (if (φ id).nil then none else some ⟨(φ id).b, 0, none⟩) (φ id).fn (φ id).c) (φ id).fn (Yt ts xs) := h.look Look.head;refine ⟨?_, hh⟩;have := hh.1;rw [Y4] at this;exact (Nat.eq_of_mul_eq_mul_right hts this).symm
theorem Yfu {w0 w : World} {M : List Nat} {R : RL} {φ : Phi} {id T : Nat} {ts : List Ty} {xs : Dt} (hts : 0 < ts.length) (hn : 0 < xs.length) (h : St w0 M ((It.arr T ts xs).conc φ id :: R) w) : (φ id).nil = false := by
 obtain ⟨e, hh⟩ := Yh9 hts h;cases hnil : (φ id).nil with
 | false => rfl
 | true =>
  rw [hnil] at hh;rcases hh.2 with ⟨_, h0⟩ | ⟨g, cap, cur, hg, _⟩
  ·omega
  ·simp at hg
theorem Ynr {w0 w : World} {M : List Nat} {R : RL} {φ : Phi} {id T : Nat} {ts : List Ty} {xs : Dt} (hts : 0 < ts.length) (h : St w0 M ((It.arr T ts xs).conc φ id :: R) w) : xs.length <= (φ id).c /\ xs.length <= maxLen := by
 obtain ⟨e, hh⟩ := Yh9 hts h;rcases hh.2 with ⟨_, h0⟩ | ⟨g, cap, cur, hg, _, _, hnc, hm, _⟩
 ·omega
 ·simp only [Value.slice.injEq] at hg; omega
def OwnSl (T : Nat) (ts : List Ty) (xs : Dt) (id n : Nat) (x : AV) : Prop := (x = .rw id /\ n = xs.length) \/ (x = .sl id 0 0 n /\ n <= xs.length)
theorem OwnSl.rd {T : Nat} {ts : List Ty} {xs : Dt} {id n : Nat} {x : AV} (h : OwnSl T ts xs id n x) : x.rd = true := by rcases h with ⟨rfl, _⟩ | ⟨rfl, _⟩ <;> rfl
theorem OwnSl.conc {T : Nat} {ts : List Ty} {xs : Dt} {id n : Nat} {x : AV} (h : OwnSl T ts xs id n x) (hts : 0 < ts.length) {w0 w : World} {M : List Nat} {R : RL} {φ : Phi} (hS : St w0 M ((It.arr T ts xs).conc φ id :: R) w) :
  x.conc φ = .slice (if (φ id).nil then none else some ⟨(φ id).b, 0, none⟩) n (φ id).c /\ n <= xs.length := by
 rcases h with ⟨rfl, rfl⟩ | ⟨rfl, hn⟩
 ·exact ⟨by simp only [AV.conc, (Yh9 hts hS).1], Nat.le_refl _⟩
 ·exact ⟨by simp [AV.conc], hn⟩
theorem Ypj {T e sz by_ T' : Nat} {zs : List AV} {x ix : Operand} {ts : List Ty} {xs : Dt} {id n : Nat} {xv iv : AV} {kd : IntKind} {i : Int} (ht : (mkTI P T).slice = some (e, sz, by_, zs)) (hsz : sz = ts.length) (hts : 0 < ts.length) (hx : At tm x xv) (ho2 : OwnSl T' ts xs id n xv) (hi : At tm ix iv) (hij : iv.rd = true) (hiv : ∀ φ, iv.conc φ = .int kd i)
  (h0 : 0 <= i) (h1 : i < (n : Int)) : Does P { dst, op := .indexAddr T x ix, type, pos, after, guard } tm [(id, .arr T' ts xs)] (.ep id ts.length i.toNat 0) [] [] :=
 fun φ w0 M R a w K Q ho _ hS kk => by
  subst hsz;obtain ⟨hc, hn⟩ := ho2.conc hts hS;have hnil := Yfu hts (by omega) hS;have e1 := ho.ev (x := x) (by simp [Op.operands]) hx ho2.rd;have e2 := ho.ev (x := ix) (by simp [Op.operands]) hi hij;rw [hc, hnil] at e1;rw [hiv φ] at e2;simp only [Bool.false_eq_true, if_false] at e1;refine Ym7 (Yk ht φ).1 e1 e2 h0 h1 rfl ?_;have := kk φ w (Agree.refl _ _) hS;simpa [AV.conc] using this
theorem Yrg {T : Nat} {ts : List Ty} {xs : Dt} {id l n : Nat} (hts : 0 < ts.length) {w0 w : World} {M : List Nat} {R : RL} {φ : Phi} (hS : St w0 M ((It.arr T ts xs).conc φ id :: R) w) (hl : l + n <= xs.length) (hn : 0 < n) :
  (AV.rwp id ts.length l n).conc φ = .slice (some ⟨(φ id).b, l * ts.length, none⟩) n ((φ id).c - l) := by
 have hc := (Ynr hts hS).1;have hnil := Yfu hts (by omega) hS;simp only [AV.conc, hnil, Bool.false_eq_true, if_false];rw [if_neg (show ¬ (φ id).c = l by omega), Option.map_some, Yl, Nat.zero_add]
theorem Ys9 {T e sz by_ T' : Nat} {zs : List AV} {x ix : Operand} {ts : List Ty} {xs : Dt} {id l n : Nat} {iv : AV} {kd : IntKind} {i : Int} (ht : (mkTI P T).slice = some (e, sz, by_, zs)) (hsz : sz = ts.length) (hts : 0 < ts.length) (hx : At tm x (.rwp id ts.length l n)) (hl : l + n <= xs.length) (hi : At tm ix iv) (hij : iv.rd = true) (hiv : ∀ φ, iv.conc φ = .int kd i)
  (h0 : 0 <= i) (h1 : i < (n : Int)) : Does P { dst, op := .indexAddr T x ix, type, pos, after, guard } tm [(id, .arr T' ts xs)] (.ep id ts.length (l + i.toNat) 0) [] [] :=
 fun φ w0 M R a w K Q ho _ hS kk => by
  subst hsz;have hc := Yrg hts hS hl (show 0 < n by omega);have e1 := ho.ev (x := x) (by simp [Op.operands]) hx (by simp);have e2 := ho.ev (x := ix) (by simp [Op.operands]) hi hij;rw [hc] at e1;rw [hiv φ] at e2;refine Ym7 (Yk ht φ).1 e1 e2 h0 h1 rfl ?_;have := kk φ w (Agree.refl _ _) hS;simpa [AV.conc, Nat.add_mul] using this
theorem Yu6 {T e sz by_ l h T' : Nat} {zs : List AV} {x : Operand} {hi lop : Option Operand} {ts : List Ty} {xs : Dt} {id : Nat} (ht : (mkTI P T).slice = some (e, sz, by_, zs)) (hsz : sz = ts.length) (hts : 0 < ts.length) (hx : At tm x (.rw id)) (hl : BoundS tm lop 0 l) (hh : BoundS tm hi xs.length h) (h1 : l <= h) (h2 : h <= xs.length) :
  Does P { dst, op := .slice T x lop hi none, type, pos, after, guard } tm [(id, .arr T' ts xs)] (.rwp id ts.length l (h - l)) [] [] :=
 fun φ w0 M R a w K Q ho _ hS kk => by
  subst hsz;have hS' : St w0 M ((It.arr T' ts xs).conc φ id :: R) w := hS;have hc := (Ynr hts hS').1;have hf := (Yh9 hts hS').1;have e1 := ho x (by simp [Op.operands]) _ hx (by simp);simp only [AV.conc, hf] at e1;have hr := Ydb (w := w) (Yk ht φ).1 (if (φ id).nil then none else some ⟨(φ id).b, 0, none⟩) (n := xs.length) (c := (φ id).c) (l := l) (h := h) (hl.is (φ := φ) (a := a) fun y hy => ho y (by simp [Op.operands, hy])) (hh.is (φ := φ) (a := a) fun y hy => ho y (by simp [Op.operands, hy])) h1 (by omega);rw [<- e1] at hr;unfold Oper.wp;rw [Yck hr];exact kk φ w (Agree.refl _ _) hS
theorem Yve {T : TypeId} {x : Operand} {j off id sz i k : Nat} (hf : Ygj P T j off) (hx : At tm x (.ep id sz i k)) : Does P { dst, op := .fieldAddr T x j, type, pos, after, guard } tm [] (.ep id sz i (k + off)) [] [] :=
 fun φ w0 M R a w K Q ho _ hS kk => Yqk hf (ho.ev (by simp [Op.operands]) hx (by simp)) (by rw [Nat.add_assoc]) (kk φ w (Agree.refl _ _) hS)
theorem Yi3 {ts : List Ty} {xs : Dt} {T : Nat} {i k : Nat} (hi : i < xs.length) (hk : k < ts.length) (φ : Phi) : ((It.arr T ts xs).vals φ)[i * ts.length + k]? = some ((Yhx (tyAt ts k) (cel xs i k)).conc φ) := by
 rw [Ye1];simp only [It.vals, Yhj ts xs i k hi hk, List.getElem?_eq_getElem hk, Option.map_some, Yev, List.getD_eq_getElem?_getD, Option.getD_some]
theorem Yph {T : TypeId} {x : Operand} {id i k T' : Nat} {ts : List Ty} {xs : Dt} (ha : Yfw P T false) (hx : At tm x (.ep id ts.length i k)) (hi : i < xs.length) (hk : k < ts.length) : Does P { dst, op := .load T x, type, pos, after, guard } tm [(id, .arr T' ts xs)] (Yhx (tyAt ts k) (cel xs i k)) [] [] :=
 fun φ w0 M R a w K Q ho _ hS kk => by
  have h2 := Yo (ho.ev (x := x) (by simp [Op.operands]) hx (by simp));simp only [AV.conc] at h2;unfold Oper.wp execOp;simp only [h2, Sem.run_bind, Yct ha (Y3 hS (Yi3 (T := T') hi hk φ)), Result.andThen_ok, Sem.run_pure, Oper.upon];exact kk φ w (Agree.refl _ _) hS
theorem Yva {T : TypeId} {x : Operand} {id i k n T' : Nat} {ts : List Ty} {xs : Dt} (ha : Yfw P T true) (hs : Yb6 P T n) (hx : At tm x (.ep id ts.length i k)) (hi : i < xs.length) (hk : k + n <= ts.length) : Does P { dst, op := .load T x, type, pos, after, guard } tm [(id, .arr T' ts xs)] (.agg (Ycp ts xs i k n)) [] [] :=
 fun φ w0 M R a w K Q ho _ hS kk => by
  have h2 := Yo (ho.ev (x := x) (by simp [Op.operands]) hx (by simp));simp only [AV.conc] at h2;have hcs : Ynt w (φ id).b (i * ts.length + k) (AV.concL φ (Ycp ts xs i k n)) := fun j u hj => by
   rw [Yb9, Yij] at hj
   split at hj
   ·rename_i hjn;simp only [Option.map_some, Option.some.injEq] at hj;subst hj;rw [Nat.add_assoc];exact Y3 hS (Yi3 (T := T') hi (by omega) φ)
   ·cases hj
  unfold Oper.wp execOp;simp only [h2, Sem.run_bind, Ydr ha hs (by rw [Yd, Ye0]) hcs, Result.andThen_ok, Sem.run_pure, Oper.upon];exact kk φ w (Agree.refl _ _) hS
end
end Go.Proofs.Ytmogofidmchdoaa
namespace Go.Proofs.Ytmogofidmchdoaa
open Go.RowKit
variable [InW]
attribute [local irreducible] Go.Oper.wp
section
variable {P : Program} {tm : List AV} {dst : Option Tmp} {type : TypeId} {pos : String} {after : Array Edge} {guard : Option (Nat × Bool)}
def clK (t : Ty) (x : AV) (K : Cl -> Prop) : Prop :=
 match t with
 | .int k => (match x with | .si k' n => Yb (decide (k' = k)) (K (.i n)) | .v (.int k' n) => Yb (decide (k' = k)) (K (.i n)) | _ => Stuck 310)
 | .bool => (match x with | .sb b => K (.b b) | .v (.bool b) => K (.b b) | _ => Stuck 311)
 | .str => (match x with | .ss s => K (.s s) | .v (.string s) => K (.s s) | _ => Stuck 312)
 | .sl _ => Stuck 313
theorem Yi2 {t : Ty} {x : AV} {K : Cl -> Prop} (h : clK t x K) : ∃ c, K c /\ (∀ φ, x.conc φ = t.val c) /\ (∀ i, x.has i = false) := by
 unfold clK at h
 split at h
 ·split at h
  ·obtain ⟨h1, h2⟩ := Ya h;obtain rfl := of_decide_eq_true h1;exact ⟨_, h2, fun φ => rfl, fun i => rfl⟩
  ·obtain ⟨h1, h2⟩ := Ya h;obtain rfl := of_decide_eq_true h1;exact ⟨_, h2, fun φ => rfl, fun i => rfl⟩
  ·exact h.elim
 ·split at h
  ·exact ⟨_, h, fun φ => rfl, fun i => rfl⟩
  ·exact ⟨_, h, fun φ => rfl, fun i => rfl⟩
  ·exact h.elim
 ·split at h
  ·exact ⟨_, h, fun φ => rfl, fun i => rfl⟩
  ·exact ⟨_, h, fun φ => rfl, fun i => rfl⟩
  ·exact h.elim
 ·exact h.elim
def clsK : List Ty -> List AV -> (List Cl -> Prop) -> Prop
 | [], [], K => K []
 | t :: ts, x :: xs, K => clK t x fun c => clsK ts xs fun cs => K (c :: cs)
 | _, _, _ => Stuck 314
theorem Yhp : ∀ {ts : List Ty} {xs : List AV} {K : List Cl -> Prop}, clsK ts xs K -> ∃ cs, K cs /\ (∀ φ, AV.concL φ xs = Yw ts cs) /\ cs.length = ts.length /\ xs.length = ts.length /\ ∀ i, AV.hasL i xs = false
 | [], [], K, h => ⟨[], h, fun φ => rfl, rfl, rfl, fun i => rfl⟩
 | t :: ts, x :: xs, K, h => by
  obtain ⟨c, h1, h2, h3⟩ := Yi2 h;obtain ⟨cs, h4, h5, h6, h7, h8⟩ := Yhp h1;exact ⟨c :: cs, h4, fun φ => by simp [AV.concL, Yw, h2 φ, h5 φ], by simp [h6], by simp [h7], fun i => by simp [AV.hasL, h3 i, h8 i]⟩
 | [], _ :: _, _, h => h.elim
 | _ :: _, [], _, h => h.elim
def Yqd (ts : List Ty) : Nat -> List AV -> (Dt -> Prop) -> Prop
 | 0, [], K => K []
 | 0, _ :: _, _ => Stuck 315
 | m + 1, cs, K => Ygp cs ts.length fun r => Yiu cs ts.length fun rest => clsK ts r fun l => Yqd ts m rest fun ys => K (l :: ys)
theorem Yc4 {ts : List Ty} : ∀ {m : Nat} {cs : List AV} {K : Dt -> Prop}, Yqd ts m cs K -> ∃ ys, K ys /\ ys.length = m /\ (∀ φ, AV.concL φ cs = Yt ts ys) /\ ∀ i, AV.hasL i cs = false
 | 0, [], K, h => ⟨[], h, rfl, fun φ => rfl, fun i => rfl⟩
 | 0, _ :: _, _, h => h.elim
 | m + 1, cs, K, h => by
  obtain ⟨h1, h2⟩ := Ybn h;obtain ⟨h3, h4⟩ := Yb0 h2;obtain ⟨l, h5, h6, h7, h8, h9⟩ := Yhp h4;obtain ⟨ys, k1, k2, k3, k4⟩ := Yc4 h5;refine ⟨l :: ys, k1, by simp [k2], fun φ => ?_, fun i => ?_⟩
  ·conv => lhs; rw [<- List.take_append_drop ts.length cs]
   rw [Ybo, h6 φ, k3 φ];rfl
  ·rw [<- List.take_append_drop ts.length cs, Yj, List.any_append, <- Yj, <- Yj, h9 i, k4 i];rfl
def Yxi : Ty -> Cl
 | .int _ => .i 0
 | .bool => .b false
 | .str => .s ByteArray.empty
 | .sl _ => .l []
def Ypx : List Ty -> List Cl
 | [] => []
 | t :: ts => Yxi t :: Ypx ts
def tyK (x : AV) (K : Ty -> Prop) : Prop :=
 match x with
 | .v (.int k n) => Yb (decide (n = 0)) (K (.int k))
 | .v (.bool b) => (match b with | false => K .bool | true => Stuck 316)
 | .v (.string s) => Yb (Nat.beq s.size 0) (K .str)
 | .v (.slice none 0 0) => K (.sl [])
 | _ => Stuck 317
def tysK : List AV -> (List Ty -> Prop) -> Prop
 | [], K => K []
 | x :: xs, K => tyK x fun t => tysK xs fun ts => K (t :: ts)
theorem Yv3 {x : AV} {K : Ty -> Prop} (h : tyK x K) : ∃ t, K t /\ ∀ φ, x.conc φ = t.val (Yxi t) := by
 unfold tyK at h
 split at h
 ·obtain ⟨h1, h2⟩ := Ya h;obtain rfl := of_decide_eq_true h1;exact ⟨_, h2, fun φ => rfl⟩
 ·split at h
  ·exact ⟨_, h, fun φ => rfl⟩
  ·exact h.elim
 ·obtain ⟨h1, h2⟩ := Ya h;refine ⟨_, h2, fun φ => ?_⟩;rename_i s;have : s = ByteArray.empty := by
   obtain ⟨d⟩ := s;have hs : d.size = 0 := Ye.1 h1;exact congrArg ByteArray.mk (Array.eq_empty_of_size_eq_zero hs)
  rw [this]; rfl
 ·exact ⟨_, h, fun φ => rfl⟩
 ·exact h.elim
theorem Ygo : ∀ {xs : List AV} {K : List Ty -> Prop}, tysK xs K -> ∃ ts, K ts /\ xs.length = ts.length /\ ∀ φ, AV.concL φ xs = Yw ts (Ypx ts)
 | [], K, h => ⟨[], h, rfl, fun φ => rfl⟩
 | x :: xs, K, h => by
  obtain ⟨t, h1, h2⟩ := Yv3 h;obtain ⟨ts, h3, h4, h5⟩ := Ygo h1;exact ⟨t :: ts, h3, by simp [h4], fun φ => by simp [AV.concL, Yw, Ypx, h2 φ, h5 φ]⟩
def Yln : List Cl -> Nat -> List Cl -> List Cl
 | l, 0, cs => cs ++ l.drop cs.length
 | l, k + 1, cs => l.headD .z :: Yln l.tail k cs
theorem Yja : ∀ (ts : List Ty) (l : List Cl) (n : Nat), Yw (ts.drop n) (l.drop n) = (Yw ts l).drop n
 | ts, l, 0 => by simp
 | [], l, n + 1 => by simp [Yw]
 | t :: ts, l, n + 1 => by
  have := Yja ts l.tail n;simp only [List.drop_succ_cons, Yw];rw [<- this];cases l <;> simp
theorem Ylh : ∀ (ts : List Ty) (cs l : List Cl), cs.length <= ts.length -> Yw ts (cs ++ l) = Yw (ts.take cs.length) cs ++ Yw (ts.drop cs.length) l
 | ts, [], l, _ => by simp [Yw]
 | [], c :: cs, l, h => by simp at h
 | t :: ts, c :: cs, l, h => by simp [Yw, Ylh ts cs l (by simpa using h)]
theorem Ylf : ∀ (ts : List Ty) (l : List Cl) (k : Nat) (cs : List Cl), k + cs.length <= ts.length -> Yw ts (Yln l k cs) = (Yw ts l).take k ++ Yw ((ts.drop k).take cs.length) cs ++ (Yw ts l).drop (k + cs.length)
 | ts, l, 0, cs, h => by
  simp only [Yln, List.take_zero, List.nil_append, List.drop_zero, Nat.zero_add];rw [Ylh ts cs _ (by omega), Yja]
 | [], l, k + 1, cs, h => by simp at h
 | t :: ts, l, k + 1, cs, h => by
  have := Ylf ts l.tail k cs (by simp at h; omega);simp only [Yln, Yw, List.headD_cons, List.tail_cons, this, List.take_succ_cons, List.drop_succ_cons, show k + 1 + cs.length = k + cs.length + 1 by omega, List.cons_append]
theorem Ymd (ts : List Ty) : ∀ (xs : Dt) (i : Nat), i < xs.length -> ∃ A B, A.length = i * ts.length /\ Yt ts xs = A ++ (Yw ts (xs.getD i []) ++ B) /\ ∀ row, Yt ts (xs.set i row) = A ++ (Yw ts row ++ B)
 | [], i, h => by simp at h
 | l :: xs, 0, _ => ⟨[], Yt ts xs, by simp, by simp [Yt], fun row => by simp [Yt]⟩
 | l :: xs, i + 1, h => by
  obtain ⟨A, B, h1, h2, h3⟩ := Ymd ts xs i (by simpa using h);refine ⟨Yw ts l ++ A, B, by simp [Ybi, h1, Nat.succ_mul]; omega, ?_, fun row => ?_⟩
  ·simp only [Yt, h2, List.getD_cons_succ, List.append_assoc]
  ·simp only [List.set_cons_succ, Yt, h3 row, List.append_assoc]
theorem Yww (ts : List Ty) (xs : Dt) (i k : Nat) (vs : List Value) (row : List Cl) (hi : i < xs.length) (hk : k + vs.length <= ts.length) (hr : Yw ts row = (Yw ts (xs.getD i [])).take k ++ vs ++ (Yw ts (xs.getD i [])).drop (k + vs.length)) :
  Yt ts (xs.set i row) = (Yt ts xs).take (i * ts.length + k) ++ vs ++ (Yt ts xs).drop (i * ts.length + k + vs.length) := by
 obtain ⟨A, B, h1, h2, h3⟩ := Ymd ts xs i hi;rw [h3, hr, h2];have hV := Ybi ts (xs.getD i []);generalize Yw ts (xs.getD i []) = V at hV;rw [List.take_append, List.drop_append, h1, show i * ts.length + k - i * ts.length = k by omega, List.take_of_length_le (l := A) (by omega), List.take_append, hV, show k - ts.length = 0 by omega, List.take_zero, List.append_nil,
  List.drop_eq_nil_of_le (show A.length <= i * ts.length + k + vs.length by omega), List.nil_append, show i * ts.length + k + vs.length - i * ts.length = k + vs.length by omega, List.drop_append, hV, show k + vs.length - ts.length = 0 by omega, List.drop_zero]
 simp [List.append_assoc]
theorem Yu5 {T T' : TypeId} {x y : Operand} {id i k n : Nat} {ts : List Ty} {xs : Dt} {vs : List AV} {v : AV} {row : List Cl} (hs : Yb6 P T n) (hx : At tm x (.ep id ts.length i k)) (hy : At tm y v) (hj : v.rd = true) (hc : ∀ φ, (v.conc φ).cells = (AV.concL φ vs).toArray) (hn : vs.length = n) (h0 : 0 < n) (h1 : Ygb vs = true)
  (hi : i < xs.length) (hk : k + n <= ts.length) (hr : ∀ φ, Yw ts row = (Yw ts (xs.getD i [])).take k ++ AV.concL φ vs ++ (Yw ts (xs.getD i [])).drop (k + n)) :
  Does P { dst, op := .store T x y, type, pos, after, guard } tm [(id, .arr T' ts xs)] (.v undef) [(id, .arr T' ts (xs.set i row))] [] :=
 fun φ w0 M R a w K Q ho _ hS kk => by
  have h2 := Yo (ho.ev (x := x) (by simp [Op.operands]) hx (by simp));have h3 := Yo (ho.ev (x := y) (by simp [Op.operands]) hy hj);have hlen : i * ts.length + k + n <= (Yt ts xs).length := by
   rw [Y4];have : (i + 1) * ts.length <= xs.length * ts.length := Nat.mul_le_mul_right _ hi;rw [Nat.succ_mul] at this; omega
  refine Yll (v := v.conc φ) hS hs h2 h3 (by rw [hc φ]; simp [Yd, hn]) h0 (fun u hu => Ycg h1 φ u (by rw [hc φ] at hu; simpa using hu)) hlen fun w' hS' => ?_;have hl : (AV.concL φ vs).length = n := by rw [Yd, hn]
  have e := Yww ts xs i k (AV.concL φ vs) row hi (by rw [hl]; exact hk) (by rw [hl]; exact hr φ);rw [hl] at e;rw [hc φ, show ((AV.concL φ vs).toArray.toList) = AV.concL φ vs from rfl, <- e] at hS';exact kk φ w' (Agree.refl _ _) (by simpa [Yh, upd, Nat.beq_refl, Yc, It.conc] using hS')
theorem Yr0 (ts : List Ty) (xs : Dt) : ∀ u ∈ Yt ts xs, u.oneCell' = true := by
 have hv : ∀ (ts : List Ty) (l : List Cl), ∀ u ∈ Yw ts l, u.oneCell' = true := by
  intro ts
  induction ts with
  | nil => intro l u hu; simp [Yw] at hu
  | cons t ts ih =>
   intro l u hu;simp only [Yw, List.mem_cons] at hu;rcases hu with rfl | hu
   ·cases t <;> rfl
   ·exact ih _ u hu
 induction xs with
 | nil => intro u hu; simp [Yt] at hu
 | cons l xs ih =>
  intro u hu;simp only [Yt, List.mem_append] at hu;exact hu.elim (hv ts l u) (ih u)
def Yk1 (xv : AV) (hs : Heap) (ts : List Ty) (ys : Dt) : Prop :=
 ∀ (φ : Phi) (w0 : World) (M : List Nat) (R : RL) (w : World), St w0 M (Yc φ hs ++ R) w -> ∃ A c, xv.conc φ = .slice A ys.length c /\ (ys.length = 0 \/ ∃ b off, A = some ⟨b, off, none⟩ /\ ∀ j u, (Yt ts ys)[j]? = some u -> w.cell? ⟨b, off + j, none⟩ = some u)
theorem Yfk {w0 w : World} {M : List Nat} {R : RL} {K : Act -> World -> Prop} {Q : Exit -> Act -> World -> Prop} {a : Act} {T e : TypeId} {by_ m c n : Nat} {zs : Array Value} {s x : Operand} {v : Value} {A : Option Addr} {ts : List Ty} {xs ys : Dt} (h : St w0 M (.row v e ts.length n (Yt ts xs) :: R) w) (ht : SliceOf P T e ts.length by_ zs) (hz : zs.size = ts.length) (hsz : 0 < ts.length)
  (hs : a.eval s = v) (hx : a.eval x = .slice A m c) (hm : m = ys.length) (hn : n = xs.length) (hsrc : ys.length = 0 \/ ∃ b off, A = some ⟨b, off, none⟩ /\ ∀ j u, (Yt ts ys)[j]? = some u -> w.cell? ⟨b, off + j, none⟩ = some u) (h63 : n + m <= maxLen) (hb : (n + m) * by_ <= 140737488355328)
  (kk : ∀ v' w', St w0 M (.row v' e ts.length (n + m) (Yt ts (xs ++ ys)) :: R) w' -> K (a.put dst v') w') :
  Oper.wp P { dst, op := .call { callee := .builtin .append, args := #[s, x], argTypes := #[T, T] }, type, pos, after, guard } a w K Q := by
 rcases Nat.eq_zero_or_pos ys.length with h0 | h0
 ·have hys : ys = [] := List.length_eq_zero_iff.1 h0;subst hys;simp only [List.length_nil] at hm;subst hm;have hrow := h.row .head;obtain ⟨A', c', hv, hc'⟩ : ∃ A' c', v = .slice A' n c' /\ n <= c' := by
   rcases hrow.2 with ⟨rfl, rfl⟩ | ⟨g, cap, cur, rfl, _, _, hnc, _⟩
   ·exact ⟨none, 0, rfl, Nat.le_refl _⟩
   ·exact ⟨_, _, rfl, hnc⟩
  obtain ⟨i, z, hi, hz1, hz2, his, hib⟩ := ht.parts;have hsrc : Src P i.size T (.slice A 0 c) 0 [] w := by
   cases A with
   | none => exact Src.ofNil w ht.1 c
   | some b => exact Src.ofSlice w ht.1 b 0 c [] (by simp) (by simp) (by simp)
  have hr := run_append_nothing w T T type e i ht.1 hi A' n c' hc' _ hsrc;have h4 := kk v w (by simpa using h);unfold Oper.wp execOp;simp only [resolve, invoke, builtin, Sem.run_bind, Sem.run_pure, Result.andThen_ok, List.map_toArray, List.map_cons, List.map_nil, hs, hx];rw [hv] at h4 ⊢;rw [hr];exact h4
 ·obtain ⟨b, off, rfl, hcell⟩ := hsrc.resolve_left (by omega);refine Ygt (news := Yt ts ys) h ht hz hsz (by rw [Yc8, hs]) (by rw [Yc8, hx]) .head (by rw [Y4, hm]) (fun j u hj => by rw [Yl]; exact hcell j u hj) (Yr0 ts ys) h63 hb fun v' w' _ hS' => ?_;rw [<- Ycx] at hS';exact kk v' w' hS'
theorem Ym2 {w : World} {T sz n : Nat} {v : Value} {xs : List Value} (h : w.ownsRow 0 T sz v n xs) : ∃ hd : Hd, hd.fn = n /\ v = .slice (if hd.nil then none else some ⟨hd.b, 0, none⟩) n hd.c := by
 obtain ⟨hd, e⟩ := Ylv h;exact ⟨{ hd with fn := n }, rfl, e⟩
theorem Yvi {T e : TypeId} {by_ id' : Nat} {zs : List AV} {s x : Operand} {xv : AV} {hs : Heap} {ts : List Ty} {ys : Dt} (ht : (mkTI P T).slice = some (e, ts.length, by_, zs)) (hz : zs.length = ts.length) (hsz : 0 < ts.length) (hsv : At tm s (.v (.slice none 0 0))) (hx : At tm x xv) (hxj : xv.rd = true) (hsrc : Yk1 xv hs ts ys)
  (h63 : ys.length <= maxLen) (hb : ys.length * by_ <= 140737488355328) :
  Does P { dst, op := .call { callee := .builtin .append, args := #[s, x], argTypes := #[T, T] }, type, pos, after, guard } tm hs (.rw id') [] [(id', .arr e ts ys)] :=
 fun φ w0 M R a w K Q ho hn hS kk => by
  have e1 := ho s (by simp [Op.operands, Call.operands]) _ hsv (by simp);have e2 := ho x (by simp [Op.operands, Call.operands]) _ hx hxj;obtain ⟨A, c, h1, h2⟩ := hsrc φ w0 M R w hS;rw [h1] at e2;have hS2 := hS.add (Ext.refl _) (r := .row (.slice none 0 0) e ts.length 0 (Yt ts [])) ⟨by simp [Yt], .inl ⟨rfl, rfl⟩⟩ (by simp [Res.foot, Value.ownBlock]);refine Yfk hS2 (Yk ht φ).1 (by simp [Yd, hz]) hsz e1 e2 rfl rfl h2 (by simpa using h63) (by simpa using hb) fun v' w' hS' => ?_;rw [Nat.zero_add, List.nil_append] at hS';obtain ⟨hd, hfn, rfl⟩ := Ym2 (hS'.row .head);have hag := Yv φ id' hd;have eh : Yc (fun i => if i = id' then hd else φ i) hs = Yc φ hs := Ybr hag fun i hi => by rw [List.mem_singleton.1 hi]; exact (hn id' (by simp [keys])).2
  have := kk _ w' hag (by
   rw [Yn];simp only [Yh, eh];have e3 : Yc (fun i => if i = id' then hd else φ i) [(id', It.arr e ts ys)] = [.row (.slice (if hd.nil then none else some ⟨hd.b, 0, none⟩) ys.length hd.c) e ts.length ys.length (Yt ts ys)] := by simp [Yc, It.conc, hfn]
   rw [e3];refine hS'.perm ?_;rw [List.append_assoc, List.singleton_append];exact List.perm_middle.symm)
  simpa [AV.conc, hfn] using this
theorem Yvg {T e : TypeId} {by_ id' : Nat} {zs : List AV} {s x : Operand} {xv : AV} {hs : Heap} {ts ts' : List Ty} {q : Ro ts'} {ys : Dt} (ht : (mkTI P T).slice = some (e, ts.length, by_, zs)) (hz : zs.length = ts.length) (hsz : 0 < ts.length) (hsv : At tm s (.rs ts' q)) (hq : q.xs.length = 0) (hc : capV q.v = 0) (hx : At tm x xv) (hxj : xv.rd = true) (hsrc : Yk1 xv hs ts ys)
  (hpos : 0 < ys.length) (h63 : ys.length <= maxLen) (hb : ys.length * by_ <= 140737488355328) :
  Does P { dst, op := .call { callee := .builtin .append, args := #[s, x], argTypes := #[T, T] }, type, pos, after, guard } tm hs (.rw id') [] [(id', .arr e ts ys)] :=
 fun φ w0 M R a w K Q ho hn hS kk => by
  have e1 := ho s (by simp [Op.operands, Call.operands]) _ hsv (by simp);have e2 := ho x (by simp [Op.operands, Call.operands]) _ hx hxj;obtain ⟨A, c, h1, h2⟩ := hsrc φ w0 M R w hS;rw [h1] at e2;obtain ⟨B, d, h3, _⟩ := q.inv;rw [h3] at hc;have hd : d = 0 := hc;subst hd;simp only [AV.conc, h3, hq] at e1;have fin : ∀ v' w', St w0 M (.row v' e ts.length ys.length (Yt ts ys) :: (Yc φ hs ++ R)) w' -> K (a.put dst v') w' := fun v' w' hS' => by
   obtain ⟨hd, hfn, rfl⟩ := Ym2 (hS'.row .head);have hag := Yv φ id' hd;have eh : Yc (fun i => if i = id' then hd else φ i) hs = Yc φ hs := Ybr hag fun i hi => by rw [List.mem_singleton.1 hi]; exact (hn id' (by simp [keys])).2
   have := kk _ w' hag (by
    rw [Yn];simp only [Yh, eh];have e3 : Yc (fun i => if i = id' then hd else φ i) [(id', It.arr e ts ys)] = [.row (.slice (if hd.nil then none else some ⟨hd.b, 0, none⟩) ys.length hd.c) e ts.length ys.length (Yt ts ys)] := by simp [Yc, It.conc, hfn]
    rw [e3];refine hS'.perm ?_;rw [List.append_assoc, List.singleton_append];exact List.perm_middle.symm)
   simpa [AV.conc, hfn] using this
  cases B with
  | none =>
   have hS2 := hS.add (Ext.refl _) (r := .row (.slice none 0 0) e ts.length 0 (Yt ts [])) ⟨by simp [Yt], .inl ⟨rfl, rfl⟩⟩ (by simp [Res.foot, Value.ownBlock]);refine Yfk hS2 (Yk ht φ).1 (by simp [Yd, hz]) hsz e1 e2 rfl rfl h2 (by simpa using h63) (by simpa using hb) fun v' w' hS' => ?_;rw [Nat.zero_add, List.nil_append] at hS';exact fin v' w' hS'
  | some ad =>
   obtain ⟨b, off, rfl, hcell⟩ := h2.resolve_left (by omega);obtain ⟨i, z, hi, hz1, hz2, his, hib⟩ := (Yk ht φ).1.parts;obtain ⟨v', w', hr, ho', hgr⟩ := run_append_arg_grows (P := P) w T type e i z ts.length by_ (Yk ht φ).1.1 hi hz1 his hib (by rw [hz2]; simp [Yd, hz]) hsz ad 0 0 [] (by simp) (by simp)
    ⟨b, off, none⟩ ys.length c (Yt ts ys) (Y4 ts ys) (fun j u hj => by rw [Yl]; exact hcell j u hj) (by omega) (by omega) (by simpa using hb)
   rw [Nat.zero_add, List.nil_append] at ho';have hext : Ext w w' := ⟨hgr.os, hgr.tape, hgr.output, hgr.size, fun k hk => hgr.block k hk (by simp)⟩;have hS' := hS.add hext (r := .row v' e ts.length ys.length (Yt ts ys)) ⟨ho'.1, ho'.2.imp (fun h => h) fun ⟨g, cap, cur, a, _, c⟩ => ⟨g, cap, cur, a, Nat.zero_le _, c⟩⟩ (fun b hb' => by
    simp only [Res.foot, Option.mem_toList] at hb';exact (ho'.lt b hb').1)
   have h4 := fin v' w' hS';unfold Oper.wp execOp;simp only [resolve, invoke, builtin, Sem.run_bind, Sem.run_pure, Result.andThen_ok, List.map_toArray, List.map_cons, List.map_nil, e1, e2, hr, Oper.upon];exact h4
def DstOk (sv : AV) (id : Nat) (it : It) (e : Nat) (ts : List Ty) (xs : Dt) : Prop :=
 ∀ (φ : Phi) (w0 : World) (M : List Nat) (R : RL) (w : World), St w0 M (it.conc φ id :: R) w -> St w0 M (.row (sv.conc φ) e ts.length xs.length (Yt ts xs) :: R) w
theorem Yvh {T e : TypeId} {by_ id id' : Nat} {zs : List AV} {s x : Operand} {sv xv : AV} {it : It} {hs : Heap} {ts : List Ty} {xs ys : Dt} (ht : (mkTI P T).slice = some (e, ts.length, by_, zs)) (hz : zs.length = ts.length) (hsz : 0 < ts.length) (hsv : At tm s sv) (hsj : sv.rd = true) (hdst : DstOk sv id it e ts xs) (hx : At tm x xv) (hxj : xv.rd = true) (hsrc : Yk1 xv hs ts ys)
  (hne : id ∉ keys hs) (h63 : xs.length + ys.length <= maxLen) (hb : (xs.length + ys.length) * by_ <= 140737488355328) :
  Does P { dst, op := .call { callee := .builtin .append, args := #[s, x], argTypes := #[T, T] }, type, pos, after, guard } tm ((id, it) :: hs) (.rw id') [(id, .dead)] [(id', .arr e ts (xs ++ ys))] :=
 fun φ w0 M R a w K Q ho hn hS kk => by
  have e1 := ho s (by simp [Op.operands, Call.operands]) _ hsv hsj;have e2 := ho x (by simp [Op.operands, Call.operands]) _ hx hxj;have hS0 : St w0 M (Yc φ hs ++ (it.conc φ id :: R)) w := hS.perm (by simp only [Yc, List.map_cons, List.cons_append]; exact List.perm_middle.symm);obtain ⟨A, c, h1, h2⟩ := hsrc φ w0 M _ w hS0;rw [h1] at e2;have hS2 := hdst φ w0 M _ w (by simpa [Yc] using hS);refine Yfk hS2 (Yk ht φ).1 (by simp [Yd, hz]) hsz e1 e2 rfl rfl h2 h63 hb fun v' w' hS' => ?_;obtain ⟨hd, hfn, rfl⟩ := Ym2 (hS'.row .head);have hag := Yv φ id' hd;have hnx := (hn id' (by simp [keys])).2;have hhs : hasH id' hs = false := by
   unfold hasH at hnx;simp only [Bool.or_eq_false_iff] at hnx;exact hnx.2
  have eh : Yc (fun i => if i = id' then hd else φ i) hs = Yc φ hs := Ybr hag fun i hi => by rw [List.mem_singleton.1 hi]; exact hhs
  have e4 : Yh ((id, it) :: hs) [(id, .dead)] = (id, .dead) :: hs := by simp [Yh, upd, Nat.beq_refl]
  have := kk _ w' hag (by
   rw [e4, Yn];have e5 : Yc (fun i => if i = id' then hd else φ i) ((id, .dead) :: hs) = Res.row (.slice none 0 0) 0 0 0 [] :: Yc φ hs := by rw [<- eh]; rfl
   have e3 : Yc (fun i => if i = id' then hd else φ i) [(id', It.arr e ts (xs ++ ys))] = [.row (.slice (if hd.nil then none else some ⟨hd.b, 0, none⟩) (xs.length + ys.length) hd.c) e ts.length (xs.length + ys.length) (Yt ts (xs ++ ys))] := by simp [Yc, It.conc, hfn]
   rw [e3, e5];have hS3 := hS'.dead;refine hS3.perm ?_;rw [List.append_assoc, List.cons_append];exact (List.perm_middle.symm).cons _)
  simpa [AV.conc, hfn] using this
theorem Ysh {w0 w : World} {M : List Nat} {R : RL} {K : Act -> World -> Prop} {Q : Exit -> Act -> World -> Prop} {a : Act} {T e : TypeId} {by_ m c n : Nat} {zs : Array Value} {s x : Operand} {v : Value} {A : Option Addr} {ts : List Ty} {xs ys : Dt} (h : St w0 M (.row v e ts.length n (Yt ts xs) :: R) w) (ht : SliceOf P T e ts.length by_ zs) (hz : zs.size = ts.length) (hsz : 0 < ts.length)
  (hs : a.eval s = v) (hx : a.eval x = .slice A m c) (hm : m = ys.length) (hn : n = xs.length) (hsrc : ys.length = 0 \/ ∃ b off, A = some ⟨b, off, none⟩ /\ ∀ j u, (Yt ts ys)[j]? = some u -> w.cell? ⟨b, off + j, none⟩ = some u) (h63 : n + m <= maxLen) (hb : (n + m) * by_ <= 140737488355328)
  (kk : ∀ v' w', (∃ g cap, v = .slice (some ⟨g, 0, none⟩) n cap /\ v' = .slice (some ⟨g, 0, none⟩) (n + m) cap /\ n <= cap /\ St w0 M (.row v' e ts.length (n + m) (Yt ts (xs ++ ys)) :: R) w') \/ ((v = .slice none 0 0 \/ v'.ownBlock ≠ v.ownBlock) /\ St w0 M (.row v' e ts.length (n + m) (Yt ts (xs ++ ys)) :: .row v e ts.length n (Yt ts xs) :: R) w') -> K (a.put dst v') w') :
  Oper.wp P { dst, op := .call { callee := .builtin .append, args := #[s, x], argTypes := #[T, T] }, type, pos, after, guard } a w K Q := by
 have hrow := h.row .head;rcases hrow.2 with ⟨rfl, rfl⟩ | ⟨g, cap, cur, rfl, hbg, hg, hnc, hcm, hcs, htake⟩
 ·refine Yfk h ht hz hsz hs hx hm hn hsrc h63 hb fun v' w' hS' => kk v' w' (.inr ⟨.inl rfl, ?_⟩);have := hS'.add (Ext.refl _) (r := .row (.slice none 0 0) e ts.length 0 (Yt ts xs)) ⟨hrow.1, .inl ⟨rfl, rfl⟩⟩ (by simp [Res.foot, Value.ownBlock]);exact this.perm (List.Perm.swap _ _ _)
 ·obtain ⟨i, z, hi, hz1, hz2, his, hib⟩ := ht.parts
  by_cases h0 : ys.length = 0
  ·have hys : ys = [] := List.length_eq_zero_iff.1 h0;subst hys;simp only [List.length_nil] at hm;subst hm;have hsrc : Src P i.size T (.slice A 0 c) 0 [] w := by
    cases A with
    | none => exact Src.ofNil w ht.1 c
    | some b => exact Src.ofSlice w ht.1 b 0 c [] (by simp) (by simp) (by simp)
   have hr := run_append_nothing w T T type e i ht.1 hi (some ⟨g, 0, none⟩) n cap hnc _ hsrc;have h4 := kk (.slice (some ⟨g, 0, none⟩) n cap) w (.inl ⟨g, cap, rfl, rfl, hnc, by simpa using h⟩);unfold Oper.wp execOp;simp only [resolve, invoke, builtin, Sem.run_bind, Sem.run_pure, Result.andThen_ok, List.map_toArray, List.map_cons, List.map_nil, hs, hx];rw [hr];exact h4
  ·obtain ⟨b, off, rfl, hcell⟩ := hsrc.resolve_left h0;have hl : (Yt ts ys).length = m * ts.length := by rw [Y4, hm]
   have hnews : ∀ j u, (Yt ts ys)[j]? = some u -> w.cell? ((⟨b, off, none⟩ : Addr).add j) = some u := fun j u hj => by rw [Yl]; exact hcell j u hj
   by_cases hroom : n + m <= cap
   ·have hfit : n * i.size + (Yt ts ys).length <= cur.size := by rw [hl, hcs, his, <- Nat.add_mul]; exact Nat.mul_le_mul_right _ hroom
    have hr := run_append_room (P := P) w T type e i ht.1 hi g n cap cur hg ⟨b, off, none⟩ m c (Yt ts ys) (by rw [hl, his]) hnews (Yr0 ts ys) hroom hfit;have hlen : (Yt ts (xs ++ ys)).length = (n + m) * ts.length := by rw [Y4, List.length_append, <- hn, <- hm]
    have hS' := h.upd (w' := w.setRow g (cur.toList.take (n * i.size) ++ Yt ts ys ++ cur.toList.drop (n * i.size + (Yt ts ys).length)).toArray) (r' := .row (.slice (some ⟨g, 0, none⟩) (n + m) cap) e ts.length (n + m) (Yt ts (xs ++ ys))) .head
     ⟨rfl, rfl, rfl, by simp, fun k _ hk => setRow_other w g k _ (fun e => hk (by simp [Res.foot, Value.ownBlock, e]))⟩
     ⟨hlen, .inr ⟨g, cap, _, rfl, hbg, setRow_heap w g cur _ e _ hg, hroom, hcm, by
      simp only [List.size_toArray, List.length_append, List.length_take, List.length_drop, Array.length_toList];omega, by
      rw [his, htake, <- Ycx];simp only [];rw [<- hlen];exact List.take_left⟩⟩ (fun b' hb' => .inl (by simpa [Res.foot, Value.ownBlock] using hb'))
    have h4 := kk _ _ (.inl ⟨g, cap, rfl, rfl, hnc, hS'⟩);unfold Oper.wp execOp;simp only [resolve, invoke, builtin, Sem.run_bind, Sem.run_pure, Result.andThen_ok, List.map_toArray, List.map_cons, List.map_nil, hs, hx, hr, Oper.upon];exact h4
   ·obtain ⟨v', w', hr, ho', hgr⟩ := run_append_arg_grows (P := P) w T type e i z ts.length by_ ht.1 hi hz1 his hib (by rw [hz2, hz]) hsz ⟨g, 0, none⟩ n cap (Yt ts xs) hrow.1 (hrow.cells rfl)
     ⟨b, off, none⟩ m c (Yt ts ys) hl hnews (by omega) h63 hb
    rw [<- Ycx] at ho';have hext : Ext w w' := ⟨hgr.os, hgr.tape, hgr.output, hgr.size, fun k hk => hgr.block k hk (by simp)⟩;have hS' := h.add hext (r := .row v' e ts.length (n + m) (Yt ts (xs ++ ys))) ⟨ho'.1, ho'.2.imp (fun h => h) fun ⟨g, cap, cur, a, _, c⟩ => ⟨g, cap, cur, a, Nat.zero_le _, c⟩⟩ (fun b hb' => by
     simp only [Res.foot, Option.mem_toList] at hb';exact (ho'.lt b hb').1)
    have h4 := kk v' w' (.inr ⟨.inr (fun e => by
     have h5 := (ho'.lt g e).1;have h6 := (hrow.lt g rfl).2;omega), hS'⟩)
    unfold Oper.wp execOp;simp only [resolve, invoke, builtin, Sem.run_bind, Sem.run_pure, Result.andThen_ok, List.map_toArray, List.map_cons, List.map_nil, hs, hx, hr, Oper.upon];exact h4
theorem Yvj {T e : TypeId} {by_ id id' : Nat} {zs : List AV} {s x : Operand} {xv : AV} {hs : Heap} {ts : List Ty} {xs ys : Dt} (ht : (mkTI P T).slice = some (e, ts.length, by_, zs)) (hz : zs.length = ts.length) (hsz : 0 < ts.length) (hsv : At tm s (.rw id)) (hx : At tm x xv) (hxj : xv.rd = true) (hsrc : Yk1 xv hs ts ys)
  (hne : id ∉ keys hs) (h63 : xs.length + ys.length <= maxLen) (hb : (xs.length + ys.length) * by_ <= 140737488355328) :
  Does P { dst, op := .call { callee := .builtin .append, args := #[s, x], argTypes := #[T, T] }, type, pos, after, guard } tm ((id, .arr e ts xs) :: hs) (.rw id') [(id, .bk e ts xs id')] [(id', .arr e ts (xs ++ ys))] :=
 fun φ w0 M R a w K Q ho hn hS kk => by
  have e1 := ho s (by simp [Op.operands, Call.operands]) _ hsv rfl;have e2 := ho x (by simp [Op.operands, Call.operands]) _ hx hxj;have hS0 : St w0 M (Yc φ hs ++ ((It.arr e ts xs).conc φ id :: R)) w := hS.perm (by simp only [Yc, List.map_cons, List.cons_append]; exact List.perm_middle.symm);obtain ⟨A, c, h1, h2⟩ := hsrc φ w0 M _ w hS0;rw [h1] at e2;have hS2 : St w0 M ((It.arr e ts xs).conc φ id :: (Yc φ hs ++ R)) w := by simpa [Yc] using hS
  have ef := (Yh9 hsz hS2).1;have hnx := (hn id' (by simp [keys])).2;unfold hasH at hnx;simp only [Bool.or_eq_false_iff] at hnx;have hid : id ≠ id' := Y2.1 hnx.1.1;refine Ysh hS2 (Yk ht φ).1 (by simp [Yd, hz]) hsz e1 e2 rfl ef h2 (by rw [ef]; exact h63) (by rw [ef]; exact hb) fun v' w' hS' => ?_;obtain ⟨hd, hfn, rfl⟩ : ∃ hd : Hd, hd.fn = (φ id).fn + ys.length /\ v' = .slice (if hd.nil then none else some ⟨hd.b, 0, none⟩) ((φ id).fn + ys.length) hd.c := by
   rcases hS' with ⟨g, cap, _, _, _, h⟩ | ⟨_, h⟩ <;> exact Ym2 (h.row .head)
  have hag := Yv φ id' hd;have eh : Yc (fun i => if i = id' then hd else φ i) hs = Yc φ hs := Ybr hag fun i hi => by rw [List.mem_singleton.1 hi]; exact hnx.2
  have e4 : Yh ((id, It.arr e ts xs) :: hs) [(id, .bk e ts xs id')] = (id, .bk e ts xs id') :: hs := by simp [Yh, upd, Nat.beq_refl]
  have e3 : Yc (fun i => if i = id' then hd else φ i) [(id', It.arr e ts (xs ++ ys))] = [.row (.slice (if hd.nil then none else some ⟨hd.b, 0, none⟩) ((φ id).fn + ys.length) hd.c) e ts.length ((φ id).fn + ys.length) (Yt ts (xs ++ ys))] := by simp [Yc, It.conc, hfn]
  have e5 : Yc (fun i => if i = id' then hd else φ i) ((id, .bk e ts xs id') :: hs) = Yqv (φ id) hd e ts xs :: Yc φ hs := by rw [<- eh]; simp [Yc, It.conc, hid]
  have := kk _ w' hag (by
   rw [e4, Yn, e3, e5];rcases hS' with ⟨g, cap, q1, q2, q3, hS'⟩ | ⟨q, hS'⟩
   ·have p1 : (φ id).nil = false /\ (φ id).b = g /\ (φ id).c = cap := by
     cases hnl : (φ id).nil <;> simp_all
    have p2 : hd.nil = false /\ hd.b = g /\ hd.c = cap := by
     cases hnl : hd.nil <;> simp_all
    have e6 : Yqv (φ id) hd e ts xs = .row (.slice none 0 0) 0 0 0 [] := by
     unfold Yqv;rw [if_pos ⟨p1.1, p2.1, by rw [p1.2.1, p2.2.1]⟩, if_pos ⟨by rw [p1.2.2, p2.2.2], ef, by rw [p1.2.2]; exact q3⟩]
    rw [e6];refine hS'.dead.perm ?_;rw [List.append_assoc, List.cons_append];exact (List.perm_middle.symm).cons _
   ·have e6 : Yqv (φ id) hd e ts xs = .row (.slice (if (φ id).nil then none else some ⟨(φ id).b, 0, none⟩) (φ id).fn (φ id).c) e ts.length (φ id).fn (Yt ts xs) := by
     unfold Yqv;rw [if_neg];rintro ⟨c1, c2, c3⟩;rcases q with q | q
     ·simp [c1] at q
     ·exact q (by simp [c1, c2, c3, Value.ownBlock])
    rw [e6];refine hS'.perm ?_;rw [List.append_assoc, List.cons_append];refine (List.Perm.swap _ _ _).trans ?_;exact (List.perm_middle.symm).cons _)
  simpa [AV.conc, hfn] using this
theorem St.lentBack {w0 w : World} {M : List Nat} {R : RL} {φ : Phi} {T id j : Nat} {ts : List Ty} {xs zs : Dt} (hz : zs.take xs.length = xs) (h : St w0 M ((It.bk T ts xs j).conc φ id :: (It.arr T ts zs).conc φ j :: R) w) : St w0 M ((It.arr T ts xs).conc φ id :: It.dead.conc φ j :: R) w := by
 simp only [It.conc] at h ⊢;unfold Yqv at h
 split at h
 ·rename_i hc
  split at h
  ·rename_i hd;have h1 := h.drop;have hrow := h1.row .head;have h2 := h1.upd (w' := w) (r' := .row (.slice (if (φ id).nil then none else some ⟨(φ id).b, 0, none⟩) (φ id).fn (φ id).c) T ts.length (φ id).fn (Yt ts xs)) .head (Kept.of (Below.refl _ _)) (by
    refine ⟨by rw [Y4, hd.2.1], .inr ?_⟩;rcases hrow.2 with ⟨e, _⟩ | ⟨g, cap, cur, hv, hbg, hg, hnc, hcm, hcs, htake⟩
    ·simp [hc.2.1] at e
    ·have hv' : (φ j).b = g /\ (φ j).c = cap := by simpa [hc.2.1] using hv
     refine ⟨g, cap, cur, by simp [hc.1, hc.2.2, hd.1, hv'.1, hv'.2], hbg, hg, by rw [<- hv'.2, <- hd.1]; exact hd.2.2, hcm, hcs, ?_⟩;have hl : xs.length <= zs.length := by rw [<- hz]; simp; omega
     have h3 : Yt ts zs = Yt ts xs ++ Yt ts (zs.drop xs.length) := by
      rw [<- Ycx]; conv => lhs; rw [<- List.take_append_drop xs.length zs, hz]
     have h4 := hrow.1;rw [h3, List.length_append, Y4] at h4;have h5 : xs.length * ts.length <= (φ j).fn * ts.length := by omega
     have h6 : cur.toList.take (xs.length * ts.length) = (cur.toList.take ((φ j).fn * ts.length)).take (xs.length * ts.length) := by rw [List.take_take, Nat.min_eq_left h5]
     rw [hd.2.1, h6, htake, h3, <- Y4 ts xs];exact List.take_left) (fun b hb => .inl (by
      simp only [Res.foot, hc.1, hc.2.1, Value.ownBlock, Bool.false_eq_true, if_false, Option.toList, hc.2.2] at hb ⊢;exact hb))
   exact h2.dead.perm (List.Perm.swap _ _ _)
  ·have := (h.row .head).2;rcases this with ⟨_, e⟩ | ⟨_, _, _, e, _⟩ <;> cases e
 ·exact (h.perm (List.Perm.swap _ _ _)).drop.dead.perm (List.Perm.swap _ _ _)
end
end Go.Proofs.Ytmogofidmchdoaa
namespace Go.Proofs.Ytmogofidmchdoaa
open Go.RowKit
variable [InW]
attribute [local irreducible] Go.Oper.wp
def intK (x : AV) (K : IntKind -> Int -> Prop) (D : Prop) : Prop := match x with | .si k n => K k n | .v (.int k n) => K k n | _ => D
theorem Yd7 {x : AV} {K : IntKind -> Int -> Prop} {D : Prop} (h : intK x K D) : (∃ k n, K k n /\ (∀ φ, x.conc φ = .int k n) /\ x.rd = true) \/ D := by
 unfold intK at h
 split at h
 ·exact .inl ⟨_, _, h, fun φ => rfl, rfl⟩
 ·exact .inl ⟨_, _, h, fun φ => rfl, rfl⟩
 ·exact .inr h
def Ytp (P : Program) (op : BinOp) (T : TypeId) (a b : AV) (K : K1) (D : Prop) : Prop :=
 match a, b with
 | .si ka m, .si kb n => binI op ka kb m n false K
 | .si ka m, .v (.int kb n) => binI op ka kb m n true K
 | .v (.int ka m), .si kb n => binI op ka kb m n false K
 | .sb p, .sb q => binB P op T p q K
 | .sb p, .v (.bool q) => binB P op T p q K
 | .v (.bool p), .sb q => binB P op T p q K
 | .ss s, .ss t => binS op s t K
 | .ss s, .v (.string t) => binS op s t K
 | .v (.string s), .ss t => binS op s t K
 | .agg xs, .agg ys => binA P op T (.agg xs) (.agg ys) K
 | .agg xs, .v (.agg ys) => binA P op T (.agg xs) (.v (.agg ys)) K
 | .v (.agg xs), .agg ys => binA P op T (.v (.agg xs)) (.agg ys) K
 | _, _ => D
def Yus (v : Value) : Bool := match v with | .slice none _ _ => true | _ => false
def Yjj (P : Program) (T : TypeId) : Bool := match P.underlying T with | some (.slice _) => true | _ => false
def Yrp (c : Cx) (neq : Bool) (T : TypeId) (a b : AV) (hp : Heap) (k : KE) (D : Prop) : Prop :=
 match b with
 | .v (.slice none 0 0) => (match Yjj c.P T with
  | false => D
  | true => (match a with
   | .sl id off lo n => Y9 hp id fun it => (match Yj7 it with | true => k (.v (.bool neq)) [(id, it)] [] [] | false => D)
   | .rs ts r => (match neq with | true => k (.sb (!(Yus r.v))) [] [] [] | false => k (.sb (Yus r.v)) [] [] [])
   | .rw id => Y9 hp id fun it => (match it with
    | .arr T' ts xs => Yb (Nat.ble 1 ts.length) (Need (decide (0 < xs.length)) (k (.v (.bool neq)) [(id, .arr T' ts xs)] [] []))
    | _ => D)
   | _ => D))
 | _ => D
def Yud (c : Cx) (op : BinOp) (T : TypeId) (a b : AV) (hp : Heap) (k : KE) (D : Prop) : Prop :=
 match op with | .eql => Yrp c false T a b hp k D | .neq => Yrp c true T a b hp k D | _ => D
theorem Yzf {ts : List Ty} {r : Ro ts} (h : Yus r.v = true) : r.xs = [] := by
 obtain ⟨A, c, hv, _, _, u, h1, _⟩ := r.inv;rcases Classical.em (r.xs = []) with e | e
 ·exact e
 ·obtain ⟨b, off, rfl, _⟩ := h1 e;rw [hv] at h;cases h
def Yx1 (op : UnOp) (a : AV) (K : K1) (D : Prop) : Prop :=
 match a with
 | .si k n => (match op with | .neg => arK k (0 - n) K | _ => Stuck 320)
 | .sb b => (match op with | .not => K (.sb (!b)) | _ => Stuck 321)
 | _ => D
def Yp6 (P : Program) (src dst : TypeId) (a : AV) (K : K1) (D : Prop) : Prop :=
 match a with
 | .si k n => (match P.underlying src, P.underlying dst with | some (.int _), some (.int k') => arK k' n K | _, _ => Stuck 322)
 | _ => D
def Ytk (tm : List AV) (cnd x y : Operand) (K : K1) (D : Prop) : Prop :=
 evK tm cnd fun a => match a with
  | .sb b => evK tm x fun u => evK tm y fun v => (match u, v with
   | .sb p, .sb q => K (.sb (bif b then p else q))
   | .v (.bool p), .sb q => (match p with | true => K (.sb (b || q)) | false => K (.sb (!b && q)))
   | .sb p, .v (.bool q) => (match q with | true => K (.sb (!b || p)) | false => K (.sb (b && p)))
   | _, _ => Vif b (K u) (K v))
  | _ => D
def Yre (i : Int) (sz : Nat) : Nat -> Nat -> Nat -> (Nat -> Prop) -> Prop
 | 0, _, _, _ => Stuck 380
 | 1, _, a, K => K a
 | r + 2, j, a, K => Vif (decide (i = (j : Int))) (K a) (Y1 (j + 1) fun j => Y1 (a + sz) fun a => Yre i sz (r + 1) j a K)
theorem Yji {i : Int} {sz : Nat} {K : Nat -> Prop} : ∀ {r j a : Nat}, Yre i sz r j a K -> (j : Int) <= i -> i < (j : Int) + r -> K (a + (i - j).toNat * sz)
 | 0, _, _, h, _, _ => h.elim
 | 1, j, a, h, h1, h2 => by
  have e : (i - j).toNat = 0 := by omega
  rw [e, Nat.zero_mul, Nat.add_zero];exact h
 | r + 2, j, a, h, h1, h2 => by
  unfold Yre at h
  by_cases e : i = (j : Int)
  ·have := h.1 (by simp [e]);rw [show (i - j).toNat = 0 by omega, Nat.zero_mul, Nat.add_zero];exact this
  ·have h3 := Yi.1 (Yi.1 (h.2 (by simp [e])));have := Yji h3 (by omega) (by omega);rw [show (i - j).toNat = (i - ((j + 1 : Nat) : Int)).toNat + 1 by omega, Nat.succ_mul];rwa [show a + ((i - ((j + 1 : Nat) : Int)).toNat * sz + sz) = a + sz + (i - ((j + 1 : Nat) : Int)).toNat * sz by omega]
def uniB (k : IntKind) : List Ty -> Bool
 | [] => true
 | .int k' :: ts => (match decide (k' = k) with | true => uniB k ts | false => false)
 | _ => false
def uniK (ts : List Ty) : Option IntKind := match ts with | .int k :: us => (match Nat.ble 8 ts.length && uniB k us with | true => some k | false => none) | _ => none
theorem Yny {k : IntKind} : ∀ {ts : List Ty}, uniB k ts = true -> ∀ t ∈ ts, t = .int k
 | [], _, _, ht => by cases ht
 | .int k' :: ts, h, t, ht => by
  unfold uniB at h
  split at h
  ·rename_i e;rcases List.mem_cons.1 ht with rfl | ht
   ·rw [of_decide_eq_true e]
   ·exact Yny h t ht
  ·cases h
 | .bool :: _, h, _, _ => by cases h
 | .str :: _, h, _, _ => by cases h
 | .sl _ :: _, h, _, _ => by cases h
theorem Yti {k : IntKind} {ts : List Ty} (h : uniK ts = some k) (j : Nat) (hj : j < ts.length) : tyAt ts j = .int k := by
 unfold uniK at h
 split at h
 ·split at h
  ·rename_i k' us e;cases h;simp only [Bool.and_eq_true] at e;rw [Yev, List.getD_eq_getElem?_getD, List.getElem?_eq_getElem hj, Option.getD_some];rcases List.mem_cons.1 (List.getElem_mem hj) with h | h
   ·exact h
   ·exact Yny e.2 _ h
  ·cases h
 ·cases h
def Ysl (k : IntKind) : List AV -> (List Int -> Prop) -> Prop
 | [], K => K []
 | .si k' n :: xs, K => Yb (decide (k' = k)) (Ysl k xs fun ns => K (n :: ns))
 | .v (.int k' n) :: xs, K => Yb (decide (k' = k)) (Ysl k xs fun ns => K (n :: ns))
 | _, _ => Stuck 391
def Yua (xs : List AV) (K : IntKind -> List Int -> Prop) : Prop := match xs with | .si k _ :: _ => Ysl k xs (K k) | .v (.int k _) :: _ => Ysl k xs (K k) | _ => Stuck 390
theorem Yfn {k : IntKind} : ∀ {xs : List AV} {K : List Int -> Prop}, Ysl k xs K -> ∃ ns, K ns /\ ns.length = xs.length /\ ∀ φ, AV.concL φ xs = ns.map (Value.int k)
 | [], K, h => ⟨[], h, rfl, fun φ => rfl⟩
 | x :: xs, K, h => by
  unfold Ysl at h
  split at h
  ·rename_i e; cases e
  ·rename_i k' n xs' e;cases e;obtain ⟨h1, h2⟩ := Ya h;obtain rfl := of_decide_eq_true h1;obtain ⟨ns, h3, h4, h5⟩ := Yfn h2;exact ⟨_, h3, by simp [h4], fun φ => by simp [AV.concL, AV.conc, h5 φ]⟩
  ·rename_i k' n xs' e;cases e;obtain ⟨h1, h2⟩ := Ya h;obtain rfl := of_decide_eq_true h1;obtain ⟨ns, h3, h4, h5⟩ := Yfn h2;exact ⟨_, h3, by simp [h4], fun φ => by simp [AV.concL, AV.conc, h5 φ]⟩
  ·exact h.elim
theorem Yhy {xs : List AV} {K : IntKind -> List Int -> Prop} (h : Yua xs K) : ∃ k ns, K k ns /\ ns.length = xs.length /\ ∀ φ, AV.concL φ xs = ns.map (Value.int k) := by
 unfold Yua at h
 split at h
 ·obtain ⟨ns, h1, h2, h3⟩ := Yfn h; exact ⟨_, ns, h1, h2, h3⟩
 ·obtain ⟨ns, h1, h2, h3⟩ := Yfn h; exact ⟨_, ns, h1, h2, h3⟩
 ·exact h.elim
def selU (p j : Nat) (v o : Int) : Int := if p = j then v else o
def Yv9 (kd : IntKind) (p : Nat) (v : Int) : Nat -> List Int -> (List AV -> Prop) -> Prop
 | _, [], K => K []
 | j, n :: ns, K => Y1 (j + 1) fun j' => Yv9 kd p v j' ns fun r => K (.si kd (selU p j v n) :: r)
theorem Ylm {kd : IntKind} {p : Nat} {v : Int} : ∀ {ns : List Int} {j : Nat} {K : List AV -> Prop}, Yv9 kd p v j ns K -> ∃ cs, K cs /\ cs.length = ns.length /\ (∀ i, AV.hasL i cs = false) /\ Ygb cs = true /\ ∀ φ, AV.concL φ cs = if p < j then ns.map (Value.int kd) else (ns.map (Value.int kd)).set (p - j) (.int kd v)
 | [], j, K, h => ⟨[], h, rfl, fun _ => rfl, rfl, fun φ => by simp [AV.concL]⟩
 | n :: ns, j, K, h => by
  unfold Yv9 at h;obtain ⟨cs, h1, h2, h3, h4, h5⟩ := Ylm (Yi.1 h);refine ⟨_, h1, by simp [h2], fun i => by simp [AV.hasL, AV.has, h3 i], by simpa [Ygb, AV.one] using h4, fun φ => ?_⟩;simp only [AV.concL, AV.conc, h5 φ, selU];rcases Nat.lt_trichotomy p j with e | e | e
  ·simp [show p < j + 1 by omega, e, show p ≠ j by omega]
  ·subst e; simp
  ·obtain ⟨q, hq⟩ : ∃ q, p - j = q + 1 := ⟨p - j - 1, by omega⟩;rw [show p - (j + 1) = q by omega, hq];simp [show ¬ p < j + 1 by omega, show ¬ p < j by omega, show p ≠ j by omega]
def Yto (c : Cx) (T : TypeId) (s j : AV) (hp : Heap) (k : KE) (D : Prop) : Prop :=
 match s with
 | .rs ts r => intK j (fun kd i => tiK c.tt T fun ti => match ti.slice with
   | some (e, sz, by_, zs) => Yb (Nat.beq sz ts.length) (Need (decide (0 <= i) && decide (i < (r.xs.length : Int))) (k (.rp ts r i.toNat 0) [] [] []))
   | none => Stuck 323) (Stuck 324)
 | .rw id => intK j (fun kd i => Y9 hp id fun it => match it with
   | .arr T' ts xs => tiK c.tt T fun ti => (match ti.slice with
    | some (e, sz, by_, zs) => Yb (Nat.beq sz ts.length && Nat.ble 1 sz) (Need (decide (0 <= i) && decide (i < (xs.length : Int))) (k (.ep id ts.length i.toNat 0) [(id, .arr T' ts xs)] [] []))
    | none => Stuck 325)
   | _ => Stuck 326) (Stuck 327)
 | .sl id off lo n => Y9 hp id fun it => (match it with
   | .arr T' ts xs => intK j (fun kd i => tiK c.tt T fun ti => match ti.slice with
    | some (e, sz, by_, zs) => Yb (Nat.beq sz ts.length && Nat.ble 1 sz && Nat.beq off 0 && Nat.beq lo 0) (Need (decide (0 <= i) && decide (i < (n : Int)) && decide (n <= xs.length)) (k (.ep id ts.length i.toNat 0) [(id, .arr T' ts xs)] [] []))
    | none => Stuck 328) (Stuck 329)
   | _ => D)
 | .rwp id sz' l n => Y9 hp id fun it => (match it with
   | .arr T' ts xs => intK j (fun kd i => tiK c.tt T fun ti => match ti.slice with
    | some (e, sz, by_, zs) => Yb (Nat.beq sz ts.length && Nat.beq sz' ts.length && Nat.ble 1 sz) (Need (decide (0 <= i) && decide (i < (n : Int)) && decide (l + n <= xs.length)) (k (.ep id ts.length (l + i.toNat) 0) [(id, .arr T' ts xs)] [] []))
    | none => Stuck 328) (Stuck 329)
   | _ => D)
 | .ptr id m => (match j with
  | .v (.int kd i) => tiK c.tt T fun ti => (match ti.arr with
   | some (n, sz, b) => Ysb false i n m sz fun a => k (.ptr id a) [] [] []
   | none => Stuck 369)
  | .si kd i => tiK c.tt T fun ti => (match ti.arr with
   | some (n, sz, b) => Need (decide (0 <= i) && decide (i < (n : Int))) (match Nat.ble 8 n && (Nat.beq sz 1 && Nat.beq m 0) with
    | true => k (.ep id 1 i.toNat 0) [] [] []
    | false => Yre i sz n 0 m fun a => k (.ptr id a) [] [] [])
   | none => Stuck 384)
  | _ => Stuck 370)
 | .ep id sz r o => intK j (fun kd i => tiK c.tt T fun ti => (match ti.arr with
   | some (n, sz', b) => Yb (Nat.beq sz' 1 && Nat.beq o 0) (Need (decide (0 <= i) && decide (i < (n : Int))) (k (.ep id sz r i.toNat) [] [] []))
   | none => Stuck 385)) (Stuck 386)
 | _ => D
def Yp3 (c : Cx) (T : TypeId) (p : AV) (hp : Heap) (k : KE) (D : Prop) : Prop :=
 match p with
 | .rp ts r i j => tiK c.tt T fun ti => (match ti.agg with
   | some false => Yb (Nat.blt j ts.length) (Need (decide (i < r.xs.length)) (k (Ylw r i j) [] [] []))
   | some true => (match ti.size with | some n => Yb (Nat.ble (j + n) ts.length) (Need (decide (i < r.xs.length)) (k (.agg (Ydw r i j n)) [] [] [])) | none => Stuck 330)
   | none => Stuck 331)
 | .ep id sz i j => Y9 hp id fun it => (match it with
   | .blk T' cs => Yb (Nat.beq sz 1 && Nat.beq j 0) (tiK c.tt T fun ti => match ti.agg with
    | some false => Yua cs fun kd ns => Need (decide (i < ns.length)) (k (.si kd (ns.getD i 0)) [(id, .blk T' cs)] [] [])
    | _ => Stuck 387)
   | .arr T' ts xs => Yb (Nat.beq sz ts.length) (tiK c.tt T fun ti => match ti.agg with
    | some false => match uniK ts with
     | some kd => Need (decide (j < ts.length) && decide (i < xs.length)) (k (.si kd (cel xs i j).int) [(id, .arr T' ts xs)] [] [])
     | none => Yb (Nat.blt j ts.length) (Need (decide (i < xs.length)) (k (Yhx (tyAt ts j) (cel xs i j)) [(id, .arr T' ts xs)] [] []))
    | some true => (match ti.size with | some n => Yb (Nat.ble (j + n) ts.length) (Need (decide (i < xs.length)) (k (.agg (Ycp ts xs i j n)) [(id, .arr T' ts xs)] [] [])) | none => Stuck 332)
    | none => Stuck 333)
   | _ => Stuck 334)
 | _ => D
def Ytj (ts : List Ty) (xs : Dt) (i j n : Nat) (vs : List AV) (K : List Cl -> Prop) : Prop :=
 match j, Nat.beq n ts.length with
 | 0, true => clsK ts vs K
 | _, _ => Yiu ts j fun t1 => Ygp t1 n fun t2 => clsK t2 vs fun cs => K (Yln (xs.getD i []) j cs)
def Ymv (c : Cx) (T : TypeId) (p v : AV) (hp : Heap) (k : KE) (D : Prop) : Prop :=
 match p with
 | .ep id sz i j => Y9 hp id fun it => (match it with
   | .blk T' cs => Yb (Nat.beq sz 1 && Nat.beq j 0) (tiK c.tt T fun ti => (match ti.size with
    | some n => intK v (fun kv u => Yua cs fun kd ns => Yb (decide (kv = kd) && Nat.beq n 1) (Need (decide (i < ns.length)) (Yv9 kd i u 0 ns fun cs' => k (.v undef) [(id, .blk T' cs)] [(id, .blk T' cs')] []))) (Stuck 388)
    | none => Stuck 389))
   | .arr T' ts xs => Yb (Nat.beq sz ts.length) (tiK c.tt T fun ti => match ti.size with
    | some n => Yio v fun vs => Yb (lenB vs n && Ygb vs && Nat.ble 1 n && Nat.ble (j + n) ts.length) (Ytj ts xs i j n vs fun row =>
      Need (decide (i < xs.length)) (k (.v undef) [(id, .arr T' ts xs)] [(id, .arr T' ts (xs.set i row))] []))
    | none => Stuck 335)
   | _ => Stuck 336)
 | _ => D
def Ymz (c : Cx) (T : TypeId) (i : Nat) (p : AV) (k : KE) (D : Prop) : Prop :=
 match p with
 | .rp ts r j o => tiK c.tt T fun ti => getK ti.fields i fun f => (match f with | some (off, n + 1) => fN false (o + off) fun o => k (.rp ts r j o) [] [] [] | _ => Stuck 337)
 | .ep id sz j o => tiK c.tt T fun ti => getK ti.fields i fun f => (match f with | some (off, n + 1) => fN false (o + off) fun o => k (.ep id sz j o) [] [] [] | _ => Stuck 338)
 | _ => D
def Ytn (c : Cx) (tys : List TypeId) (v : AV) (hp : Heap) (k : KE) (D : Prop) : Prop :=
 match v with
 | .rs ts r => (match tys with | [T] => tiK c.tt T fun ti => (match ti.slice with | some _ => k (.si .i64 (r.xs.length : Int)) [] [] [] | none => Stuck 339) | _ => Stuck 340)
 | .rw id => Y9 hp id fun it => (match it with
   | .arr T' ts xs => (match tys with | [T] => tiK c.tt T fun ti => (match ti.slice with | some _ => Yb (Nat.ble 1 ts.length) (k (.si .i64 (xs.length : Int)) [(id, .arr T' ts xs)] [] []) | none => Stuck 341) | _ => Stuck 342)
   | _ => Stuck 343)
 | .sl id off lo n => Y9 hp id fun it => (match it with
   | .arr T' ts xs => (match tys with | [T] => tiK c.tt T fun ti => (match ti.slice with | some _ => k (.si .i64 (n : Int)) [] [] [] | none => Stuck 344) | _ => Stuck 345)
   | _ => D)
 | .rwp id sz' l n => (match tys with | [T] => tiK c.tt T fun ti => (match ti.slice with | some _ => k (.si .i64 (n : Int)) [] [] [] | none => Stuck 344) | _ => Stuck 345)
 | _ => D
def Yv4 (mx : Bool) (a b : AV) (K : K1) (D : Prop) : Prop :=
 match a, b with
 | .si ka m, .si kb n => Yb (decide (ka = kb)) (match mx with | true => K (.si ka (max m n)) | false => K (.si ka (min m n)))
 | .si ka m, .v (.int kb n) => Yb (decide (ka = kb)) (match mx with | true => K (.si ka (max m n)) | false => K (.si ka (min m n)))
 | .v (.int ka m), .si kb n => Yb (decide (ka = kb)) (match mx with | true => K (.si ka (max m n)) | false => K (.si ka (min m n)))
 | _, _ => D
def Yip (tm : List AV) (x : Option Operand) (dflt : Nat) (K : Nat -> Prop) : Prop :=
 match x with
 | none => K dflt
 | some x => evK tm x fun v => (match v with | .v (.int _ (.ofNat n)) => K n | .si _ i => Need (decide (0 <= i)) (K i.toNat) | _ => Stuck 346)
def Ymx (c : Cx) (T : TypeId) (tm : List AV) (s : AV) (lo hi mx : Option Operand) (hp : Heap) (k : KE) (D : Prop) : Prop :=
 match s with
 | .rs ts r => (match mx with
   | none => tiK c.tt T fun ti => (match ti.slice with
    | some (e, sz, by_, zs) => Yb (Nat.beq sz ts.length) (Yip tm lo 0 fun l => Yip tm hi r.xs.length fun h => Need (decide (l <= h) && decide (h <= r.xs.length)) (k (.rs ts (r.cut l h)) [] [] []))
    | none => Stuck 347)
   | some m => (match lo with
    | none => tiK c.tt T fun ti => (match ti.slice with
     | some (e, sz, by_, zs) => Yb (Nat.beq sz ts.length) (Yip tm hi 1 fun h => Yip tm (some m) 1 fun m => Yb (Nat.beq h 0 && Nat.beq m 0) (k (.rs ts r.zero) [] [] []))
     | none => Stuck 347)
    | some _ => Stuck 348))
 | .rw id => Y9 hp id fun it => (match it with
   | .arr T' ts xs => (match mx with
    | none => tiK c.tt T fun ti => (match ti.slice with
     | some (e, sz, by_, zs) => Yb (Nat.beq sz ts.length && Nat.ble 1 sz) (Yip tm lo 0 fun l => Yip tm hi xs.length fun h => Need (decide (l <= h) && decide (h <= xs.length)) (k (.rwp id ts.length l (h - l)) [(id, .arr T' ts xs)] [] []))
     | none => Stuck 347)
    | some _ => Stuck 348)
   | _ => D)
 | _ => D
def Ycd (ts : List Ty) (x : AV) (hp : Heap) (K : Heap -> Dt -> Prop) : Prop :=
 match x with
 | .v (.slice _ n _) => Yb (Nat.beq n 0) (K [] [])
 | .emp _ => K [] []
 | .rs ts' r => Yb (sameTs ts' ts) (K [] r.xs)
 | .rw id => Y9 hp id fun it => (match it with | .arr T' ts' xs => Yb (sameTs ts' ts) (K [(id, .arr T' ts' xs)] xs) | _ => Stuck 349)
 | .sl id off lo m => Y9 hp id fun it => (match it with
   | .row T' sz n cs => (match Nat.beq m 0 with
    | true => K [] []
    | false => Yqp (.row T' sz n cs) off m ts.length fun news => Yqd ts m news fun ys => K [(id, .row T' sz n cs)] ys)
   | .arr T' ts' xs => Yb (sameTs ts' ts && Nat.beq off 0 && Nat.beq lo 0) (Need (decide (m <= xs.length)) (K [(id, .arr T' ts' xs)] (xs.take m)))
   | _ => Stuck 350)
 | .rwp id sz' l m => Y9 hp id fun it => (match it with
   | .arr T' ts' xs => Yb (sameTs ts' ts && Nat.beq sz' ts.length) (Need (decide (l + m <= xs.length)) (K [(id, .arr T' ts' xs)] ((xs.drop l).take m)))
   | _ => Stuck 350)
 | _ => Stuck 351
where
 sameTy : Ty -> Ty -> Bool
  | .int k, .int k' => decide (k = k')
  | .bool, .bool => true
  | .str, .str => true
  | _, _ => false
 sameTs : List Ty -> List Ty -> Bool
  | [], [] => true
  | t :: ts, u :: us => match sameTy t u with | true => sameTs ts us | false => false
  | _, _ => false
def Yy1 (s x : AV) (hp : Heap) : Bool :=
 match s, x with
 | .rw _, _ => true
 | _, .rw _ => true
 | _, .rwp _ _ _ _ => true
 | _, .rs _ _ => true
 | _, .sl id _ _ _ => (match look hp id with | some (.row _ _ _ cs) => anySym cs | some (.arr _ _ _) => true | _ => false)
 | _, _ => false
where
 anySym : List AV -> Bool
  | [] => false
  | .si _ _ :: _ => true
  | .sb _ :: _ => true
  | .ss _ :: _ => true
  | _ :: xs => anySym xs
def Ygq (c : Cx) (T : TypeId) (id' : Nat) (s x : AV) (hp : Heap) (k : KE) : Prop :=
 tiK c.tt T fun ti => match ti.slice with
  | none => Stuck 352
  | some (e, sz, by_, zs) => Yb (lenB zs sz && Nat.ble 1 sz && Nat.ble 1 by_) (match s with
   | .v (.slice none 0 0) => tysK zs fun ts => Ycd ts x hp fun hs ys => Need (decide (ys.length * by_ <= 140737488355328)) (k (.rw id') hs [] [(id', .arr e ts ys)])
   | .rs _ q => tysK zs fun ts => Ycd ts x hp fun hs ys => Need (decide (q.xs.length = 0) && decide (capV q.v = 0) && decide (0 < ys.length) && decide (ys.length * by_ <= 140737488355328)) (k (.rw id') hs [] [(id', .arr e ts ys)])
   | .rw id => Y9 hp id fun it => (match it with
    | .arr T' ts xs => Yb (Nat.beq T' e && Nat.beq ts.length sz) (Ycd ts x hp fun hs ys => Yb (disjB hs [(id, it)]) (Need (decide ((xs.length + ys.length) * by_ <= 140737488355328)) (k (.rw id') ((id, .arr T' ts xs) :: hs) [(id, .bk e ts xs id')] [(id', .arr e ts (xs ++ ys))])))
    | _ => Stuck 353)
   | .sl id off lo n => Y9 hp id fun it => (match it with
    | .row T' sz' n' cs => Yb (Nat.beq T' e && Nat.beq sz' sz && Nat.beq n' n && Nat.beq off 0 && Nat.beq lo 0) (tysK zs fun ts => Yqd ts n cs fun xs => Ycd ts x hp fun hs ys => Yb (disjB hs [(id, it)]) (Need (decide ((xs.length + ys.length) * by_ <= 140737488355328)) (k (.rw id') ((id, .row T' sz' n' cs) :: hs) [(id, .dead)] [(id', .arr e ts (xs ++ ys))])))
    | _ => Stuck 354)
   | _ => Stuck 355)
where
 disjB : Heap -> Heap -> Bool
  | [], _ => true
  | p :: a, b => match look b p.1 with | none => disjB a b | some _ => false
def Ytm (c : Cx) (T : TypeId) (id : Nat) (x y : AV) (k : KE) (D : Prop) : Prop := D
def Yn4 (c : Cx) (T : TypeId) (ok : Bool) (m i : AV) (hp : Heap) (k : KE) (D : Prop) : Prop := D
def Yn1 (c : Cx) (T : TypeId) (m i v : AV) (hp : Heap) (k : KE) (D : Prop) : Prop := D
def Ytl (p : AV) (k : KE) (D : Prop) : Prop :=
 match p with
 | .ep id sz i j => k (.ep id sz i j) [] [] []
 | .rp ts r i j => k (.rp ts r i j) [] [] []
 | _ => D
def Yjf (c : Cx) (T : TypeId) (s j : AV) (k : KE) (D : Prop) : Prop :=
 match s, j with
 | .agg cs, .si kd i => tiK c.tt T fun ti => (match ti.arr with
  | some (n, sz, false) => Yua cs fun kn ns => Yb (Nat.beq sz 1 && Nat.beq ns.length n) (Need (decide (0 <= i) && decide (i < (n : Int))) (k (.si kn (ns.getD i.toNat 0)) [] [] []))
  | _ => Stuck 392)
 | _, _ => D
def Yjg (P : Program) (T : TypeId) (i : Nat) (s : AV) (k : KE) (D : Prop) : Prop :=
 match s with
 | .agg cs => (match P.underlying T with
  | some (.struct fs) => (match fs[i]? with | some f => subK P f.type cs f.offset fun x => k x [] [] [] | none => Stuck 393)
  | _ => Stuck 394)
 | _ => D
def Ysa (c : Cx) (o : Oper) (tm : List AV) (hp : Heap) (k kp : KE) : Prop :=
 match o.op with
 | .binOp op T x y _ => evK tm x fun a => evK tm y fun b => Ytp c.P op T a b (fun v => k v [] [] []) (Yud c op T a b hp k (Yc1 c o tm hp k kp))
 | .unOp op _ x => evK tm x fun a => Yx1 op a (fun v => k v [] [] []) (Yc1 c o tm hp k kp)
 | .convert s d x => evK tm x fun a => Yp6 c.P s d a (fun v => k v [] [] []) (Yc1 c o tm hp k kp)
 | .pick b x y => Ytk tm b x y (fun v => k v [] [] []) (Yc1 c o tm hp k kp)
 | .indexAddr T x ix => evK tm x fun s => evK tm ix fun j => Yto c T s j hp k (Yc1 c o tm hp k kp)
 | .index T x ix => evK tm x fun s => evK tm ix fun j => Yjf c T s j k (Yc1 c o tm hp k kp)
 | .field T x i => evK tm x fun s => Yjg c.P T i s k (Yc1 c o tm hp k kp)
 | .load T x => evK tm x fun p => Yp3 c T p hp k (Yc1 c o tm hp k kp)
 | .store T x y => evK tm x fun p => evK tm y fun v => Ymv c T p v hp k (Yc1 c o tm hp k kp)
 | .fieldAddr T x i => evK tm x fun p => Ymz c T i p k (Yc1 c o tm hp k kp)
 | .slice T x lo hi mx => evK tm x fun s => Ymx c T tm s lo hi mx hp k (Yc1 c o tm hp k kp)
 | .makeSlice T x y => evK tm x fun x => evK tm y fun y => Ytm c T (3 * o.dst.getD 0) x y k (Yc1 c o tm hp k kp)
 | .nilCheck x => evK tm x fun p => Ytl p k (Yc1 c o tm hp k kp)
 | .lookup T x ix ok => evK tm x fun m => evK tm ix fun i => Yn4 c T ok m i hp k (Yc1 c o tm hp k kp)
 | .mapUpdate T x ix y => evK tm x fun m => evK tm ix fun i => evK tm y fun v => Yn1 c T m i v hp k (Yc1 c o tm hp k kp)
 | .call cl => (match cl.callee with
  | .builtin b => (match b, cl.args.toList with
   | .len, [x] => evK tm x fun v => Ytn c cl.argTypes.toList v hp k (Yc1 c o tm hp k kp)
   | .min, [x, y] => evK tm x fun a => evK tm y fun b => Yv4 false a b (fun v => k v [] [] []) (Yc1 c o tm hp k kp)
   | .max, [x, y] => evK tm x fun a => evK tm y fun b => Yv4 true a b (fun v => k v [] [] []) (Yc1 c o tm hp k kp)
   | .append, [s, x] => evK tm s fun s => evK tm x fun x => (match Yy1 s x hp with
    | true => (match cl.argTypes.toList with | [T, T'] => Yb (Nat.beq T T') (Ygq c T (3 * o.dst.getD 0) s x hp k) | _ => Stuck 358)
    | false => Yc1 c o tm hp k kp)
   | _, _ => Yc1 c o tm hp k kp)
  | _ => Yc1 c o tm hp k kp)
 | _ => Yc1 c o tm hp k kp
end Go.Proofs.Ytmogofidmchdoaa
namespace Go.Proofs.Ytmogofidmchdoaa
open Go.RowKit
variable [InW]
attribute [local irreducible] Go.Oper.wp
section
variable {P : Program} {tm : List AV} {dst : Option Tmp} {type : TypeId} {pos : String} {after : Array Edge} {guard : Option (Nat × Bool)}
theorem Yp7 {op : BinOp} {T : TypeId} {a b : AV} {K : K1} {D : Prop} (h : Ytp P op T a b K D) (x y : Operand) : (∃ r, K r /\ ∀ φ, Yhs P op T x y (a.conc φ) (b.conc φ) (r.conc φ)) \/ D := by
 unfold Ytp at h
 split at h
 ·exact .inl (Yks h T x y)
 ·exact .inl (Yks h T x y)
 ·exact .inl (Yks h T x y)
 ·exact .inl (Ykt h x y)
 ·exact .inl (Ykt h x y)
 ·exact .inl (Ykt h x y)
 ·exact .inl (Ykr h x y)
 ·exact .inl (Ykr h x y)
 ·exact .inl (Ykr h x y)
 ·exact .inl (Yku h x y (fun φ => ⟨_, rfl⟩) (fun φ => ⟨_, rfl⟩))
 ·exact .inl (Yku h x y (fun φ => ⟨_, rfl⟩) (fun φ => ⟨_, rfl⟩))
 ·exact .inl (Yku h x y (fun φ => ⟨_, rfl⟩) (fun φ => ⟨_, rfl⟩))
 ·exact .inr h
theorem Yy3 {op : UnOp} {T : TypeId} {x : Operand} {a r : AV} (hx : At tm x a) (ja : a.rd = true) (h : ∀ φ w, (Op.unary op (a.conc φ)).run P w = .ok (r.conc φ) w) : Does P { dst, op := .unOp op T x, type, pos, after, guard } tm [] r [] [] :=
 Does.pure fun φ ac ho w => by
  have e := ho x (by simp [Op.operands]) _ hx ja;unfold execOp;simp only [e, Sem.run_bind, h φ w, Result.andThen_ok, Sem.run_pure]
theorem Yse {op : UnOp} {a : AV} {K : K1} {D : Prop} (h : Yx1 op a K D) : (∃ r, K r /\ a.rd = true /\ ∀ φ w, (Op.unary op (a.conc φ)).run P w = .ok (r.conc φ) w) \/ D := by
 unfold Yx1 at h
 split at h
 ·split at h
  ·obtain ⟨h⟩ := h;exact .inl ⟨_, h, rfl, fun φ w => by simp [AV.conc, Op.unary, Op.intArith]⟩
  ·exact h.elim
 ·split at h
  ·exact .inl ⟨_, h, rfl, fun φ w => by simp [AV.conc, Op.unary]⟩
  ·exact h.elim
 ·exact .inr h
theorem Yn6 {src dst' : TypeId} {a : AV} {K : K1} {D : Prop} (h : Yp6 P src dst' a K D) : (∃ r, K r /\ a.rd = true /\ ∀ φ w, (convert src dst' (a.conc φ)).run P w = .ok (r.conc φ) w) \/ D := by
 unfold Yp6 at h
 split at h
 ·split at h
  ·rename_i k1 k2 h1 h2;obtain ⟨h⟩ := h;exact .inl ⟨_, h, rfl, fun φ w => by simp [AV.conc, convert, Sem.run_bind, run_underlying h1 w, run_underlying h2 w, Conv.intToInt]⟩
  ·exact h.elim
 ·exact .inr h
theorem Yyn {c x y : Operand} {cv u v r : AV} {b : Bool} (hc : At tm c cv) (hcj : cv.rd = true) (hcv : ∀ φ, cv.conc φ = .bool b) (hx : At tm x u) (hxj : u.rd = true) (hy : At tm y v) (hyj : v.rd = true) (hr : ∀ φ, r.conc φ = if b then u.conc φ else v.conc φ) : Does P { dst, op := .pick c x y, type, pos, after, guard } tm [] r [] [] :=
 fun φ w0 M R a w K Q ho _ hS kk => by
  have e1 := ho.ev (x := c) (by simp [Op.operands]) hc hcj;rw [hcv φ] at e1;refine Yxp e1 (v := r.conc φ) ?_ (kk φ w (Agree.refl _ _) hS);rw [hr φ];cases b
  ·exact ho.ev (x := y) (by simp [Op.operands]) hy hyj
  ·exact ho.ev (x := x) (by simp [Op.operands]) hx hxj
theorem Yn2 {cnd x y : Operand} {K : K1} {D : Prop} (h : Ytk tm cnd x y K D) : (∃ r, K r /\ Does P { dst, op := .pick cnd x y, type, pos, after, guard } tm [] r [] []) \/ D := by
 obtain ⟨cv, hcj, hc, h1⟩ := Yf h
 split at h1
 ·rename_i b;obtain ⟨u, hxj, hx, h2⟩ := Yf h1;obtain ⟨v, hyj, hy, h3⟩ := Yf h2;have fin : ∀ r : AV, K r -> (∀ φ, r.conc φ = if b then u.conc φ else v.conc φ) -> (∃ r, K r /\ Does P { dst, op := .pick cnd x y, type, pos, after, guard } tm [] r [] []) \/ D := fun r hk hr =>
   .inl ⟨r, hk, Yyn hc hcj (fun φ => rfl) hx hxj hy hyj hr⟩
  split at h3
  ·exact fin _ h3 fun φ => by cases b <;> rfl
  ·split at h3
   ·exact fin _ h3 fun φ => by cases b <;> rfl
   ·exact fin _ h3 fun φ => by cases b <;> rfl
  ·split at h3
   ·exact fin _ h3 fun φ => by cases b <;> rfl
   ·exact fin _ h3 fun φ => by cases b <;> rfl
  ·rcases h3.spec with ⟨rfl, h4⟩ | ⟨rfl, h4⟩
   ·exact fin _ h4 fun φ => rfl
   ·exact fin _ h4 fun φ => rfl
 ·exact .inr h1
def Res1 (P : Program) (o : Oper) (tm : List AV) (hp : Heap) (k : KE) : Prop := ∃ val hs us nw, k val hs us nw /\ PartOf hs hp /\ (∀ i ∈ keys us, i ∈ keys hs) /\ Does P o tm hs val us nw
theorem Y8 {hs : Heap} : ∀ i ∈ keys ([] : Heap), i ∈ keys hs := by intro i hi; simp [keys] at hi
theorem Yta {T : TypeId} {n sz m : Nat} {b : Bool} {x ix : Operand} {id : Nat} {kd : IntKind} {i : Int} (ht : (mkTI P T).arr = some (n, sz, b)) (hx : At tm x (.ptr id m)) (hi : At tm ix (.v (.int kd i))) (h0 : 0 <= i) (h1 : i < (n : Int)) :
  Does P { dst, op := .indexAddr T x ix, type, pos, after, guard } tm [] (.ptr id (m + i.toNat * sz)) [] [] :=
 Does.pure fun φ ac ho w => by
  obtain ⟨e, hu, hs, _⟩ := Yfq ht;have e1 := ho x (by simp [Op.operands]) _ hx (by simp);have e2 := ho ix (by simp [Op.operands]) _ hi (by simp);unfold execOp;simp only [Instr.indexAt, Instr.sureAddr, e1, e2, AV.conc, asIntOf, Sem.run_bind, Sem.run_pure, Result.andThen_ok, run_underlying hu w, h0, h1, and_self, if_true, Ybe hs, Yl]
theorem Ykk {T : TypeId} {n sz m : Nat} {b : Bool} {x ix : Operand} {id : Nat} {kd : IntKind} {i : Int} (ht : (mkTI P T).arr = some (n, sz, b)) (hx : At tm x (.ptr id m)) (hi : At tm ix (.si kd i)) (h0 : 0 <= i) (h1 : i < (n : Int)) :
  Does P { dst, op := .indexAddr T x ix, type, pos, after, guard } tm [] (.ptr id (m + i.toNat * sz)) [] [] :=
 Does.pure fun φ ac ho w => by
  obtain ⟨e, hu, hs, _⟩ := Yfq ht;have e1 := ho x (by simp [Op.operands]) _ hx (by simp);have e2 := ho ix (by simp [Op.operands]) _ hi (by simp);unfold execOp;simp only [Instr.indexAt, Instr.sureAddr, e1, e2, AV.conc, asIntOf, Sem.run_bind, Sem.run_pure, Result.andThen_ok, run_underlying hu w, h0, h1, and_self, if_true, Ybe hs, Yl]
theorem Yvc {T : TypeId} {n sz r : Nat} {b : Bool} {x ix : Operand} {id : Nat} {kd : IntKind} {i : Int} {j : AV} (ht : (mkTI P T).arr = some (n, 1, b)) (hx : At tm x (.ep id sz r 0)) (hi : At tm ix j) (hr : j.rd = true) (hc : ∀ φ, j.conc φ = .int kd i) (h0 : 0 <= i) (h1 : i < (n : Int)) :
  Does P { dst, op := .indexAddr T x ix, type, pos, after, guard } tm [] (.ep id sz r i.toNat) [] [] :=
 Does.pure fun φ ac ho w => by
  obtain ⟨e, hu, hs, _⟩ := Yfq ht;have e1 := ho x (by simp [Op.operands]) _ hx (by simp);have e2 := ho ix (by simp [Op.operands]) _ hi hr;rw [hc φ] at e2;unfold execOp;simp only [Instr.indexAt, Instr.sureAddr, e1, e2, AV.conc, asIntOf, Sem.run_bind, Sem.run_pure, Result.andThen_ok, run_underlying hu w, h0, h1, and_self, if_true, Ybe hs, Yl, Nat.add_zero, Nat.mul_one]
theorem Yyp {T T' : TypeId} {x : Operand} {id i : Nat} {cs : List AV} {kd : IntKind} {ns : List Int} (ha : Yfw P T false) (hx : At tm x (.ep id 1 i 0)) (hc : ∀ φ, AV.concL φ cs = ns.map (Value.int kd)) (hi : i < ns.length) : Does P { dst, op := .load T x, type, pos, after, guard } tm [(id, .blk T' cs)] (.si kd (ns.getD i 0)) [] [] :=
 fun φ w0 M R a w K Q ho _ hS kk => by
  have h2 := Yo (ho.ev (x := x) (by simp [Op.operands]) hx (by simp));simp only [AV.conc, Nat.mul_one, Nat.add_zero] at h2;have hv : ((It.blk T' cs).vals φ)[i]? = some (.int kd (ns.getD i 0)) := by
   simp [It.vals, hc φ, hi, List.getD_eq_getElem?_getD]
  unfold Oper.wp execOp;simp only [h2, Sem.run_bind, Yct ha (Y3 hS hv), Result.andThen_ok, Sem.run_pure, Oper.upon];exact kk φ w (Agree.refl _ _) hS
theorem Ywx {T T' : TypeId} {x y : Operand} {id i : Nat} {cs cs' : List AV} {v : AV} {kd : IntKind} {u : Int} {ns : List Int} (hs : Yb6 P T 1) (hx : At tm x (.ep id 1 i 0)) (hy : At tm y v) (hj : v.rd = true) (hv : ∀ φ, v.conc φ = .int kd u) (hc : ∀ φ, AV.concL φ cs = ns.map (Value.int kd)) (hi : i < ns.length) (hc' : ∀ φ, AV.concL φ cs' = (ns.map (Value.int kd)).set i (.int kd u)) :
  Does P { dst, op := .store T x y, type, pos, after, guard } tm [(id, .blk T' cs)] (.v undef) [(id, .blk T' cs')] [] :=
 fun φ w0 M R a w K Q ho _ hS kk => by
  have h2 := Yo (ho.ev (x := x) (by simp [Op.operands]) hx (by simp));have h3 := Yo (ho.ev (x := y) (by simp [Op.operands]) hy hj);simp only [AV.conc, Nat.mul_one, Nat.add_zero] at h2;rw [hv φ] at h3;refine Yoa (v := .int kd u) hS hs h2 h3 (by simp [Value.cells]) (fun w hw => by simp [Value.cells] at hw; subst hw; rfl) (by rw [hc φ]; simp; omega) fun w' hS' => ?_;have e : Yb2 (AV.concL φ cs).toArray i (Value.int kd u).cells.toList = (AV.concL φ cs').toArray := by
   apply Array.ext';rw [Yco _ _ _ (by rw [hc φ]; simp [Value.cells]; omega), hc φ, hc' φ];rw [List.set_eq_take_append_cons_drop, if_pos (by simpa using hi)];simp [Value.cells]
  rw [e] at hS';exact kk φ w' (Agree.refl _ _) (by simpa [Yh, upd, Nat.beq_refl, Yc, It.conc] using hS')
theorem Yp5 {c : Cx} (ht : TabOk c.P c.tt) {T : TypeId} {s j : AV} {x ix : Operand} {hp : Heap} {k : KE} {D : Prop} (hx : At tm x s) (hj : At tm ix j) (h : Yto c T s j hp k D) : Res1 c.P { dst, op := .indexAddr T x ix, type, pos, after, guard } tm hp k \/ D := by
 unfold Yto at h
 split at h
 ·rename_i ts r;rcases Yd7 h with ⟨kd, i, h1, hc, hr⟩ | h1
  ·have h2 := Ym ht h1
   split at h2
   ·rename_i e sz by_ zs hs;obtain ⟨h3, h4⟩ := Ya h2;obtain ⟨h5, h6⟩ := h4;simp only [Bool.and_eq_true, decide_eq_true_eq] at h5;exact .inl ⟨_, _, _, _, h6, .nil _, Y8, Yvb hs (Ye.1 h3) hx hj hr hc h5.1 h5.2⟩
   ·exact h2.elim
  ·exact h1.elim
 ·rename_i id;rcases Yd7 h with ⟨kd, i, h1, hc, hr⟩ | h1
  ·obtain ⟨it, hl, h2⟩ := Yg h1
   split at h2
   ·have h3 := Ym ht h2
    split at h3
    ·rename_i e sz by_ zs hs;obtain ⟨h4, h5⟩ := Ya h3;obtain ⟨h6, h7⟩ := h5;simp only [Bool.and_eq_true, decide_eq_true_eq, Nat.ble_eq, Ye] at h4 h6;exact .inl ⟨_, _, _, _, h7, .one hl, Y8, Ypj hs h4.1 (by omega) hx (.inl ⟨rfl, rfl⟩) hj hr hc h6.1 h6.2⟩
    ·exact h3.elim
   ·exact h2.elim
  ·exact h1.elim
 ·rename_i id off lo n;obtain ⟨it, hl, h2⟩ := Yg h
  split at h2
  ·rcases Yd7 h2 with ⟨kd, i, h1, hc, hr⟩ | h1
   ·have h3 := Ym ht h1
    split at h3
    ·rename_i e sz by_ zs hs;obtain ⟨h4, h5⟩ := Ya h3;obtain ⟨h6, h7⟩ := h5;simp only [Bool.and_eq_true, decide_eq_true_eq, Nat.ble_eq, Ye] at h4 h6;obtain ⟨⟨⟨h41, h42⟩, rfl⟩, rfl⟩ := h4;exact .inl ⟨_, _, _, _, h7, .one hl, Y8, Ypj hs h41 (by omega) hx (.inr ⟨rfl, h6.2⟩) hj hr hc h6.1.1 h6.1.2⟩
    ·exact h3.elim
   ·exact h1.elim
  ·exact .inr h2
 ·rename_i id sz' l n;obtain ⟨it, hl, h2⟩ := Yg h
  split at h2
  ·rcases Yd7 h2 with ⟨kd, i, h1, hc, hr⟩ | h1
   ·have h3 := Ym ht h1
    split at h3
    ·rename_i e sz by_ zs hs;obtain ⟨h4, h5⟩ := Ya h3;obtain ⟨h6, h7⟩ := h5;simp only [Bool.and_eq_true, decide_eq_true_eq, Nat.ble_eq, Ye] at h4 h6;obtain ⟨⟨h41, rfl⟩, h42⟩ := h4;exact .inl ⟨_, _, _, _, h7, .one hl, Y8, Ys9 hs h41 (by omega) hx h6.2 hj hr hc h6.1.1 h6.1.2⟩
    ·exact h3.elim
   ·exact h1.elim
  ·exact .inr h2
 ·rename_i id m
  split at h
  ·have h2 := Ym ht h
   split at h2
   ·rename_i n sz b hq;obtain ⟨h3, h4, h5⟩ := Yfi h2;exact .inl ⟨_, _, _, _, h5, .nil _, Y8, Yta hq hx hj h3 h4⟩
   ·exact h2.elim
  ·have h2 := Ym ht h
   split at h2
   ·rename_i n sz b hq;obtain ⟨h3, h4⟩ := h2;simp only [Bool.and_eq_true, decide_eq_true_eq] at h3
    split at h4
    ·rename_i hb;simp only [Bool.and_eq_true, Ye] at hb;obtain ⟨_, rfl, rfl⟩ := hb;have hd := Ykk (dst := dst) (type := type) (pos := pos) (after := after) (guard := guard) hq hx hj h3.1 h3.2;refine .inl ⟨_, _, _, _, h4, .nil _, Y8, fun φ w0 M R ac w K Q ho hn hS kk => hd φ w0 M R ac w K Q ho hn hS fun φ' w' ha hS' => ?_⟩;have := kk φ' w' ha hS';simpa [AV.conc] using this
    ·have h5 := Yji h4 (by omega) (by omega);rw [Int.natCast_zero, Int.sub_zero] at h5;exact .inl ⟨_, _, _, _, h5, .nil _, Y8, Ykk hq hx hj h3.1 h3.2⟩
   ·exact h2.elim
  ·exact h.elim
 ·rename_i id sz r o;rcases Yd7 h with ⟨kd, i, h1, hc, hr⟩ | h1
  ·have h2 := Ym ht h1
   split at h2
   ·rename_i n sz' b hq;obtain ⟨h3, h4⟩ := Ya h2;obtain ⟨h5, h6⟩ := h4;simp only [Bool.and_eq_true, Ye] at h3;obtain ⟨rfl, rfl⟩ := h3;simp only [Bool.and_eq_true, decide_eq_true_eq] at h5;exact .inl ⟨_, _, _, _, h6, .nil _, Y8, Yvc hq hx hj hr hc h5.1 h5.2⟩
   ·exact h2.elim
  ·exact h1.elim
 ·exact .inr h
theorem Yn5 {c : Cx} (ht : TabOk c.P c.tt) {T : TypeId} {p : AV} {x : Operand} {hp : Heap} {k : KE} {D : Prop} (hx : At tm x p) (h : Yp3 c T p hp k D) : Res1 c.P { dst, op := .load T x, type, pos, after, guard } tm hp k \/ D := by
 unfold Yp3 at h
 split at h
 ·have h1 := Ym ht h
  split at h1
  ·rename_i ha;obtain ⟨h2, h3⟩ := Ya h1;obtain ⟨h4, h5⟩ := h3;exact .inl ⟨_, _, _, _, h5, .nil _, Y8, Yu9 (Ycr ha) hx (of_decide_eq_true h4) (by simpa [Nat.blt_eq] using h2)⟩
  ·rename_i ha
   split at h1
   ·rename_i n hn;obtain ⟨h2, h3⟩ := Ya h1;obtain ⟨h4, h5⟩ := h3;exact .inl ⟨_, _, _, _, h5, .nil _, Y8, Yu8 (Ycr ha) (Ycv hn) hx (of_decide_eq_true h4) (by simpa [Nat.ble_eq] using h2)⟩
   ·exact h1.elim
  ·exact h1.elim
 ·obtain ⟨it, hl, h0⟩ := Yg h
  split at h0
  ·obtain ⟨hz, h00⟩ := Ya h0;simp only [Bool.and_eq_true, Ye] at hz;obtain ⟨rfl, rfl⟩ := hz;have h1 := Ym ht h00
   split at h1
   ·rename_i ha;obtain ⟨kd, ns, h2, h3, h4⟩ := Yhy h1;obtain ⟨h5, h6⟩ := h2;exact .inl ⟨_, _, _, _, h6, .one hl, Y8, Yyp (Ycr ha) hx h4 (of_decide_eq_true h5)⟩
   ·exact h1.elim
  ·obtain ⟨hz, h00⟩ := Ya h0;obtain rfl := Ye.1 hz;have h1 := Ym ht h00
   split at h1
   ·rename_i ha
    split at h1
    ·rename_i kd hk;obtain ⟨h2, h3⟩ := h1;simp only [Bool.and_eq_true, decide_eq_true_eq] at h2;have hd := fun T'' => Yph (T' := T'') (dst := dst) (type := type) (pos := pos) (after := after) (guard := guard) (Ycr ha) hx h2.2 h2.1;rw [Yti hk _ h2.1] at hd;exact .inl ⟨_, _, _, _, h3, .one hl, Y8, hd _⟩
    obtain ⟨h2, h3⟩ := Ya h1;obtain ⟨h4, h5⟩ := h3;exact .inl ⟨_, _, _, _, h5, .one hl, Y8, Yph (Ycr ha) hx (of_decide_eq_true h4) (by simpa [Nat.blt_eq] using h2)⟩
   ·rename_i ha
    split at h1
    ·rename_i n hn;obtain ⟨h2, h3⟩ := Ya h1;obtain ⟨h4, h5⟩ := h3;exact .inl ⟨_, _, _, _, h5, .one hl, Y8, Yva (Ycr ha) (Ycv hn) hx (of_decide_eq_true h4) (by simpa [Nat.ble_eq] using h2)⟩
    ·exact h1.elim
   ·exact h1.elim
  ·exact h0.elim
 ·exact .inr h
theorem Yp1 {ts : List Ty} {xs : Dt} {i j n : Nat} {vs : List AV} {K : List Cl -> Prop} (hn : vs.length = n) (hj : j + n <= ts.length) (h : Ytj ts xs i j n vs K) :
  ∃ row, K row /\ ∀ φ, Yw ts row = (Yw ts (xs.getD i [])).take j ++ AV.concL φ vs ++ (Yw ts (xs.getD i [])).drop (j + n) := by
 have key : (Yiu ts j fun t1 => Ygp t1 n fun t2 => clsK t2 vs fun cs => K (Yln (xs.getD i []) j cs)) -> ∃ row, K row /\ ∀ φ, Yw ts row = (Yw ts (xs.getD i [])).take j ++ AV.concL φ vs ++ (Yw ts (xs.getD i [])).drop (j + n) := fun h => by
  obtain ⟨h1, h2⟩ := Yb0 h;obtain ⟨h3, h4⟩ := Ybn h2;obtain ⟨cs, h5, h6, h7, h8, _⟩ := Yhp h4;have hl : ((ts.drop j).take n).length = n := by simp; omega
  refine ⟨_, h5, fun φ => ?_⟩;rw [Ylf ts _ j cs (by omega), h7, hl, h6 φ]
 unfold Ytj at h;cases j with
 | zero =>
  cases hb : Nat.beq n ts.length with
  | true =>
   rw [hb] at h;have e := Ye.1 hb;obtain ⟨cs, h1, h2, h3, h4, _⟩ := Yhp h;refine ⟨cs, h1, fun φ => ?_⟩;rw [h2 φ, Nat.zero_add, List.drop_eq_nil_of_le (by rw [Ybi]; omega)];simp
  | false => rw [hb] at h; exact key h
 | succ j => exact key h
theorem Ymu {c : Cx} (ht : TabOk c.P c.tt) {T : TypeId} {p v : AV} {x y : Operand} {hp : Heap} {k : KE} {D : Prop} (hx : At tm x p) (hy : At tm y v) (hj : v.rd = true) (h : Ymv c T p v hp k D) : Res1 c.P { dst, op := .store T x y, type, pos, after, guard } tm hp k \/ D := by
 unfold Ymv at h
 split at h
 ·obtain ⟨it, hl, h0⟩ := Yg h
  split at h0
  ·obtain ⟨hz, h00⟩ := Ya h0;simp only [Bool.and_eq_true, Ye] at hz;obtain ⟨rfl, rfl⟩ := hz;have h1 := Ym ht h00
   split at h1
   ·rename_i n hn;rcases Yd7 h1 with ⟨kv, u, h2, hc, hr⟩ | h2
    ·obtain ⟨kd, ns, h3, h4, h5⟩ := Yhy h2;obtain ⟨h6, h7⟩ := Ya h3;simp only [Bool.and_eq_true, Ye, decide_eq_true_eq] at h6;obtain ⟨rfl, rfl⟩ := h6;obtain ⟨h8, h9⟩ := h7;obtain ⟨cs', g1, g2, g3, g4, g5⟩ := Ylm h9;exact .inl ⟨_, _, _, _, g1, .one hl, fun i hi => by simpa [keys] using hi, Ywx (Ycv hn) hx hy hj hc h5 (of_decide_eq_true h8) fun φ => by have := g5 φ; simpa using this⟩
    ·exact h2.elim
   ·exact h1.elim
  ·obtain ⟨hz, h00⟩ := Ya h0;obtain rfl := Ye.1 hz;have h1 := Ym ht h00
   split at h1
   ·rename_i n hn;obtain ⟨vs, h2, hc, _⟩ := Ydj h1;obtain ⟨h3, h4⟩ := Ya h2;simp only [Bool.and_eq_true, Nat.ble_eq] at h3;obtain ⟨⟨⟨h31, h32⟩, h33⟩, h34⟩ := h3;obtain ⟨row, h5, h6⟩ := Yp1 (Y5 h31) h34 h4;obtain ⟨h7, h8⟩ := h5;exact .inl ⟨_, _, _, _, h8, .one hl, fun i hi => by simpa [keys] using hi, Yu5 (Ycv hn) hx hy hj hc (Y5 h31) (by omega) h32 (of_decide_eq_true h7) h34 h6⟩
   ·exact h1.elim
  ·exact h0.elim
 ·exact .inr h
theorem Yk6 {c : Cx} (ht : TabOk c.P c.tt) {T : TypeId} {s j : AV} {x ix : Operand} {hp : Heap} {k : KE} {D : Prop} (hx : At tm x s) (hj : At tm ix j) (h : Yjf c T s j k D) : Res1 c.P { dst, op := .index T x ix, type, pos, after, guard } tm hp k \/ D := by
 unfold Yjf at h
 split at h
 ·rename_i cs kd i;have h1 := Ym ht h
  split at h1
  ·rename_i n sz hq;obtain ⟨kn, ns, h2, h3, h4⟩ := Yhy h1;obtain ⟨h5, h6⟩ := Ya h2;simp only [Bool.and_eq_true, Ye] at h5;obtain ⟨rfl, h5⟩ := h5;obtain ⟨h7, h8⟩ := h6;simp only [Bool.and_eq_true, decide_eq_true_eq] at h7;refine .inl ⟨_, _, _, _, h8, .nil _, Y8, Does.pure fun φ a ho w => ?_⟩;obtain ⟨e, hu, hs, hb⟩ := Yfq hq;have e1 := ho x (by simp [Op.operands]) _ hx (by simp);have e2 := ho ix (by simp [Op.operands]) _ hj (by simp);simp only [AV.conc] at e1 e2;have hv : (AV.concL φ cs).toArray[i.toNat * 1]? = some (.int kn (ns.getD i.toNat 0)) := by
    have hi : i.toNat < ns.length := by omega
    simp [h4 φ, hi, List.getD_eq_getElem?_getD]
   simp only [execOp, Instr.index, e1, e2, asIntOf, Sem.run_bind, Sem.run_pure, Result.andThen_ok, run_underlying hu w, h7.1, h7.2, and_self, if_true, Ybe hs, part, Ydc hb, Bool.false_eq_true, if_false, hv, AV.conc]
  ·exact h1.elim
 ·exact .inr h
theorem Yk7 {P : Program} {T : TypeId} {i : Nat} {s : AV} {x : Operand} {hp : Heap} {k : KE} {D : Prop} (hx : At tm x s) (h : Yjg P T i s k D) : Res1 P { dst, op := .field T x i, type, pos, after, guard } tm hp k \/ D := by
 unfold Yjg at h
 split at h
 ·rename_i cs
  split at h
  ·rename_i fs hu
   split at h
   ·rename_i f hf;obtain ⟨v, h1, h2⟩ := Yew h;refine .inl ⟨_, _, _, _, h1, .nil _, Y8, Does.pure fun φ a ho w => ?_⟩;have e1 := ho x (by simp [Op.operands]) _ hx (by simp);simp only [AV.conc] at e1;simp only [execOp, Instr.field, e1, Sem.run_bind, Sem.run_pure, Result.andThen_ok, run_underlying hu w, hf, asAgg, h2 φ w]
   ·exact h.elim
  ·exact h.elim
 ·exact .inr h
theorem Ymy {c : Cx} (ht : TabOk c.P c.tt) {T : TypeId} {i : Nat} {p : AV} {x : Operand} {hp : Heap} {k : KE} {D : Prop} (hx : At tm x p) (h : Ymz c T i p k D) : Res1 c.P { dst, op := .fieldAddr T x i, type, pos, after, guard } tm hp k \/ D := by
 unfold Ymz at h
 split at h
 ·have h1 := Ym ht h;obtain ⟨f, h2, h3⟩ := Ybj h1
  split at h3
  ·exact .inl ⟨_, _, _, _, Yf3.1 h3, .nil _, Y8, Yvd (Yhz h2) hx⟩
  ·exact h3.elim
 ·have h1 := Ym ht h;obtain ⟨f, h2, h3⟩ := Ybj h1
  split at h3
  ·exact .inl ⟨_, _, _, _, Yf3.1 h3, .nil _, Y8, Yve (Yhz h2) hx⟩
  ·exact h3.elim
 ·exact .inr h
theorem Yp4 {c : Cx} (ht : TabOk c.P c.tt) {tys : Array TypeId} {v : AV} {x : Operand} {hp : Heap} {k : KE} {D : Prop} (hx : At tm x v) (hj : v.rd = true) (h : Ytn c tys.toList v hp k D) :
  Res1 c.P { dst, op := .call { callee := .builtin .len, args := #[x], argTypes := tys }, type, pos, after, guard } tm hp k \/ D := by
 obtain ⟨tys⟩ := tys;unfold Ytn at h
 split at h
 ·rename_i ts r
  split at h
  ·rename_i T hT;have hT : tys = [T] := hT;subst hT;have h1 := Ym ht h
   split at h1
   ·rename_i q hq;obtain ⟨e, sz, by_, zs⟩ := q;refine .inl ⟨_, _, _, _, h1, .nil _, Y8, Yno hq hx hj fun φ w0 M R w hS => ?_⟩;obtain ⟨A, c, hv, _⟩ := r.inv;exact ⟨A, c, hv⟩
   ·exact h1.elim
  ·exact h.elim
 ·rename_i id;obtain ⟨it, hl, h0⟩ := Yg h
  split at h0
  ·split at h0
   ·rename_i T hT;have hT : tys = [T] := hT;subst hT;have h1 := Ym ht h0
    split at h1
    ·rename_i q hq;obtain ⟨e, sz, by_, zs⟩ := q;obtain ⟨h2, h3⟩ := Ya h1;refine .inl ⟨_, _, _, _, h3, .one hl, Y8, Yno hq hx hj fun φ w0 M R w hS => ?_⟩;have := (Yh9 (Nat.le_of_ble_eq_true h2) (by simpa [Yc] using hS)).1;exact ⟨_, _, by simp only [AV.conc, this]; rfl⟩
    ·exact h1.elim
   ·exact h0.elim
  ·exact h0.elim
 ·rename_i id off lo n;obtain ⟨it, hl, h0⟩ := Yg h
  split at h0
  ·split at h0
   ·rename_i T hT;have hT : tys = [T] := hT;subst hT;have h1 := Ym ht h0
    split at h1
    ·rename_i q hq;obtain ⟨e, sz, by_, zs⟩ := q;exact .inl ⟨_, _, _, _, h1, .nil _, Y8, Yno hq hx hj fun φ w0 M R w hS => ⟨_, _, rfl⟩⟩
    ·exact h1.elim
   ·exact h0.elim
  ·exact .inr h0
 ·split at h
  ·rename_i T hT;have hT : tys = [T] := hT;subst hT;have h1 := Ym ht h
   split at h1
   ·rename_i q hq;obtain ⟨e, sz, by_, zs⟩ := q;exact .inl ⟨_, _, _, _, h1, .nil _, Y8, Yno hq hx hj fun φ w0 M R w hS => ⟨_, _, rfl⟩⟩
   ·exact h1.elim
  ·exact h.elim
 ·exact .inr h
def mmB : Bool -> Builtin
 | true => .max
 | false => .min
theorem d_mm {mx : Bool} {x y : Operand} {a b : AV} {k : IntKind} {m n : Int} (hx : At tm x a) (hxj : a.rd = true) (hy : At tm y b) (hyj : b.rd = true) (ha : ∀ φ, a.conc φ = .int k m) (hb : ∀ φ, b.conc φ = .int k n) (tys : Array TypeId) :
  Does P { dst, op := .call { callee := .builtin (mmB mx), args := #[x, y], argTypes := tys }, type, pos, after, guard } tm [] (.si k (match mx with | true => max m n | false => min m n)) [] [] :=
 Does.pure fun φ ac ho w => by
  have e1 := ho x (by simp [Op.operands, Call.operands]) _ hx hxj;have e2 := ho y (by simp [Op.operands, Call.operands]) _ hy hyj;rw [ha φ] at e1;rw [hb φ] at e2;unfold execOp;cases mx with
  | true =>
   have e : (if m < n then n else m) = max m n := by rw [Int.max_def]; split <;> split <;> omega
   simp only [mmB, resolve, invoke, builtin, Sem.run_bind, Sem.run_pure, Result.andThen_ok, List.map_toArray, List.map_cons, List.map_nil, e1, e2, run_max_int2, AV.conc, e]
  | false =>
   have e : (if n < m then n else m) = min m n := by rw [Int.min_def]; split <;> split <;> omega
   simp only [resolve, invoke, builtin, Sem.run_bind, Sem.run_pure, Result.andThen_ok, List.map_toArray, List.map_cons, List.map_nil, e1, e2, run_min_int2, AV.conc, e, mmB]
theorem Yli {mx : Bool} {a b : AV} {x y : Operand} {K : K1} {D : Prop} (hx : At tm x a) (hxj : a.rd = true) (hy : At tm y b) (hyj : b.rd = true) (tys : Array TypeId) (h : Yv4 mx a b K D) :
  (∃ r, K r /\ Does P { dst, op := .call { callee := .builtin (mmB mx), args := #[x, y], argTypes := tys }, type, pos, after, guard } tm [] r [] []) \/ D := by
 unfold Yv4 at h
 split at h
 ·obtain ⟨h1, h2⟩ := Ya h;obtain rfl := of_decide_eq_true h1;exact .inl (by cases mx <;> exact ⟨_, h2, d_mm hx hxj hy hyj (fun φ => rfl) (fun φ => rfl) tys⟩)
 ·obtain ⟨h1, h2⟩ := Ya h;obtain rfl := of_decide_eq_true h1;exact .inl (by cases mx <;> exact ⟨_, h2, d_mm hx hxj hy hyj (fun φ => rfl) (fun φ => rfl) tys⟩)
 ·obtain ⟨h1, h2⟩ := Ya h;obtain rfl := of_decide_eq_true h1;exact .inl (by cases mx <;> exact ⟨_, h2, d_mm hx hxj hy hyj (fun φ => rfl) (fun φ => rfl) tys⟩)
 ·exact .inr h
theorem Ycn {x : Option Operand} {dflt : Nat} {K : Nat -> Prop} (h : Yip tm x dflt K) : ∃ n, K n /\ BoundS tm x dflt n := by
 unfold Yip at h
 split at h
 ·exact ⟨_, h, rfl⟩
 ·rename_i x;obtain ⟨v, hj, hx, h1⟩ := Yf h
  split at h1
  ·exact ⟨_, h1, _, _, hx, hj, fun φ => rfl⟩
  ·rename_i k i;obtain ⟨h2, h3⟩ := h1;have := of_decide_eq_true h2;exact ⟨_, h3, _, _, hx, hj, fun φ => show Value.int k i = .int k ((i.toNat : Nat) : Int) by rw [Int.toNat_of_nonneg this]⟩
  ·exact h1.elim
theorem Ymw {c : Cx} (ht : TabOk c.P c.tt) {T : TypeId} {s : AV} {x : Operand} {lo hi mx : Option Operand} {hp : Heap} {k : KE} {D : Prop} (hx : At tm x s) (h : Ymx c T tm s lo hi mx hp k D) : Res1 c.P { dst, op := .slice T x lo hi mx, type, pos, after, guard } tm hp k \/ D := by
 unfold Ymx at h
 split at h
 ·split at h
  ·have h1 := Ym ht h
   split at h1
   ·rename_i e sz by_ zs hs;obtain ⟨h2, h3⟩ := Ya h1;obtain ⟨l, h4, hl⟩ := Ycn h3;obtain ⟨hh, h5, hhi⟩ := Ycn h4;obtain ⟨h6, h7⟩ := h5;simp only [Bool.and_eq_true, decide_eq_true_eq] at h6;exact .inl ⟨_, _, _, _, h7, .nil _, Y8, Yu7 hs (Ye.1 h2) hx hl hhi h6.1 h6.2⟩
   ·exact h1.elim
  ·rename_i m
   split at h
   ·have h1 := Ym ht h
    split at h1
    ·rename_i e sz by_ zs hs;obtain ⟨h2, h3⟩ := Ya h1;obtain ⟨l, h4, hl⟩ := Ycn h3;obtain ⟨hh, h5, hhi⟩ := Ycn h4;obtain ⟨h6, h7⟩ := Ya h5;simp only [Bool.and_eq_true, Ye] at h6;obtain ⟨rfl, rfl⟩ := h6;cases hi with
     | none => exact absurd hl (by simp [BoundS])
     | some hi => exact .inl ⟨_, _, _, _, h7, .nil _, Y8, Yw0 hs hx hl hhi⟩
    ·exact h1.elim
   ·exact h.elim
 ·rename_i id;obtain ⟨it, hl, h0⟩ := Yg h
  split at h0
  ·split at h0
   ·have h1 := Ym ht h0
    split at h1
    ·rename_i e sz by_ zs hs;obtain ⟨h2, h3⟩ := Ya h1;simp only [Bool.and_eq_true, Nat.ble_eq, Ye] at h2;obtain ⟨l, h4, hlo⟩ := Ycn h3;obtain ⟨hh, h5, hhi⟩ := Ycn h4;obtain ⟨h6, h7⟩ := h5;simp only [Bool.and_eq_true, decide_eq_true_eq] at h6;exact .inl ⟨_, _, _, _, h7, .one hl, Y8, Yu6 hs h2.1 (by omega) hx hlo hhi h6.1 h6.2⟩
    ·exact h1.elim
   ·exact h0.elim
  ·exact .inr h0
 ·exact .inr h
theorem Y7 : ∀ {ts us : List Ty}, Ycd.sameTs ts us = true -> ts = us /\ ∀ k, ∀ ts', tyAt ts k ≠ .sl ts'
 | [], [], _ => ⟨rfl, fun k ts' h => by cases h⟩
 | t :: ts, u :: us, h => by
  unfold Ycd.sameTs at h
  split at h
  ·rename_i h1;obtain ⟨h2, h3⟩ := Y7 h;have e : t = u /\ ∀ ts', t ≠ .sl ts' := by
    cases t <;> cases u <;> simp_all [Ycd.sameTy]
   refine ⟨by rw [e.1, h2], fun k ts' => ?_⟩;cases k with
   | zero => exact e.2 ts'
   | succ k => exact h3 k ts'
  ·cases h
 | [], _ :: _, h => by simp [Ycd.sameTs] at h
 | _ :: _, [], h => by simp [Ycd.sameTs] at h
theorem Yh3 {ts : List Ty} {xs : Dt} (hts : 0 < ts.length) {j : Nat} {u : Value} (h : (Yt ts xs)[j]? = some u) : ∃ i k, i < xs.length /\ k < ts.length /\ j = i * ts.length + k /\ u = (tyAt ts k).val (cel xs i k) := by
 have hj : j < xs.length * ts.length := by rw [<- Y4]; exact (List.getElem?_eq_some_iff.1 h).1
 have hi : j / ts.length < xs.length := (Nat.div_lt_iff_lt_mul hts).2 hj;have hk : j % ts.length < ts.length := Nat.mod_lt _ hts;have e : j = j / ts.length * ts.length + j % ts.length := by rw [Nat.mul_comm]; exact (Nat.div_add_mod j ts.length).symm
 refine ⟨_, _, hi, hk, e, ?_⟩;rw [e, Yhj ts xs _ _ hi hk, List.getElem?_eq_getElem hk, Option.map_some, Option.some.injEq] at h;rw [<- h, Yev, List.getD_eq_getElem?_getD, List.getElem?_eq_getElem hk, Option.getD_some]
theorem RdV.scalar {t : Ty} {u : Value} {c : Cl} (h : RdV t u c) (ht : ∀ ts, t ≠ .sl ts) : u = t.val c := by
 cases t with
 | int k => exact h.isInt
 | bool => exact h.isBool
 | str => exact h.isStr
 | sl ts => exact absurd rfl (ht ts)
theorem srcRo {ts : List Ty} (hts : 0 < ts.length) (hsc : ∀ k ts', tyAt ts k ≠ .sl ts') (r : Ro ts) (hs : Heap) : Yk1 (.rs ts r) hs ts r.xs := fun φ w0 M R w hS => by
 obtain ⟨A, c, hv, _, _, u, h1, _⟩ := r.inv;refine ⟨A, c, hv, ?_⟩;rcases Nat.eq_zero_or_pos r.xs.length with h0 | h0
 ·exact .inl h0
 ·obtain ⟨b, off, rfl, hb, _⟩ := h1 (fun e => by rw [e] at h0; simp at h0);refine .inr ⟨b, off, rfl, fun j u hu => ?_⟩;obtain ⟨i, k, hi, hk, rfl, rfl⟩ := Yh3 hts hu;have h2 := r.cell hi hk;rw [<- (r.ok i k).scalar (hsc k)];have := Yuv hS h2.2 h2.1;rwa [hv] at this
theorem Ytr {ts : List Ty} (hts : 0 < ts.length) {T id n : Nat} {xs : Dt} {x : AV} (h : OwnSl T ts xs id n x) : Yk1 x [(id, .arr T ts xs)] ts (xs.take n) := fun φ w0 M R w hS => by
 have hS' : St w0 M ((It.arr T ts xs).conc φ id :: R) w := by simpa [Yc] using hS
 obtain ⟨hc, hn⟩ := h.conc hts hS';have hl : (xs.take n).length = n := by simp; omega
 refine ⟨_, _, by rw [hc, hl], ?_⟩;rcases Nat.eq_zero_or_pos n with h0 | h0
 ·exact .inl (by rw [hl, h0])
 ·rw [Yfu hts (by omega) hS'];refine .inr ⟨_, _, rfl, fun j u hu => ?_⟩;obtain ⟨i, k, hi, hk, rfl, rfl⟩ := Yh3 hts hu;rw [hl] at hi;have e : cel (xs.take n) i k = cel xs i k := by
   have : (xs.take n).getD i [] = xs.getD i [] := by simp only [List.getD_eq_getElem?_getD, List.getElem?_take, if_pos hi]
   unfold cel; rw [this]
  rw [Nat.zero_add, e, <- Ye1 φ];exact Y3 hS' (Yi3 (T := T) (by omega) hk φ)
theorem Yxl {ts : List Ty} (hts : 0 < ts.length) {T id l n : Nat} {xs : Dt} (hl : l + n <= xs.length) : Yk1 (.rwp id ts.length l n) [(id, .arr T ts xs)] ts ((xs.drop l).take n) := fun φ w0 M R w hS => by
 have hS' : St w0 M ((It.arr T ts xs).conc φ id :: R) w := by simpa [Yc] using hS
 have hlen : ((xs.drop l).take n).length = n := by simp; omega
 rcases Nat.eq_zero_or_pos n with h0 | h0
 ·refine ⟨_, _, by rw [hlen]; rfl, .inl (by rw [hlen, h0])⟩
 ·refine ⟨_, _, by rw [Yrg hts hS' hl h0, hlen], .inr ⟨_, _, rfl, fun j u hu => ?_⟩⟩;obtain ⟨i, k, hi, hk, rfl, rfl⟩ := Yh3 hts hu;rw [hlen] at hi;have e : cel ((xs.drop l).take n) i k = cel xs (l + i) k := by
   have : ((xs.drop l).take n).getD i [] = xs.getD (l + i) [] := by simp only [List.getD_eq_getElem?_getD, List.getElem?_take, if_pos hi, List.getElem?_drop]
   unfold cel; rw [this]
  rw [e, <- Ye1 φ, <- Nat.add_assoc, <- Nat.add_mul];exact Y3 hS' (Yi3 (T := T) (by omega) hk φ)
theorem Yp9 {x : AV} {hs : Heap} {ts : List Ty} (h : ∀ φ, ∃ A c, x.conc φ = .slice A 0 c) : Yk1 x hs ts [] := fun φ w0 M R w hS => by
 obtain ⟨A, c, e⟩ := h φ;exact ⟨A, c, e, .inl rfl⟩
theorem Yee {ts : List Ty} (hts : 0 < ts.length) {x : AV} {hp : Heap} {K : Heap -> Dt -> Prop} (h : Ycd ts x hp K) : ∃ hs ys, K hs ys /\ PartOf hs hp /\ Yk1 x hs ts ys := by
 unfold Ycd at h
 split at h
 ·rename_i A n c;obtain ⟨h1, h2⟩ := Ya h;obtain rfl := Ye.1 h1;exact ⟨_, _, h2, .nil _, Yp9 fun φ => ⟨_, _, rfl⟩⟩
 ·exact ⟨_, _, h, .nil _, Yp9 fun φ => ⟨_, _, rfl⟩⟩
 ·obtain ⟨h1, h2⟩ := Ya h;obtain ⟨rfl, h3⟩ := Y7 h1;exact ⟨_, _, h2, .nil _, srcRo hts h3 _ _⟩
 ·obtain ⟨it, hl, h0⟩ := Yg h
  split at h0
  ·rename_i xs;obtain ⟨h1, h2⟩ := Ya h0;obtain ⟨e, h3⟩ := Y7 h1;subst e;refine ⟨_, _, h2, .one hl, ?_⟩;have key : ∀ (T id : Nat) (ts : List Ty), 0 < ts.length -> Yk1 (.rw id) [(id, .arr T ts xs)] ts xs := fun T id ts hts => by
    have := Ytr hts (T := T) (id := id) (n := List.length xs) (xs := xs) (x := .rw id) (.inl ⟨rfl, rfl⟩);rwa [List.take_length] at this
   exact key _ _ _ hts
  ·exact h0.elim
 ·rename_i id off lo m;obtain ⟨it, hl, h0⟩ := Yg h
  split at h0
  ·split at h0
   ·rename_i hm;obtain rfl := Ye.1 hm;exact ⟨_, _, h0, .nil _, Yp9 fun φ => ⟨_, _, rfl⟩⟩
   ·obtain ⟨news, h1, h2, h3, h4⟩ := Yc6 h0;obtain ⟨ys, h5, h6, h7, _⟩ := Yc4 h1;refine ⟨_, _, h5, .one hl, fun φ w0 M R w hS => ?_⟩;have hS' := (by simpa [Yc] using hS : St w0 M ((It.row _ _ _ _).conc φ id :: R) w);have hnil := Ybh h2 φ id w0 M R w hS';refine ⟨_, _, by simp only [AV.conc, hnil, Bool.false_eq_true, if_false, h6]; rfl, .inr ⟨_, _, rfl, fun j u hu => ?_⟩⟩;exact Y3 hS' (h3 φ j u (by rw [h7 φ]; exact hu))
  ·obtain ⟨h1, h2⟩ := Ya h0;simp only [Bool.and_eq_true, Ye] at h1;obtain ⟨⟨h11, rfl⟩, rfl⟩ := h1;obtain ⟨rfl, h3⟩ := Y7 h11;obtain ⟨h4, h5⟩ := h2;exact ⟨_, _, h5, .one hl, Ytr hts (.inr ⟨rfl, of_decide_eq_true h4⟩)⟩
  ·exact h0.elim
 ·rename_i id sz' l m;obtain ⟨it, hl, h0⟩ := Yg h
  split at h0
  ·obtain ⟨h1, h2⟩ := Ya h0;simp only [Bool.and_eq_true, Ye] at h1;obtain ⟨h11, rfl⟩ := h1;obtain ⟨rfl, h3⟩ := Y7 h11;obtain ⟨h4, h5⟩ := h2;exact ⟨_, _, h5, .one hl, Yxl hts (of_decide_eq_true h4)⟩
  ·exact h0.elim
 ·exact h.elim
theorem Yh6 {id : Nat} {it : It} : ∀ {hs : Heap}, Ygq.disjB hs [(id, it)] = true -> id ∉ keys hs
 | [], _ => by simp [keys]
 | p :: hs, h => by
  unfold Ygq.disjB at h
  split at h
  ·rename_i h1;have h2 := Yh6 h;simp only [keys, List.map_cons, List.mem_cons, not_or];refine ⟨fun e => ?_, h2⟩;rw [Yr] at h1;simp [e] at h1
  ·cases h
theorem PartOf.cons {hs hp : Heap} {id : Nat} {it : It} (h : PartOf hs hp) (hl : look hp id = some it) (hn : id ∉ keys hs) : PartOf ((id, it) :: hs) hp :=
 ⟨by simp only [keys, List.map_cons, List.nodup_cons]; exact ⟨hn, h.nd⟩, fun p hp => by
  rcases List.mem_cons.1 hp with rfl | hp
  ·exact hl
  ·exact h.all p hp⟩
theorem Yg7 {n b : Nat} (h : n * b <= 140737488355328) (hb : 1 <= b) : n <= maxLen := by
 have : n * 1 <= n * b := Nat.mul_le_mul_left _ hb;unfold maxLen;omega
theorem Yk8 {c : Cx} (ht : TabOk c.P c.tt) {T : TypeId} {sv xv : AV} {s x : Operand} {hp : Heap} {k : KE} {id' : Nat} (hsv : At tm s sv) (hsj : sv.rd = true) (hx : At tm x xv) (hxj : xv.rd = true) (h : Ygq c T id' sv xv hp k) :
  Res1 c.P { dst, op := .call { callee := .builtin .append, args := #[s, x], argTypes := #[T, T] }, type, pos, after, guard } tm hp k := by
 have h1 := Ym ht h
 split at h1
 ·exact h1.elim
 ·rename_i e sz by_ zs hs;obtain ⟨h2, h3⟩ := Ya h1;simp only [Bool.and_eq_true, Nat.ble_eq] at h2;obtain ⟨⟨h21, h22⟩, h23⟩ := h2;have hz := Y5 h21
  split at h3
  ·obtain ⟨ts, h4, h5, _⟩ := Ygo h3;have hsz : sz = ts.length := by omega
   subst hsz;obtain ⟨hs', ys, h6, h7, h8⟩ := Yee h22 h4;obtain ⟨h9, h10⟩ := h6;have h9 := of_decide_eq_true h9;exact ⟨_, _, _, _, h10, h7, Y8, Yvi hs hz h22 hsv hx hxj h8 (Yg7 h9 h23) h9⟩
  ·rename_i ts' q;obtain ⟨ts, h4, h5, _⟩ := Ygo h3;have hsz : sz = ts.length := by omega
   subst hsz;obtain ⟨hs', ys, h6, h7, h8⟩ := Yee h22 h4;obtain ⟨h9, h10⟩ := h6;simp only [Bool.and_eq_true, decide_eq_true_eq] at h9;exact ⟨_, _, _, _, h10, h7, Y8, Yvg hs hz h22 hsv h9.1.1.1 h9.1.1.2 hx hxj h8 h9.1.2 (Yg7 h9.2 h23) h9.2⟩
  ·rename_i id;obtain ⟨it, hl, h4⟩ := Yg h3
   split at h4
   ·rename_i T' ts xs;obtain ⟨h5, h6⟩ := Ya h4;simp only [Bool.and_eq_true, Ye] at h5;obtain ⟨rfl, rfl⟩ := h5;obtain ⟨hs', ys, h7, h8, h9⟩ := Yee h22 h6;obtain ⟨h10, h11⟩ := Ya h7;obtain ⟨h12, h13⟩ := h11;have h12 := of_decide_eq_true h12;have hne := Yh6 h10;exact ⟨_, _, _, _, h13, h8.cons hl hne, fun i hi => by simp [keys] at hi ⊢; exact .inl hi, Yvj hs hz h22 hsv hx hxj h9 hne (Yg7 h12 h23) h12⟩
   ·exact h4.elim
  ·rename_i id off lo n;obtain ⟨it, hl, h4⟩ := Yg h3
   split at h4
   ·rename_i T' sz' n' cs;obtain ⟨h5, h6⟩ := Ya h4;simp only [Bool.and_eq_true, Ye] at h5;obtain ⟨⟨⟨⟨rfl, rfl⟩, rfl⟩, rfl⟩, rfl⟩ := h5;obtain ⟨ts, h7, h8, _⟩ := Ygo h6;have hsz : sz' = ts.length := by omega
    subst hsz;obtain ⟨xs, h9, h10, h11, _⟩ := Yc4 h7;obtain ⟨hs', ys, h12, h13, h14⟩ := Yee h22 h9;obtain ⟨h15, h16⟩ := Ya h12;obtain ⟨h17, h18⟩ := h16;have h17 := of_decide_eq_true h17;have hne := Yh6 h15;refine ⟨_, _, _, _, h18, h13.cons hl hne, fun i hi => by simp [keys] at hi ⊢; exact .inl hi, Yvh hs hz h22 hsv hsj (fun φ w0 M R w hS => ?_) hx hxj h14 hne (Yg7 h17 h23) h17⟩;simp only [It.conc, AV.conc, h11 φ, h10, Nat.sub_zero] at hS ⊢;exact hS
   ·exact h4.elim
  ·exact h3.elim
theorem Yp2 {p : AV} {x : Operand} {hp : Heap} {k : KE} {D : Prop} (hx : At tm x p) (hj : p.rd = true) (h : Ytl p k D) : Res1 P { dst, op := .nilCheck x, type, pos, after, guard } tm hp k \/ D := by
 unfold Ytl at h
 split at h
 ·refine .inl ⟨_, _, _, _, h, .nil _, Y8, Does.pure fun φ a ho w => ?_⟩;have e := ho x (by simp [Op.operands]) _ hx hj;simp only [AV.conc] at e;simp [execOp, e, AV.conc]
 ·refine .inl ⟨_, _, _, _, h, .nil _, Y8, Does.pure fun φ a ho w => ?_⟩;have e := ho x (by simp [Op.operands]) _ hx hj;simp only [AV.conc] at e;simp [execOp, e, AV.conc]
 ·exact .inr h
theorem Yk5 {c : Cx} (ht : TabOk c.P c.tt) {T : TypeId} {ok : Bool} {m i : AV} {x ix : Operand} {hp : Heap} {k : KE} {D : Prop} (hx : At tm x m) (hi : At tm ix i) (h : Yn4 c T ok m i hp k D) : Res1 c.P { dst, op := .lookup T x ix ok, type, pos, after, guard } tm hp k \/ D := .inr h
theorem Yk4 {c : Cx} (ht : TabOk c.P c.tt) {T : TypeId} {m i v : AV} {x ix y : Operand} {hp : Heap} {k : KE} {D : Prop} (hx : At tm x m) (hi : At tm ix i) (hy : At tm y v) (h : Yn1 c T m i v hp k D) : Res1 c.P { dst, op := .mapUpdate T x ix y, type, pos, after, guard } tm hp k \/ D := .inr h
theorem Ytw {d : Nat} {T e : TypeId} (hu : P.underlying T = some (.slice e)) (A : Option Addr) (n c : Nat) (w : World) : (Op.equalIn (d + 1) T (.slice A n c) (.slice none 0 0)).run P w = .ok A.isNone w := by
 cases A <;> simp [Op.equalIn, Sem.run_bind, run_underlying hu w]
theorem Yn9 {T : TypeId} (h : Yjj P T = true) : ∃ e, P.underlying T = some (.slice e) := by
 unfold Yjj at h
 split at h
 ·rename_i e he; exact ⟨e, he⟩
 ·cases h
def Ywq : Bool -> BinOp
 | true => .neq
 | false => .eql
theorem Ysj {T : TypeId} {neq : Bool} (h : Yjj P T = true) (x y : Operand) (A : Option Addr) (n c : Nat) : Yhs P (Ywq neq) T x y (.slice A n c) (.slice none 0 0) (.bool (match neq with | true => !A.isNone | false => A.isNone)) := fun w => by
 obtain ⟨e, hu⟩ := Yn9 h;have e1 : (Op.equal T (.slice A n c) (.slice none 0 0)).run P w = .ok A.isNone w := Ytw (d := 9999) hu A n c w;cases neq <;> simp [Ywq, eqGuard, binOp, e1, Sem.run_bind]
theorem Ynn {T T' : TypeId} {neq : Bool} {x y : Operand} {a : AV} {hs : Heap} {val : AV} (hT : Yjj P T = true) (hx : At tm x a) (ja : a.rd = true) (hy : At tm y (.v (.slice none 0 0)))
  (hv : ∀ (φ : Phi) (w0 : World) (M : List Nat) (R : RL) (w : World), St w0 M (Yc φ hs ++ R) w -> ∃ A n c, a.conc φ = .slice A n c /\ val.conc φ = .bool (match neq with | true => !A.isNone | false => A.isNone)) :
  Does P { dst, op := .binOp (Ywq neq) T x y T', type, pos, after, guard } tm hs val [] [] :=
 fun φ w0 M R ac w K Q ho _ hS kk => by
  obtain ⟨A, n, c, h1, h2⟩ := hv φ w0 M R w hS;have e1 := ho.ev (x := x) (by simp [Op.operands]) hx ja;have e2 := ho.ev (x := y) (by simp [Op.operands]) hy (by simp);rw [h1] at e1;have h4 := kk φ w (Agree.refl _ _) (by simpa [Yh] using hS);rw [h2] at h4;exact Yxj e1 e2 (Ysj hT x y A n c w) h4
theorem Yj1 {c : Cx} {T T' : TypeId} {neq : Bool} {a b : AV} {x y : Operand} {hp : Heap} {k : KE} {D : Prop} (hx : At tm x a) (ja : a.rd = true) (hy : At tm y b) (h : Yrp c neq T a b hp k D) :
  Res1 c.P { dst, op := .binOp (Ywq neq) T x y T', type, pos, after, guard } tm hp k \/ D := by
 unfold Yrp at h
 split at h
 ·split at h
  ·exact .inr h
  ·rename_i hT
   split at h
   ·rename_i id off lo n;obtain ⟨it, hl, h1⟩ := Yg h
    split at h1
    ·rename_i hlive;refine .inl ⟨_, _, _, _, h1, .one hl, Y8, Ynn hT hx ja hy fun φ w0 M R w hS => ?_⟩;have hn := Ybh hlive φ id w0 M R w hS;simp only [AV.conc, hn, Bool.false_eq_true, if_false];exact ⟨_, _, _, rfl, by cases neq <;> rfl⟩
    ·exact .inr h1
   ·rename_i ts r
    split at h
    ·refine .inl ⟨_, _, _, _, h, .nil _, Y8, Ynn hT hx ja hy fun φ w0 M R w hS => ?_⟩;obtain ⟨A, c, hv, _⟩ := r.inv;simp only [AV.conc, hv];exact ⟨_, _, _, rfl, by cases A <;> rfl⟩
    ·refine .inl ⟨_, _, _, _, h, .nil _, Y8, Ynn hT hx ja hy fun φ w0 M R w hS => ?_⟩;obtain ⟨A, c, hv, _⟩ := r.inv;simp only [AV.conc, hv];exact ⟨_, _, _, rfl, by cases A <;> rfl⟩
   ·rename_i id;obtain ⟨it, hl, h1⟩ := Yg h
    split at h1
    ·rename_i T2 ts xs;obtain ⟨h2, h3⟩ := Ya h1;obtain ⟨h4, h5⟩ := h3;refine .inl ⟨_, _, _, _, h5, .one hl, Y8, Ynn hT hx ja hy fun φ w0 M R w hS => ?_⟩;have hn := Yfu (Nat.le_of_ble_eq_true h2) (of_decide_eq_true h4) hS;simp only [AV.conc, hn, Bool.false_eq_true, if_false];exact ⟨_, _, _, rfl, by cases neq <;> rfl⟩
    ·exact .inr h1
   ·exact .inr h
 ·exact .inr h
theorem Yqo {c : Cx} {op : BinOp} {T T' : TypeId} {a b : AV} {x y : Operand} {hp : Heap} {k : KE} {D : Prop} (hx : At tm x a) (ja : a.rd = true) (hy : At tm y b) (h : Yud c op T a b hp k D) :
  Res1 c.P { dst, op := .binOp op T x y T', type, pos, after, guard } tm hp k \/ D := by
 unfold Yud at h
 split at h
 ·exact Yj1 (neq := false) hx ja hy h
 ·exact Yj1 (neq := true) hx ja hy h
 ·exact .inr h
theorem Yn3 {c : Cx} (ht : TabOk c.P c.tt) {T : TypeId} {xv yv : AV} {x y : Operand} {hp : Heap} {k : KE} {id : Nat} {D : Prop} (hx : At tm x xv) (hy : At tm y yv) (h : Ytm c T id xv yv k D) : Res1 c.P { dst, op := .makeSlice T x y, type, pos, after, guard } tm hp k \/ D := .inr h
end
theorem Res1.op {c : Cx} {o : Oper} {tm : List AV} {hp : Heap} {k kp : KE} (h : Res1 c.P o tm hp k) : OpRes c o tm hp k kp := .inl h
theorem Yi9 {c : Cx} {o : Oper} {tm : List AV} {hp : Heap} {k kp : KE} (hc : HandOk c) (h : Ysa c o tm hp k kp) : OpRes c o tm hp k kp := by
 have old : Yc1 c o tm hp k kp -> OpRes c o tm hp k kp := fun h => by rw [Yv2] at h; exact Yr9 hc h
 obtain ⟨dst, op, type, pos, after, guard⟩ := o;unfold Ysa at h
 split at h
 ·rename_i hop;dsimp only at hop; subst hop;obtain ⟨a, ja, hx, h1⟩ := Yf h;obtain ⟨b, jb, hy, h2⟩ := Yf h1;rcases Yp7 h2 _ _ with ⟨r, h3, h4⟩ | h3
  ·exact .pure h3 (d_bin hx hy ja jb h4)
  ·exact (Yqo hx ja hy h3).elim Res1.op old
 ·rename_i hop;dsimp only at hop; subst hop;obtain ⟨a, ja, hx, h1⟩ := Yf h;rcases Yse (P := c.P) h1 with ⟨r, h3, _, h4⟩ | h3
  ·exact .pure h3 (Yy3 hx ja h4)
  ·exact old h3
 ·rename_i hop;dsimp only at hop; subst hop;obtain ⟨a, ja, hx, h1⟩ := Yf h;rcases Yn6 h1 with ⟨r, h3, _, h4⟩ | h3
  ·refine .pure h3 (Does.pure fun φ ac ho w => ?_);have e := ho _ (by simp [Op.operands]) _ hx ja;unfold execOp;simp only [e, Sem.run_bind, h4 φ w, Result.andThen_ok, Sem.run_pure]
  ·exact old h3
 ·rename_i hop;dsimp only at hop; subst hop;rcases Yn2 (P := c.P) h with ⟨r, h3, h4⟩ | h3
  ·exact .pure h3 h4
  ·exact old h3
 ·rename_i hop;dsimp only at hop; subst hop;obtain ⟨a, ja, hx, h1⟩ := Yf h;obtain ⟨b, jb, hy, h2⟩ := Yf h1;exact (Yp5 hc.tab hx hy h2).elim Res1.op old
 ·rename_i hop;dsimp only at hop; subst hop;obtain ⟨a, ja, hx, h1⟩ := Yf h;obtain ⟨b, jb, hy, h2⟩ := Yf h1;exact (Yk6 hc.tab hx hy h2).elim Res1.op old
 ·rename_i hop;dsimp only at hop; subst hop;obtain ⟨a, ja, hx, h1⟩ := Yf h;exact (Yk7 hx h1).elim Res1.op old
 ·rename_i hop;dsimp only at hop; subst hop;obtain ⟨a, ja, hx, h1⟩ := Yf h;exact (Yn5 hc.tab hx h1).elim Res1.op old
 ·rename_i hop;dsimp only at hop; subst hop;obtain ⟨a, ja, hx, h1⟩ := Yf h;obtain ⟨b, jb, hy, h2⟩ := Yf h1;exact (Ymu hc.tab hx hy jb h2).elim Res1.op old
 ·rename_i hop;dsimp only at hop; subst hop;obtain ⟨a, ja, hx, h1⟩ := Yf h;exact (Ymy hc.tab hx h1).elim Res1.op old
 ·rename_i hop;dsimp only at hop; subst hop;obtain ⟨a, ja, hx, h1⟩ := Yf h;exact (Ymw hc.tab hx h1).elim Res1.op old
 ·rename_i hop;dsimp only at hop; subst hop;obtain ⟨a, ja, hx, h1⟩ := Yf h;obtain ⟨b, jb, hy, h2⟩ := Yf h1;exact (Yn3 hc.tab hx hy h2).elim Res1.op old
 ·rename_i hop;dsimp only at hop; subst hop;obtain ⟨m, jm, hx, h1⟩ := Yf h;exact (Yp2 hx jm h1).elim Res1.op old
 ·rename_i hop;dsimp only at hop; subst hop;obtain ⟨m, jm, hx, h1⟩ := Yf h;obtain ⟨i, ji, hi, h2⟩ := Yf h1;exact (Yk5 hc.tab hx hi h2).elim Res1.op old
 ·rename_i hop;dsimp only at hop; subst hop;obtain ⟨m, jm, hx, h1⟩ := Yf h;obtain ⟨i, ji, hi, h2⟩ := Yf h1;obtain ⟨v, jv, hy, h3⟩ := Yf h2;exact (Yk4 hc.tab hx hi hy h3).elim Res1.op old
 ·rename_i cl hop;dsimp only at hop; subst hop;obtain ⟨callee, ⟨args⟩, tys⟩ := cl;dsimp only at h
  split at h
  ·split at h
   ·rename_i x;obtain ⟨v, jv, hx, h1⟩ := Yf h;exact (Yp4 hc.tab hx jv h1).elim Res1.op old
   ·rename_i x y;obtain ⟨a, ja, hx, h1⟩ := Yf h;obtain ⟨b, jb, hy, h2⟩ := Yf h1;rcases Yli (P := c.P) (mx := false) hx ja hy jb tys h2 with ⟨r, h3, h4⟩ | h3
    ·exact .pure h3 h4
    ·exact old h3
   ·rename_i x y;obtain ⟨a, ja, hx, h1⟩ := Yf h;obtain ⟨b, jb, hy, h2⟩ := Yf h1;rcases Yli (P := c.P) (mx := true) hx ja hy jb tys h2 with ⟨r, h3, h4⟩ | h3
    ·exact .pure h3 h4
    ·exact old h3
   ·rename_i s x;obtain ⟨a, ja, hx, h1⟩ := Yf h;obtain ⟨b, jb, hy, h2⟩ := Yf h1
    split at h2
    ·obtain ⟨tys⟩ := tys;dsimp only at h2
     split at h2
     ·obtain ⟨h3, h4⟩ := Ya h2;obtain rfl := Ye.1 h3;exact Res1.op (Yk8 hc.tab hx ja hy jb h4)
     ·exact h2.elim
    ·exact old h2
   ·exact old h
  ·exact old h
 ·exact old h
end Go.Proofs.Ytmogofidmchdoaa
namespace Go.Proofs.Ytmogofidmchdoaa
open Go.RowKit
variable [InW]
attribute [local irreducible] Go.Oper.wp
def wF (r : Option Nat) : Fence := { Fence.wide with round := r }
theorem Ytd {r : Option Nat} {n : Nat} {P : Program} {f : FuncId} {args : Array Value} {w : World} {R : Ending -> World -> Prop} : CallsIn (wF r) n P f args w R ↔ Calls P f args w R := callsIn_wide (n := n)
theorem Yty {r : Option Nat} {n : Nat} {P : Program} {row : String} {args : Array Value} {w : World} {R : Value -> World -> Prop} (h : Rows P row args w R) : RowsIn (wF r) n P row args w R := fun c cs _ =>
 let ⟨v, w', h1, h2⟩ := h c cs; ⟨v, w', h1, stepsIn_wide.2 h2⟩
theorem Ymq {r : Option Nat} {n : Nat} : (wF r).depth.isSome = true -> 1 <= n := fun h => by simp [wF, Fence.wide] at h
def opW (P : Program) (o : Oper) (a : Act) (w : World) (K : Act -> World -> Prop) (Q : Exit -> Act -> World -> Prop) : Prop := ∀ r, o.wpIn (wF r) 0 P a w K Q
theorem Yxq {P : Program} {o : Oper} {a : Act} {w : World} {K : Act -> World -> Prop} {Q : Exit -> Act -> World -> Prop} (hd : ∀ c, o.op ≠ .defer c) (h : o.wp P a w K Q) : opW P o a w K Q := fun r => by
 refine ⟨fun _ _ => trivial, ?_⟩;rw [Oper.semAt_eq _ _ _ hd];unfold Oper.wp at h;generalize (execOp a.eval o).run P w = x at h;cases x with
 | ok x w' =>
  cases x <;> simp only [Oper.upon, Oper.uponIn] at h ⊢
  case value v => exact h
  case skip => exact h
  case defer d => exact h
  case enter f args => exact ⟨Ymq, Ytd.2 h⟩
  case row row args => exact ⟨Ymq, Yty h⟩
 | halt x w' => cases x <;> simp only [Oper.upon, Oper.uponIn] at h ⊢; exact h
def DoesW (P : Program) (o : Oper) (tm : List AV) (hs : Heap) (val : AV) (us nw : Heap) : Prop :=
 ∀ (φ : Phi) (w0 : World) (M : List Nat) (R : RL) (a : Act) (w : World) (K : Act -> World -> Prop) (Q : Exit -> Act -> World -> Prop),
  OpsAt φ tm a o.op -> NewFor (keys nw) tm hs -> St w0 M (Yc φ hs ++ R) w ->
  (∀ φ' w', Agree (keys nw) φ φ' -> St w0 M (Yc φ' (Yh hs us ++ nw) ++ R) w' -> K (a.put o.dst (val.conc φ')) w') -> opW P o a w K Q
def DoesPW (P : Program) (o : Oper) (tm : List AV) (hs : Heap) (val : AV) (us nw : Heap) : Prop :=
 ∀ (φ : Phi) (w0 : World) (M : List Nat) (R : RL) (a : Act) (w : World) (K : Act -> World -> Prop) (Q : Exit -> Act -> World -> Prop),
  OpsAt φ tm a o.op -> NewFor (keys nw) tm hs -> St w0 M (Yc φ hs ++ R) w ->
  (∀ φ' w', Agree (keys nw) φ φ' -> St w0 M (Yc φ' (Yh hs us ++ nw) ++ R) w' -> Q (.panic [{ v := val.conc φ', recovered := false }]) a w') -> opW P o a w K Q
theorem Does.toW {P : Program} {o : Oper} {tm : List AV} {hs us nw : Heap} {val : AV} (hd : ∀ c, o.op ≠ .defer c) (h : Does P o tm hs val us nw) : DoesW P o tm hs val us nw :=
 fun φ w0 M R a w K Q h1 h2 h3 h4 => Yxq hd (h φ w0 M R a w K Q h1 h2 h3 h4)
theorem DoesP.toW {P : Program} {o : Oper} {tm : List AV} {hs us nw : Heap} {val : AV} (hd : ∀ c, o.op ≠ .defer c) (h : DoesP P o tm hs val us nw) : DoesPW P o tm hs val us nw :=
 fun φ w0 M R a w K Q h1 h2 h3 h4 => Yxq hd (h φ w0 M R a w K Q h1 h2 h3 h4)
theorem Yki {P : Program} {o : Oper} {tm : List AV} {hp hs us nw : Heap} {val : AV} (hd : DoesW P o tm hs val us nw) (hpart : PartOf hs hp) (hu : ∀ i ∈ keys us, i ∈ keys hs) (hB : NewFor (keys nw) tm hp /\ (keys nw).Nodup /\ ∀ i ∈ keys nw, i % 3 ≠ 1)
  {φ0 φ : Phi} {w0 : World} {M : List Nat} {R : RL} {a : Act} {w : World} (h : RepS φ0 φ w0 M R tm hp a w) {K : Act -> World -> Prop} {Q : Exit -> Act -> World -> Prop}
  (kk : ∀ φ' w', RepS φ0 φ' w0 M R (putA tm o.dst val) (Y6 (Yh hp us) nw) (a.put o.dst (val.conc φ')) w' -> K (a.put o.dst (val.conc φ')) w') : opW P o a w K Q := by
 have hB' := hB;obtain ⟨b1, b2, b3⟩ := hB;have hS : St w0 M (Yc φ hs ++ (Yc φ (Ybs hs hp) ++ R)) w := by
  have := h.st.perm ((Yu (hpart.perm h.nd)).append (List.Perm.refl R));rwa [Yn, List.append_assoc] at this
 refine hd φ w0 M _ a w K Q (h.tmps.ops _) (fun i hi => ⟨(b1 i hi).1, Ydy fun p hp' => ?_⟩) hS fun φ' w' hag hS' => kk φ' w' (h.new_heap hpart hu hB' hag hS' _ _);exact Yp (b1 i hi).2 (Yy (hpart.all p hp'))
theorem Yun {h : Heap} {i : Nat} (hm : i ∈ keys h) : ∃ x, look h i = some x := by
 induction h with
 | nil => simp [keys] at hm
 | cons p h ih =>
  rw [Yr]
  split
  ·exact ⟨_, rfl⟩
  ·rename_i hne;simp only [keys, List.map_cons, List.mem_cons] at hm;rcases hm with e | hm
   ·exact absurd e.symm hne
   ·exact ih hm
def Yr8 (P : Program) (L : LI) (i : Nat) (args : List AV) (hs : Heap) (val : AV) (us nw : Heap) : Prop :=
 ∀ (φ : Phi) (w0 : World) (M : List Nat) (R : RL) (w : World), NewFor (keys nw) args hs -> St w0 M (Yc φ hs ++ R) w ->
  RoundIn Fence.wide 0 P (φ i).b (φ i).fn (AV.concL φ args).toArray L.assign L.body w fun e w' => ∃ φ', Agree (keys nw) φ φ' /\ e = .returned (val.conc φ') /\ St w0 M (Yc φ' (Yh hs us ++ nw) ++ R) w'
structure HandOkR (c : Cx) : Prop extends HandOk c where
 round : ∀ L i args hp d k, c.roundH L i args hp d k -> ∃ val hs us nw, k val hs us nw /\ PartOf hs hp /\ (∀ i ∈ keys us, i ∈ keys hs) /\ i ∈ keys hs /\ Yr8 c.P L i args hs val us nw
def Yxy (o : Oper) : Option (Operand × List Operand) := match o.op with | .call { callee := .value f, args := ⟨l⟩, .. } => some (f, l) | _ => none
def Yxv (o : Oper) : Bool := match o.op with | .defer _ => true | _ => false
def Yd4 (cs : List AV) : List (Nat × AV) -> List AV
 | [] => cs
 | p :: ps => Yd4 (cs.set p.1 p.2) ps
def lpK (it : It) (K : LI -> List AV -> Prop) : Prop := match it with | .lp L (d :: cs) => K L cs | _ => Stuck 90
def ylK (fv : AV) (K : Nat -> Prop) (K' : Prop) : Prop := match fv with | .yl i => K i | _ => K'
def Yv1 (c : Cx) (o : Oper) (tm : List AV) (hp : Heap) (k kp : KE) : Prop :=
 match Yxy o with
 | none => (match Yxv o with | true => Stuck 92 | false => Ysa c o tm hp k kp)
 | some (f, args) => evK tm f fun fv => ylK fv (fun i => evsK tm args fun vs => Y9 hp i fun it => lpK it fun L cs => Yb (Nat.beq vs.length L.ps.size) (c.roundH L i (Yd4 cs (L.ps.toList.zip vs)) hp (o.dst.getD 0) k)) (Ysa c o tm hp k kp)
theorem Yvl (φ : Phi) (cs : List AV) (n : Nat) (v : AV) : AV.concL φ (cs.set n v) = (AV.concL φ cs).set n (v.conc φ) := by rw [Yz, Yz, List.map_set]
theorem Yjk (φ : Phi) : ∀ (ps : List Nat) (vs cs : List AV), (AV.concL φ (Yd4 cs (ps.zip vs))).toArray = (ps.zip (AV.concL φ vs)).foldl (fun (t : Array Value) (p : Nat × Value) => t.setIfInBounds p.1 p.2) (AV.concL φ cs).toArray
 | [], vs, cs => by simp [Yd4]
 | _ :: _, [], cs => by simp [Yd4, AV.concL]
 | p :: ps, v :: vs, cs => by
  simp only [List.zip_cons_cons, Yd4, AV.concL, List.foldl_cons];rw [Yjk φ ps vs, Yvl];simp
theorem Ylo {i : Nat} : ∀ (ps : List Nat) (vs cs : List AV), AV.hasL i vs = false -> AV.hasL i cs = false -> AV.hasL i (Yd4 cs (ps.zip vs)) = false
 | [], vs, cs, _, h => by simpa [Yd4] using h
 | _ :: _, [], cs, _, h => by simpa [Yd4] using h
 | p :: ps, v :: vs, cs, h1, h2 => by
  simp only [AV.hasL, Bool.or_eq_false_iff] at h1;simp only [List.zip_cons_cons, Yd4];refine Ylo ps vs _ h1.2 ?_;rw [Yj, List.any_eq_false] at h2 ⊢;intro x hx;rcases List.mem_or_eq_of_mem_set hx with h | rfl
  ·exact h2 x h
  ·simpa using h1.1
section
variable {P : Program} {tm : List AV} {dst : Option Tmp} {type : TypeId} {pos : String} {after : Array Edge} {guard : Option (Nat × Bool)}
theorem Yym {f : Operand} {args : List Operand} {tys : Array TypeId} {i : Nat} {L : LI} {x : AV} {cs vs : List AV} {hs : Heap} {val : AV} {us nw : Heap} (hf : At tm f (.yl i)) (ha : Ats tm args vs) (hl : look hs i = some (.lp L (x :: cs))) (hn : vs.length = L.ps.size)
  (hc : Yr8 P L i (Yd4 cs (L.ps.toList.zip vs)) hs val us nw) :
  DoesW P { dst, op := .call { callee := .value f, args := args.toArray, argTypes := tys }, type, pos, after, guard } tm hs val us nw :=
 fun φ w0 M R a w K Q ho hnew hS kk r => by
  have e1 := ho f (by simp [Op.operands, Call.operands]) _ hf (by simp);have e2 := ha.eval (φ := φ) (a := a) fun x hx v hv hj => ho x (by simp [Op.operands, Call.operands, hx]) v hv hj;refine ⟨fun _ _ => trivial, ?_⟩;rw [Oper.semAt_eq _ _ _ (fun c => by simp)];have hb : w.heap[(φ i).b]? = some (L.obj (φ i).fn (AV.concL φ (x :: cs))) := by
   have hm : Res.blk (φ i).b (L.obj (φ i).fn (AV.concL φ (x :: cs))) ∈ Yc φ hs ++ R := List.mem_append_left _ (List.mem_map.2 ⟨_, Yy hl, rfl⟩);exact hS.has _ hm
  have hl2 : (AV.concL φ vs).length = L.ps.size := by rw [Yd, hn]
  have hy := run_yield (P := P) (args := (AV.concL φ vs).toArray) hb (by simpa using hl2);have e3 : (args.toArray).map a.eval = (AV.concL φ vs).toArray := by rw [<- e2]; simp
  have hrun : (execOp a.eval { dst, op := .call { callee := .value f, args := args.toArray, argTypes := tys }, type, pos, after, guard }).run P w = .ok (.round (φ i).b (φ i).fn (AV.concL φ (Yd4 cs (L.ps.toList.zip vs))).toArray L.assign L.body) w := by
   simp only [execOp, resolve, e1, AV.conc, Deferred.ofValue, Sem.run_bind, Sem.run_pure, Result.andThen_ok, invoke, e3, Array.empty_append, Array.append_empty, hy]
   congr 2
   rw [Yjk, <- Array.foldl_toList];simp [AV.concL, Array.toList_zip]
  rw [hrun];refine ⟨Ymq, ?_⟩;have hnw : NewFor (keys nw) (Yd4 cs (L.ps.toList.zip vs)) hs := fun j hj => by
   obtain ⟨h1, h2⟩ := hnew j hj;have h3 : AV.hasL j (x :: cs) = false := (Yp h2 (Yy hl)).2;simp only [AV.hasL, Bool.or_eq_false_iff] at h3;exact ⟨Ylo _ _ _ (ha.new h1) h3.2, h2⟩
  refine RoundIn.mono (hc φ w0 M R w hnw hS) fun e w' ⟨φ', hag, he, hS'⟩ => ?_;subst he;exact kk φ' w' hag hS'
end
def Yx0 (c : Cx) (o : Oper) (tm : List AV) (hp : Heap) (k kp : KE) : Prop :=
 (∃ val hs us nw, k val hs us nw /\ PartOf hs hp /\ (∀ i ∈ keys us, i ∈ keys hs) /\ DoesW c.P o tm hs val us nw) \/
 (∃ val hs us nw, kp val hs us nw /\ PartOf hs hp /\ (∀ i ∈ keys us, i ∈ keys hs) /\ DoesPW c.P o tm hs val us nw)
theorem Yi8 {c : Cx} {o : Oper} {tm : List AV} {hp : Heap} {k kp : KE} (hc : HandOkR c) (h : Yv1 c o tm hp k kp) : Yx0 c o tm hp k kp := by
 have plain : (∀ c, o.op ≠ .defer c) -> Ysa c o tm hp k kp -> Yx0 c o tm hp k kp := fun hd h => by
  rcases Yi9 hc.toHandOk h with ⟨val, hs, us, nw, h1, h2, h3, h4⟩ | ⟨val, hs, us, nw, h1, h2, h3, h4⟩
  ·exact .inl ⟨val, hs, us, nw, h1, h2, h3, h4.toW hd⟩
  ·exact .inr ⟨val, hs, us, nw, h1, h2, h3, h4.toW hd⟩
 unfold Yv1 at h
 split at h
 ·split at h
  ·exact h.elim
  ·rename_i hb;exact plain (fun c hc => by simp [Yxv, hc] at hb) h
 ·rename_i f args hcall;obtain ⟨dst, op, type, pos, after, guard⟩ := o;unfold Yxy at hcall
  split at hcall
  ·rename_i f' l tys hop;simp only [Option.some.injEq, Prod.mk.injEq] at hcall;obtain ⟨rfl, rfl⟩ := hcall;dsimp only at hop;subst hop;obtain ⟨fv, hj, hf, h1⟩ := Yf h;unfold ylK at h1
   split at h1
   ·rename_i i;obtain ⟨vs, h2, h3⟩ := Yff h1;obtain ⟨it, h4, h5⟩ := Yg h3;unfold lpK at h5
    split at h5
    ·rename_i L d cs;obtain ⟨h6, h7⟩ := Ya h5;obtain ⟨val, hs, us, nw, a1, a2, a3, a4, a5⟩ := hc.round _ _ _ _ _ _ h7;obtain ⟨it', hit⟩ := Yun a4;have : it' = .lp L (d :: cs) := by
      have := a2.all _ (Yy hit);rw [h4] at this;exact (Option.some.inj this).symm
     subst this;exact .inl ⟨val, hs, us, nw, a1, a2, a3, Yym hf h2 hit (Ye.1 h6) a5⟩
    ·exact h5.elim
   ·exact plain (fun c => by simp) h1
  ·cases hcall
end Go.Proofs.Ytmogofidmchdoaa
namespace Go.Proofs.Ytmogofidmchdoaa
open Go.RowKit
variable [InW]
attribute [local irreducible] Go.Oper.wp
def Yo7 (ol : List Oper) (o : Oper) (tm : List AV) (run skip : Prop) : Prop :=
 match o.guard with
 | none => run
 | some (j, want) => match Ynj ol j with
  | none => Stuck 42
  | some d => getK tm d fun v => match v with
   | .v (.bool b) => (match want with | true => vcIf b run skip | false => vcIf b skip run)
   | .sb b => (match want with | true => Vif b run skip | false => Vif b skip run)
   | .v (.tuple _) => skip
   | _ => Stuck 43
theorem Yqn {φ : Phi} {tm : List AV} {a : Act} (h : RepT φ tm a) {d : Nat} {v : AV} (hv : tm[d]? = some v) (hj : v.rd = true) : nthO a.tmps.toList d = some (v.conc φ) := by
 rw [Ye4];have := h.slot d v hv hj;simp [List.getD_eq_getElem?_getD, this]
def WantA (ol : List Oper) (o : Oper) (tm : List AV) (b : Bool) : Prop := ∀ (φ : Phi) (a : Act), (∀ t ∈ o.looksAt ol.toArray, ∀ v : AV, tm[t]? = some v -> v.rd = true -> nthO a.tmps.toList t = some (v.conc φ)) -> Region.wanted o (yielded ol.toArray a.tmps) = b
theorem Yek {ol : List Oper} {o : Oper} {j d : Nat} {b : Bool} (hg : o.guard = some (j, b)) (hd : Ynj ol j = some d) : d ∈ o.looksAt ol.toArray := by
 rw [Yr2] at hd;simp [Oper.looksAt, hg, hd]
theorem Ygi {ol : List Oper} {o : Oper} {tm : List AV} {run skip : Prop} (h : Yo7 ol o tm run skip) : (WantA ol o tm true /\ run) \/ (WantA ol o tm false /\ skip) := by
 obtain ⟨dst, op, type, pos, after, guard⟩ := o;unfold Yo7 at h;cases guard with
 | none => exact .inl ⟨fun φ a _ => rfl, h⟩
 | some jw =>
  obtain ⟨j, want⟩ := jw;dsimp only at h
  split at h
  ·exact h.elim
  ·rename_i d hd;obtain ⟨v, hv, h1⟩ := Ybj h
   split at h1
   ·rename_i b;have key : ∀ r, (b == want) = r -> WantA ol { dst, op, type, pos, after, guard := some (j, want) } tm r := fun r hr φ a hs =>
     Ynv hd (hs d (Yek rfl hd) _ hv (by simp)) hr
    cases want with
    | true =>
     rcases Yes h1 with ⟨rfl, h2⟩ | ⟨rfl, h2⟩
     ·exact .inl ⟨key true rfl, h2⟩
     ·exact .inr ⟨key false rfl, h2⟩
    | false =>
     rcases Yes h1 with ⟨rfl, h2⟩ | ⟨rfl, h2⟩
     ·exact .inr ⟨key false rfl, h2⟩
     ·exact .inl ⟨key true rfl, h2⟩
   ·rename_i b;have key : ∀ r, (b == want) = r -> WantA ol { dst, op, type, pos, after, guard := some (j, want) } tm r := fun r hr φ a hs =>
     Ynv hd (hs d (Yek rfl hd) _ hv (by simp)) hr
    cases want with
    | true =>
     rcases Vif.spec h1 with ⟨rfl, h2⟩ | ⟨rfl, h2⟩
     ·exact .inl ⟨key true rfl, h2⟩
     ·exact .inr ⟨key false rfl, h2⟩
    | false =>
     rcases Vif.spec h1 with ⟨rfl, h2⟩ | ⟨rfl, h2⟩
     ·exact .inr ⟨key false rfl, h2⟩
     ·exact .inl ⟨key true rfl, h2⟩
   ·exact .inr ⟨fun φ a hs => Ypz hd (hs d (Yek rfl hd) _ hv (by simp)), h1⟩
   ·exact h1.elim
theorem WantA.at {ol : List Oper} {o : Oper} {tm : List AV} {b : Bool} (h : WantA ol o tm b) {φ : Phi} {a : Act} (hr : RepT φ tm a) : Region.wanted o (yielded ol.toArray a.tmps) = b :=
 h φ a fun t _ v hv hj => Yqn hr hv hj
def Yeq (F : Fence) (P : Program) (ops : Array Oper) (Q : Exit -> Act -> World -> Prop) : List Oper -> Act -> World -> Prop
 | [], a, w => Q .normal a w
 | o :: rest, a, w => if Region.wanted o (yielded ops a.tmps) then o.wpIn F 0 P a w (Yeq F P ops Q rest) Q else Yeq F P ops Q rest (a.put o.dst undef) w
theorem Yi5 {F : Fence} (hF : ∀ f, F.fn f) {P : Program} {ops : Array Oper} {Q : Exit -> Act -> World -> Prop} : ∀ (l : List Oper) (k : Nat) (a : Act) (w : World), (∀ j, l[j]? = ops[k + j]?) -> Yeq F P ops Q l a w -> wpOpsIn F 0 P ops Q (List.range' k l.length) a w
 | [], k, a, w, _, h => h
 | o :: rest, k, a, w, hl, h => by
  have ho : ops[k]? = some o := by have := hl 0; simpa using this.symm
  have hl' : ∀ j, rest[j]? = ops[k + 1 + j]? := fun j => by have := hl (j + 1); rw [show k + 1 + j = k + (j + 1) by omega, <- this]; simp
  simp only [List.length_cons, List.range'_succ, wpOpsIn, ho];unfold Yeq at h
  split
  ·rename_i hw;rw [if_pos hw] at h;exact Oper.wpIn_mono (fun a w h => Yi5 hF rest (k + 1) a w hl' h) h
  ·rename_i hw;rw [if_neg hw] at h;exact ⟨fun f _ => hF f, Yi5 hF rest (k + 1) _ w hl' h⟩
theorem Yi6 {F : Fence} (hF : ∀ f, F.fn f) {P : Program} {id : Nat} {l : List Oper} {Q : Exit -> Act -> World -> Prop} {a : Act} {w : World} (h : Yeq F P l.toArray Q l a w) : (Code.region id l.toArray false).wpIn F 0 P Q a w :=
 wpIn_region (by
  have := Yi5 hF l 0 a w (fun j => by simp) h;rw [List.range_eq_range'];simpa using this)
def Ynh (ol : List Oper) (d : Option Tmp) : List Oper -> Bool
 | [] => false
 | p :: ps => match p.guard with
  | none => Ynh ol d ps
  | some (j, _) => match Ynj ol j, d with
   | some e, some d' => (match Nat.beq d' e with | true => true | false => Ynh ol d ps)
   | _, _ => Ynh ol d ps
def Yn8 (ol : List Oper) (o : Oper) (val : AV) (K : AV -> Prop) : Prop :=
 match val with
 | .sb b => (match Ynh ol o.dst ol with | true => Vif b (K (.v (.bool true))) (K (.v (.bool false))) | false => K (.sb b))
 | v => K v
theorem Yf9 {ol : List Oper} {o : Oper} {val : AV} {K : AV -> Prop} (h : Yn8 ol o val K) : ∃ val', K val' /\ ∀ φ, val'.conc φ = val.conc φ := by
 unfold Yn8 at h
 split at h
 ·split at h
  ·rcases h.spec with ⟨rfl, h2⟩ | ⟨rfl, h2⟩
   ·exact ⟨_, h2, fun φ => rfl⟩
   ·exact ⟨_, h2, fun φ => rfl⟩
  ·exact ⟨_, h, fun φ => rfl⟩
 ·exact ⟨_, h, fun φ => rfl⟩
theorem DoesW.same {P : Program} {o : Oper} {tm : List AV} {hs us nw : Heap} {val val' : AV} (h : DoesW P o tm hs val us nw) (he : ∀ φ, val'.conc φ = val.conc φ) : DoesW P o tm hs val' us nw :=
 fun φ w0 M R a w K Q h1 h2 h3 kk => h φ w0 M R a w K Q h1 h2 h3 fun φ' w' h4 h5 => by rw [<- he φ']; exact kk φ' w' h4 h5
theorem Does.same {P : Program} {o : Oper} {tm : List AV} {hs us nw : Heap} {val val' : AV} (h : Does P o tm hs val us nw) (he : ∀ φ, val'.conc φ = val.conc φ) : Does P o tm hs val' us nw :=
 fun φ w0 M R a w K Q h1 h2 h3 kk => h φ w0 M R a w K Q h1 h2 h3 fun φ' w' h4 h5 => by rw [<- he φ']; exact kk φ' w' h4 h5
def Yv0 (c : Cx) (ol : List Oper) : List Oper -> List AV -> Heap -> KX -> Prop
 | [], tm, hp, K => K .norm tm hp
 | o :: rest, tm, hp, K => Yo7 ol o tm
   (Yv1 c o tm hp (fun val hs us nw => Yn8 ol o val fun val => Ypr o.dst tm hp val us nw fun tm hp => Yv0 c ol rest tm hp K) (fun val hs us nw => Ypr none tm hp val us nw fun tm hp => K (.pan val) tm hp))
   (putK tm o.dst (.v undef) fun tm => Yv0 c ol rest tm hp K)
def Big (W : (Exit -> Act -> World -> Prop) -> Act -> World -> Prop) (tm : List AV) (hp : Heap) (x : AX) (tm' : List AV) (hp' : Heap) : Prop :=
 ∀ (φ0 φ : Phi) (w0 : World) (M : List Nat) (R : RL) (a : Act) (w : World), RepS φ0 φ w0 M R tm hp a w -> ∀ Q : Exit -> Act -> World -> Prop,
  (∀ φ' e a' w', x.is φ' e -> RepS φ0 φ' w0 M R tm' hp' a' w' -> a'.defers = a.defers -> Q e a' w') -> W Q a w
theorem RepS.skip {φ0 φ : Phi} {w0 : World} {M : List Nat} {R : RL} {tm : List AV} {hp : Heap} {a : Act} {w : World} (h : RepS φ0 φ w0 M R tm hp a w) (dst : Option Tmp) : RepS φ0 φ w0 M R (putA tm dst (.v undef)) hp (a.put dst undef) w :=
 ⟨h.tmps.put dst (.v undef), h.st, h.nd, h.base⟩
theorem Yeg (a : Act) (dst : Option Tmp) (v : Value) : (a.put dst v).defers = a.defers := by cases dst <;> rfl
section
variable {c : Cx} {ol : List Oper}
theorem Yf8 (hc : HandOkR c) : ∀ (l : List Oper) (tm : List AV) (hp : Heap) (K : KX), Yv0 c ol l tm hp K ->
  ∃ x tm' hp', K x tm' hp' /\ Big (fun Q a w => ∀ r, Yeq (wF r) c.P ol.toArray Q l a w) tm hp x tm' hp'
 | [], tm, hp, K, h => ⟨.norm, tm, hp, h, fun φ0 φ w0 M R a w hr Q kk r => kk φ .normal a w rfl hr rfl⟩
 | o :: rest, tm, hp, K, h => by
  rcases Ygi h with ⟨hw, h1⟩ | ⟨hw, h1⟩
  ·rcases Yi8 hc h1 with ⟨val, hs, us, nw, h2, hpart, hu, hd⟩ | ⟨val, hs, us, nw, h2, hpart, hu, hd⟩
   ·obtain ⟨val', h2, he⟩ := Yf9 h2
    replace hd := hd.same he
    obtain ⟨hB, h3⟩ := Yep h2;obtain ⟨x, tm', hp', h4, h5⟩ := Yf8 hc rest _ _ K h3;refine ⟨x, tm', hp', h4, fun φ0 φ w0 M R a w hr Q kk => ?_⟩;intro r; show Yeq (wF r) c.P ol.toArray Q (o :: rest) a w
    unfold Yeq;rw [hw.at hr.tmps];simp only [if_true];exact Yki hd hpart hu hB hr (fun φ' w' hr' => h5 φ0 φ' w0 M R _ w' hr' Q (fun φ2 e a' w2 hx hr2 hdf => kk φ2 e a' w2 hx hr2 (by rw [hdf, Yeg])) r) r
   ·obtain ⟨hB, h3⟩ := Yep h2;refine ⟨.pan val, _, _, h3, fun φ0 φ w0 M R a w hr Q kk => ?_⟩;intro r; show Yeq (wF r) c.P ol.toArray Q (o :: rest) a w
    unfold Yeq;rw [hw.at hr.tmps];simp only [if_true];have b1 := hB.1;have hS : St w0 M (Yc φ hs ++ (Yc φ (Ybs hs hp) ++ R)) w := by
     have := hr.st.perm ((Yu (hpart.perm hr.nd)).append (List.Perm.refl R));rwa [Yn, List.append_assoc] at this
    refine hd φ w0 M _ a w _ Q (hr.tmps.ops _) (fun i hi => ⟨(b1 i hi).1, Ydy fun p hp' => Yp (b1 i hi).2 (Yy (hpart.all p hp'))⟩) hS (fun φ' w' hag hS' => ?_) r;exact kk φ' _ a w' rfl (hr.new_heap hpart hu hB hag hS' none val) rfl
  ·have h2 := Yey h1;obtain ⟨x, tm', hp', h4, h5⟩ := Yf8 hc rest _ _ K h2;refine ⟨x, tm', hp', h4, fun φ0 φ w0 M R a w hr Q kk => ?_⟩;intro r; show Yeq (wF r) c.P ol.toArray Q (o :: rest) a w
   unfold Yeq;rw [hw.at hr.tmps];simp only [Bool.false_eq_true, if_false];exact h5 φ0 φ w0 M R _ w (hr.skip o.dst) Q (fun φ2 e a' w2 hx hr2 hdf => kk φ2 e a' w2 hx hr2 (by rw [hdf, Yeg])) r
end
end Go.Proofs.Ytmogofidmchdoaa
namespace Go.Proofs.Ytmogofidmchdoaa
open Go.RowKit
variable [InW]
attribute [local irreducible] Go.Oper.wp
theorem Yic {i j : Nat} (hne : i ≠ j) (x y : It) : ∀ h : Heap, upd (upd h i x) j y = upd (upd h j y) i x
 | [] => rfl
 | p :: h => by
  by_cases e1 : p.1 = i
  ·have e2 : ¬ p.1 = j := fun e => hne (e1 ▸ e);simp [upd, Ye.2 e1, Y2.2 e2]
  ·by_cases e2 : p.1 = j
   ·simp [upd, Y2.2 e1, Ye.2 e2]
   ·simp [upd, Y2.2 e1, Y2.2 e2, Yic hne x y h]
theorem Yik {i j : Nat} (hne : i ≠ j) (x y : It) : ∀ h : Heap, ins (upd h j y) i x = upd (ins h i x) j y
 | [] => by simp [upd, ins, Y2.2 hne]
 | p :: h => by
  cases hb : Nat.ble p.1 i with
  | true =>
   by_cases e2 : p.1 = j
   ·simp [upd, ins, hb, Ye.2 e2]
   ·simp [upd, ins, hb, Y2.2 e2, Yik hne x y h]
  | false =>
   by_cases e2 : p.1 = j
   ·simp [upd, ins, hb, Ye.2 e2, Y2.2 hne]
   ·simp [upd, ins, hb, Y2.2 e2, Y2.2 hne]
theorem Yf4 {a b : Nat} (h : a <= b) : Nat.ble a b = true := by rw [Nat.ble_eq]; exact h
theorem Yf5 {a b : Nat} (h : b < a) : Nat.ble a b = false := by
 rw [<- Bool.not_eq_true, Nat.ble_eq]; omega
theorem Yil {i j : Nat} (hne : i ≠ j) (x y : It) : ∀ h : Heap, ins (ins h i x) j y = ins (ins h j y) i x
 | [] => by
  rcases Nat.lt_or_gt_of_ne hne with h | h
  ·simp [ins, Yf4 (Nat.le_of_lt h), Yf5 h]
  ·simp [ins, Yf4 (Nat.le_of_lt h), Yf5 h]
 | p :: h => by
  by_cases h1 : p.1 <= i
  ·by_cases h2 : p.1 <= j
   ·simp [ins, Yf4 h1, Yf4 h2, Yil hne x y h]
   ·have h3 : j < i := by omega
    simp [ins, Yf4 h1, Yf5 (show j < p.1 by omega), Yf4 (Nat.le_of_lt h3)]
  ·by_cases h2 : p.1 <= j
   ·have h3 : i < j := by omega
    simp [ins, Yf4 h2, Yf5 (show i < p.1 by omega), Yf4 (Nat.le_of_lt h3)]
   ·rcases Nat.lt_or_gt_of_ne hne with h3 | h3
    ·simp [ins, Yf5 (show i < p.1 by omega), Yf5 (show j < p.1 by omega), Yf4 (Nat.le_of_lt h3), Yf5 h3]
    ·simp [ins, Yf5 (show i < p.1 by omega), Yf5 (show j < p.1 by omega), Yf4 (Nat.le_of_lt h3), Yf5 h3]
def disj (a b : List Nat) : Prop := ∀ i ∈ a, i ∉ b
theorem disj.symm {a b : List Nat} (h : disj a b) : disj b a := fun i hi hm => h i hm hi
theorem disj.tail {p : Nat × It} {us : Heap} {b : List Nat} (h : disj (keys (p :: us)) b) : p.1 ∉ b /\ disj (keys us) b := by
 refine ⟨h p.1 (by simp [keys]), fun i hi => h i ?_⟩;simp only [keys, List.map_cons, List.mem_cons];exact .inr hi
theorem Yet {i : Nat} {x : It} : ∀ (us h : Heap), i ∉ keys us -> Yh (upd h i x) us = upd (Yh h us) i x
 | [], h, _ => rfl
 | p :: us, h, hn => by
  simp only [keys, List.map_cons, List.mem_cons, not_or] at hn;rw [Yh, Yh, Yic hn.1, Yet us _ hn.2]
theorem Yfa {i : Nat} {x : It} : ∀ (us h : Heap), i ∉ keys us -> Yh (ins h i x) us = ins (Yh h us) i x
 | [], h, _ => rfl
 | p :: us, h, hn => by
  simp only [keys, List.map_cons, List.mem_cons, not_or] at hn;rw [Yh, Yh, <- Yik hn.1, Yfa us _ hn.2]
theorem Yjb : ∀ (us vs h : Heap), disj (keys us) (keys vs) -> Yh (Yh h us) vs = Yh (Yh h vs) us
 | [], vs, h, _ => rfl
 | p :: us, vs, h, hd => by
  have := hd.tail;rw [Yh, Yjb us vs _ this.2, Yet vs h this.1];rfl
theorem Yb8 : ∀ (nw us h : Heap), disj (keys nw) (keys us) -> Yh (Y6 h nw) us = Y6 (Yh h us) nw
 | [], us, h, _ => rfl
 | p :: nw, us, h, hd => by
  have := hd.tail;rw [Y6, Yb8 nw us _ this.2, Yfa us h this.1];rfl
theorem Yfb {i : Nat} {x : It} : ∀ (nw h : Heap), i ∉ keys nw -> Y6 (ins h i x) nw = ins (Y6 h nw) i x
 | [], h, _ => rfl
 | p :: nw, h, hn => by
  simp only [keys, List.map_cons, List.mem_cons, not_or] at hn;rw [Y6, Y6, Yil hn.1, Yfb nw _ hn.2]
theorem Ykd : ∀ (a b h : Heap), disj (keys a) (keys b) -> Y6 (Y6 h a) b = Y6 (Y6 h b) a
 | [], b, h, _ => rfl
 | p :: a, b, h, hd => by
  have := hd.tail;rw [Y6, Ykd a b _ this.2, Yfb b h this.1];rfl
structure Ev where
 o : Oper
 skip : Bool
 val : AV
 hs : Heap
 us : Heap
 nw : Heap
def Ev.tm (e : Ev) (tm : List AV) : List AV := putA tm e.o.dst e.val
def Ev.hp (e : Ev) (hp : Heap) : Heap := Y6 (Yh hp e.us) e.nw
structure StepE (P : Program) (ol : List Oper) (e : Ev) (tm : List AV) (hp : Heap) : Prop where
 part : PartOf e.hs hp
 sub : ∀ i ∈ keys e.us, i ∈ keys e.hs
 nd : (keys e.nw).Nodup
 mod : ∀ i ∈ keys e.nw, i % 3 ≠ 1
 run : (e.skip = true /\ WantA ol e.o tm false /\ e.val = .v undef /\ e.us = [] /\ e.nw = []) \/ (e.skip = false /\ WantA ol e.o tm true /\ DoesW P e.o tm e.hs e.val e.us e.nw)
def Ev.lacks (e : Ev) (i : Nat) : Prop := e.val.has i = false /\ hasH i e.us = false /\ hasH i e.nw = false
structure Ind (ol : List Oper) (e f : Ev) : Prop where
 ops : e.o.apart ol.toArray f.o = true
 ef : disj (keys e.us) (keys f.hs)
 fe : disj (keys f.us) (keys e.hs)
 nf : disj (keys e.nw) (keys f.hs)
 lack : ∀ i ∈ keys e.nw, f.lacks i
theorem Yry {i : Nat} {tm : List AV} {dst : Option Tmp} {v : AV} (h : AV.hasL i tm = false) (hv : v.has i = false) : AV.hasL i (putA tm dst v) = false := by
 cases dst with
 | none => exact h
 | some d =>
  show AV.hasL i (Yb3 tm d v) = false
  induction tm generalizing d with
  | nil => rfl
  | cons x xs ih =>
   simp only [AV.hasL, Bool.or_eq_false_iff] at h;cases d with
   | zero =>
    cases x <;> simp only [Yb3, AV.hasL, Bool.or_eq_false_iff] <;> first | exact ⟨h.1, h.2⟩ | exact ⟨Yyj hv, h.2⟩
   | succ d => simp only [Yb3, AV.hasL, Bool.or_eq_false_iff]; exact ⟨h.1, ih h.2 d⟩
theorem Yyf {h : Heap} {i : Nat} {x : It} {p : Nat × It} (hp : p ∈ upd h i x) : p ∈ h \/ (p.2 = x /\ p.1 ∈ keys h) := by
 induction h with
 | nil => cases hp
 | cons q h ih =>
  unfold upd at hp;cases hb : Nat.beq q.1 i with
  | true =>
   rw [hb] at hp;rcases List.mem_cons.1 hp with rfl | hp
   ·exact .inr ⟨rfl, by simp [keys]⟩
   ·exact .inl (List.mem_cons_of_mem _ hp)
  | false =>
   rw [hb] at hp;rcases List.mem_cons.1 hp with rfl | hp
   ·exact .inl List.mem_cons_self
   ·rcases ih hp with h1 | h1
    ·exact .inl (List.mem_cons_of_mem _ h1)
    ·exact .inr ⟨h1.1, by simp only [keys, List.map_cons, List.mem_cons]; exact .inr h1.2⟩
theorem Ywv {k i : Nat} {x : It} {h : Heap} (hh : hasH k h = false) (hx : x.has k = false) : hasH k (upd h i x) = false := Ydy fun p hp => by
 rcases Yyf hp with h1 | ⟨h1, h2⟩
 ·exact Yp hh h1
 ·obtain ⟨q, hq, e⟩ := List.mem_map.1 h2;exact ⟨e ▸ (Yp hh hq).1, h1 ▸ hx⟩
theorem Yke {k : Nat} : ∀ (us h : Heap), hasH k h = false -> hasH k us = false -> hasH k (Yh h us) = false
 | [], h, hh, _ => hh
 | p :: us, h, hh, hu => by
  simp only [hasH, Bool.or_eq_false_iff] at hu;exact Yke us _ (Ywv hh hu.1.2) hu.2
theorem Yyg {h : Heap} {i : Nat} {x : It} {p : Nat × It} (hp : p ∈ ins h i x) : p ∈ h \/ p = (i, x) := by
 induction h with
 | nil => simpa [ins] using hp
 | cons q h ih =>
  unfold ins at hp;cases hb : Nat.ble q.1 i with
  | true =>
   rw [hb] at hp;rcases List.mem_cons.1 hp with rfl | hp
   ·exact .inl List.mem_cons_self
   ·exact (ih hp).imp (List.mem_cons_of_mem _) id
  | false =>
   rw [hb] at hp;rcases List.mem_cons.1 hp with rfl | hp
   ·exact .inr rfl
   ·exact .inl hp
theorem Ykf {k : Nat} : ∀ (us h : Heap), hasH k h = false -> hasH k us = false -> hasH k (Y6 h us) = false
 | [], h, hh, _ => hh
 | p :: us, h, hh, hu => by
  simp only [hasH, Bool.or_eq_false_iff] at hu;refine Ykf us _ (Ydy fun q hq => ?_) hu.2;rcases Yyg hq with h1 | rfl
  ·exact Yp hh h1
  ·exact ⟨Y2.1 hu.1.1, hu.1.2⟩
theorem NewFor.step {ks : List Nat} {tm : List AV} {hp : Heap} {e : Ev} (h : NewFor ks tm hp) (hl : ∀ i ∈ ks, e.lacks i) : NewFor ks (e.tm tm) (e.hp hp) := fun i hi =>
 ⟨Yry (h i hi).1 (hl i hi).1, Ykf _ _ (Yke _ _ (h i hi).2 (hl i hi).2.1) (hl i hi).2.2⟩
theorem NewFor.hs {ks : List Nat} {tm : List AV} {hp hs : Heap} (h : NewFor ks tm hp) (hpart : PartOf hs hp) : NewFor ks tm hs := fun i hi =>
 ⟨(h i hi).1, Ydy fun p hp' => Yp (h i hi).2 (Yy (hpart.all p hp'))⟩
theorem NewFor.mono_tm {ks : List Nat} {tm tm' : List AV} {hs : Heap} (h : NewFor ks tm hs) (ht : ∀ i ∈ ks, AV.hasL i tm' = false) : NewFor ks tm' hs := fun i hi => ⟨ht i hi, (h i hi).2⟩
theorem NewFor.keys {ks : List Nat} {tm : List AV} {hp : Heap} (h : NewFor ks tm hp) : disj ks (keys hp) := fun i hi hm => by
 obtain ⟨p, hp', e⟩ := List.mem_map.1 hm;exact (Yp (h i hi).2 hp').1 e
theorem Yoy {e : Ev} {tm : List AV} {hp : Heap} {ol : List Oper} {P : Program} (h : StepE P ol e tm hp) (hn : NewFor (keys e.nw) tm hp) {i : Nat} (h1 : i ∉ keys e.us) (h2 : i ∉ keys e.nw) : look (e.hp hp) i = look hp i := by
 unfold Ev.hp;rw [Ygf e.nw _ h.nd (by rw [Ydf]; exact hn.keys), Ybg h2, Ycs _ _ _ h1];rfl
theorem Yrl {tm : List AV} {dst : Option Tmp} {v : AV} {t : Nat} (h : ∀ d, dst = some d -> t ≠ d) : (putA tm dst v)[t]? = tm[t]? := by
 cases dst with
 | none => rfl
 | some d => exact Yiy tm v (h d rfl)
theorem WantA.move {ol : List Oper} {o : Oper} {tm tm' : List AV} {b : Bool} (h : WantA ol o tm b) (he : ∀ t ∈ o.looksAt ol.toArray, tm[t]? = tm'[t]?) : WantA ol o tm' b := fun φ a hs => h φ a fun t ht v hv hj => hs t ht v (by rw [<- he t ht]; exact hv) hj
theorem Yl2 {ol : List Oper} {o : Oper} {t : Tmp} (h : Operand.tmp t ∈ o.op.operands) : t ∈ o.looksAt ol.toArray := by
 unfold Oper.looksAt;exact List.mem_append_left _ (List.mem_filterMap.2 ⟨.tmp t, by simpa using h, rfl⟩)
theorem DoesW.move {P : Program} {ol : List Oper} {o : Oper} {tm tm' : List AV} {hs us nw : Heap} {val : AV} (h : DoesW P o tm hs val us nw) (he : ∀ t ∈ o.looksAt ol.toArray, tm[t]? = tm'[t]?) (hn : NewFor (keys nw) tm hs) : DoesW P o tm' hs val us nw :=
 fun φ w0 M R a w K Q ho _ hS kk => h φ w0 M R a w K Q (fun x hx v hv hj => ho x hx v (by
  cases x with
  | tmp t =>
   have h1 : tm[t]? = some v := hv;rw [he t (Yl2 hx)] at h1;exact h1
  | const c => exact hv
  | global g => exact hv
  | func f => exact hv) hj) hn hS kk
theorem Ysf {P : Program} {ol : List Oper} {e f : Ev} {tm : List AV} {hp : Heap} (he : StepE P ol e tm hp) (hf : StepE P ol f (e.tm tm) (e.hp hp)) (hi : Ind ol e f) (hne : NewFor (keys e.nw) tm hp) (hnf : NewFor (keys f.nw) tm hp) (hl : ∀ i ∈ keys f.nw, e.lacks i) :
  StepE P ol f tm hp /\ StepE P ol e (f.tm tm) (f.hp hp) /\ e.tm (f.tm tm) = f.tm (e.tm tm) /\ e.hp (f.hp hp) = f.hp (e.hp hp) := by
 obtain ⟨a1, a2, a3⟩ := Oper.apart_spec hi.ops;have t1 : ∀ t ∈ f.o.looksAt ol.toArray, (e.tm tm)[t]? = tm[t]? := fun t ht => Yrl fun d hd e' => a1 d hd (e' ▸ ht);have t2 : ∀ t ∈ e.o.looksAt ol.toArray, tm[t]? = (f.tm tm)[t]? := fun t ht => (Yrl fun d hd e' => a3 d hd (e' ▸ ht)).symm;have hfu : ∀ i ∈ keys f.us, i ∈ keys f.hs := hf.sub;have pf : PartOf f.hs hp := ⟨hf.part.nd, fun p hp' => by
  have hm : p.1 ∈ keys f.hs := List.mem_map_of_mem hp';rw [<- Yoy he hne (fun h => hi.ef _ h hm) (fun h => hi.nf _ h hm)];exact hf.part.all p hp'⟩
 have sf : StepE P ol f tm hp := by
  refine ⟨pf, hf.sub, hf.nd, hf.mod, ?_⟩;rcases hf.run with ⟨h1, h2, h3⟩ | ⟨h1, h2, h3⟩
  ·exact .inl ⟨h1, h2.move t1, h3⟩
  ·exact .inr ⟨h1, h2.move t1, h3.move t1 ((hnf.hs pf).mono_tm fun i hi' => Yry (hnf i hi').1 (hl i hi').1)⟩
 have hsk : ∀ i ∈ keys e.hs, i ∈ keys hp := fun i hi' => by
  obtain ⟨p, hp', rfl⟩ := List.mem_map.1 hi';exact Yb1 (he.part.all p hp')
 refine ⟨sf, ⟨⟨he.part.nd, fun p hp' => ?_⟩, he.sub, he.nd, he.mod, ?_⟩, ?_, ?_⟩
 ·have hm : p.1 ∈ keys e.hs := List.mem_map_of_mem hp';rw [Yoy sf hnf (fun h => hi.fe _ h hm) (fun h => hnf.keys _ h (hsk _ hm))];exact he.part.all p hp'
 ·rcases he.run with ⟨h1, h2, h3⟩ | ⟨h1, h2, h3⟩
  ·exact .inl ⟨h1, h2.move t2, h3⟩
  ·exact .inr ⟨h1, h2.move t2, h3.move t2 (hne.hs he.part)⟩
 ·unfold Ev.tm putA;cases hd : e.o.dst with
  | none => rfl
  | some d =>
   cases hd' : f.o.dst with
   | none => rfl
   | some d' =>
    have hnd : d' ≠ d := fun e' => a2 d hd (by rw [hd', e']);simp only;exact Ylz _ _ _ hnd
 ·unfold Ev.hp;have d1 : disj (keys e.us) (keys f.us) := fun i h1 h2 => hi.ef i h1 (hfu i h2);have d2 : disj (keys e.nw) (keys f.us) := fun i h1 h2 => hi.nf i h1 (hfu i h2);have d3 : disj (keys f.nw) (keys e.us) := fun i h1 h2 => hnf.keys i h1 (hsk i (he.sub i h2));have d4 : disj (keys e.nw) (keys f.nw) := fun i h1 h2 => by
   obtain ⟨p, hp', e'⟩ := List.mem_map.1 h2;exact (Yp (hi.lack i h1).2.2 hp').1 e'
  rw [Yb8 f.nw e.us _ d3, Yb8 e.nw f.us _ d2, Yjb e.us f.us hp d1, Ykd e.nw f.nw _ d4]
end Go.Proofs.Ytmogofidmchdoaa
namespace Go.Proofs.Ytmogofidmchdoaa
open Go.RowKit
variable [InW]
attribute [local irreducible] Go.Oper.wp
def LClosed (ops : Array Oper) (listed : Array Bool) : Prop := ∀ (j : Nat) (oj : Oper), ops[j]? = some oj -> listed.getD j false = true -> ∀ e ∈ oj.after, Region.binds .any e = true -> listed.getD e.on false = true
theorem LClosed.start (ops : Array Oper) (n : Nat) : LClosed ops (Array.replicate n false) := fun j oj _ h => by
 rcases Nat.lt_or_ge j n with h' | h'
 ·simp [h'] at h
 ·simp [h'] at h
theorem Yoz {listed : Array Bool} {i k : Nat} (hk : listed.getD k false = true) : (listed.setIfInBounds i true).getD k false = true := by
 by_cases hki : i = k
 ·subst hki;rcases Nat.lt_or_ge i listed.size with h' | h'
  ·simp [h']
  ·simp [Array.getElem?_eq_none h'] at hk
 ·rw [getD_set_ne false hki]; exact hk
theorem LClosed.step {ops : Array Oper} {listed : Array Bool} {i : Nat} (h : LClosed ops listed) (hi : i ∈ Region.ready .any ops listed) : LClosed ops (listed.setIfInBounds i true) := by
 obtain ⟨h0, oi, hoi, hall⟩ := mem_ready.1 hi;intro j oj hoj hl e he hb
 by_cases hji : i = j
 ·subst hji;rw [hoi] at hoj;cases hoj;exact Yoz (hall e he hb)
 ·rw [getD_set_ne false hji] at hl;exact Yoz (h j oj hoj hl e he hb)
def Yvv (ops : Array Oper) (j i : Nat) : Prop := ∀ listed, LClosed ops listed -> (∀ oj, ops[j]? = some oj -> ∀ e ∈ oj.after, Region.binds .any e = true -> listed.getD e.on false = true) -> listed.getD i false = true
def nthN : List Nat -> Nat -> Nat
 | [], _ => 0
 | x :: _, 0 => x
 | _ :: xs, n + 1 => nthN xs n
def Yg8 (ms : List Nat) : List Edge -> Nat -> Nat
 | [], s => s
 | e :: es, s => match Region.binds .any e with | true => Yg8 ms es (s ||| 2 ^ e.on ||| nthN ms e.on) | false => Yg8 ms es s
def Ycw : List Oper -> List Nat -> List Nat
 | [], acc => acc
 | o :: rest, acc => Ycw rest (acc ++ [Yg8 acc o.after.toList 0])
theorem Ym9 : ∀ (ms : List Nat) (k : Nat), nthN ms k = ms.getD k 0
 | [], k => by simp [nthN]
 | x :: xs, 0 => rfl
 | x :: xs, k + 1 => by simp [nthN, Ym9 xs k]
theorem Ye7 (ms : List Nat) : ∀ (es : List Edge) (s i : Nat), (Yg8 ms es s).testBit i = true -> s.testBit i = true \/ ∃ e ∈ es, Region.binds .any e = true /\ (e.on = i \/ (ms.getD e.on 0).testBit i = true)
 | [], s, i, h => .inl h
 | e :: es, s, i, h => by
  unfold Yg8 at h;cases hb : Region.binds .any e with
  | true =>
   rw [hb] at h;rcases Ye7 ms es _ i h with h1 | ⟨e', he', h2⟩
   ·simp only [Nat.testBit_or, Bool.or_eq_true, Nat.testBit_two_pow, decide_eq_true_eq, Ym9] at h1;rcases h1 with (h1 | h1) | h1
    ·exact .inl h1
    ·exact .inr ⟨e, List.mem_cons_self, hb, .inl h1⟩
    ·exact .inr ⟨e, List.mem_cons_self, hb, .inr h1⟩
   ·exact .inr ⟨e', List.mem_cons_of_mem _ he', h2⟩
  | false =>
   rw [hb] at h;rcases Ye7 ms es _ i h with h1 | ⟨e', he', h2⟩
   ·exact .inl h1
   ·exact .inr ⟨e', List.mem_cons_of_mem _ he', h2⟩
theorem Yrs (ops : Array Oper) : ∀ (l : List Oper) (acc : List Nat), (∀ j, l[j]? = ops[acc.length + j]?) -> (∀ j m, acc[j]? = some m -> ∀ i, m.testBit i = true -> Yvv ops j i) -> ∀ j m, (Ycw l acc)[j]? = some m -> ∀ i, m.testBit i = true -> Yvv ops j i
 | [], acc, _, h => h
 | o :: rest, acc, hl, h => by
  unfold Ycw;refine Yrs ops rest _ (fun j => ?_) (fun j m hm i hi => ?_)
  ·have := hl (j + 1);simp only [List.length_append, List.length_cons, List.length_nil];rw [show acc.length + (0 + 1) + j = acc.length + (j + 1) by omega, <- this];simp
  ·rw [List.getElem?_append] at hm
   split at hm
   ·exact h j m hm i hi
   ·rename_i hge;have hj : j = acc.length := by
     rcases Nat.lt_or_ge (j - acc.length) 1 with h1 | h1
     ·omega
     ·rw [List.getElem?_eq_none (by simpa using h1)] at hm; cases hm
    subst hj;simp only [Nat.sub_self, List.getElem?_cons_zero, Option.some.injEq] at hm;subst hm;have ho : ops[acc.length]? = some o := by have := hl 0; simpa using this.symm
    intro listed hc hall;rcases Ye7 acc _ 0 i hi with h1 | ⟨e, he, hb, h1⟩
    ·simp at h1
    ·have hon := hall o ho e (by simpa using he) hb;rcases h1 with rfl | h1
     ·exact hon
     ·cases ha : acc[e.on]? with
      | none => simp [List.getD_eq_getElem?_getD, ha] at h1
      | some m' =>
       simp only [List.getD_eq_getElem?_getD, ha, Option.getD_some] at h1;exact h e.on m' ha i h1 listed hc fun oj hoj e' he' hb' => hc e.on oj hoj hon e' he' hb'
theorem Ymp {ol : List Oper} {j i : Nat} (h : (nthN (Ycw ol []) j).testBit i = true) : Yvv ol.toArray j i := by
 rw [Ym9, List.getD_eq_getElem?_getD] at h;cases hm : (Ycw ol [])[j]? with
 | none => simp [hm] at h
 | some m =>
  rw [hm] at h;exact Yrs ol.toArray ol [] (fun j => by simp) (fun j m hm => by simp at hm) j m hm i h
abbrev Todo := List (Nat × Ev)
def Yvx (P : Program) (ol : List Oper) : Todo -> List AV -> Heap -> List AV -> Heap -> Prop
 | [], tm, hp, tm', hp' => tm = tm' /\ hp = hp'
 | p :: r, tm, hp, tm', hp' => StepE P ol p.2 tm hp /\ Yvx P ol r (p.2.tm tm) (p.2.hp hp) tm' hp'
structure PairOk (ol : List Oper) (p q : Nat × Ev) : Prop where
 lack : ∀ i ∈ keys q.2.nw, p.2.lacks i
 ord : Yvv ol.toArray q.1 p.1 \/ Ind ol p.2 q.2
def AllNew (r : Todo) (tm : List AV) (hp : Heap) : Prop := ∀ p ∈ r, NewFor (keys p.2.nw) tm hp
theorem pull {P : Program} {ol : List Oper} {q : Nat × Ev} {r2 : Todo} {tmE : List AV} {hpE : Heap} : ∀ (r1 : Todo) (tm : List AV) (hp : Heap), Yvx P ol (r1 ++ q :: r2) tm hp tmE hpE -> (r1 ++ q :: r2).Pairwise (PairOk ol) -> AllNew (r1 ++ q :: r2) tm hp -> (∀ p ∈ r1, Ind ol p.2 q.2) ->
  StepE P ol q.2 tm hp /\ Yvx P ol (r1 ++ r2) (q.2.tm tm) (q.2.hp hp) tmE hpE
 | [], tm, hp, hc, _, _, _ => hc
 | p :: r1, tm, hp, hc, hpw, hn, hi => by
  obtain ⟨h1, h2⟩ := hc;have hpw' := List.pairwise_cons.1 hpw;have hn' : AllNew (r1 ++ q :: r2) (p.2.tm tm) (p.2.hp hp) := fun p' hp' => (hn p' (List.mem_cons_of_mem _ hp')).step fun i hi' => (hpw'.1 p' hp').lack i hi';obtain ⟨h3, h4⟩ := pull r1 _ _ h2 hpw'.2 hn' fun p' hp' => hi p' (List.mem_cons_of_mem _ hp');have hq : q ∈ r1 ++ q :: r2 := by simp
  obtain ⟨h5, h6, h7, h8⟩ := Ysf h1 h3 (hi p List.mem_cons_self) (hn p List.mem_cons_self) (hn q (List.mem_cons_of_mem _ hq)) fun i hi' => (hpw'.1 q hq).lack i hi';refine ⟨h5, h6, ?_⟩;rw [h7, h8];exact h4
structure Left (ol : List Oper) (r : Todo) (listed : Array Bool) : Prop where
 iff : ∀ k, k < ol.length -> (listed.getD k true = false ↔ k ∈ r.map (·.1))
 lt : ∀ p ∈ r, p.1 < ol.length /\ ol[p.1]? = some p.2.o
 sorted : r.Pairwise fun p q => p.1 < q.1
 size : listed.size = ol.length
def Ytg : List Oper -> Nat -> Bool
 | [], _ => true
 | o :: rest, i => match o.after.toList.all (fun e => !Region.binds .any e || Nat.blt e.on i) with | true => Ytg rest (i + 1) | false => false
theorem Ymk : ∀ (l : List Oper) (i : Nat), Ytg l i = true -> ∀ j o, l[j]? = some o -> ∀ e ∈ o.after, Region.binds .any e = true -> e.on < i + j
 | [], i, _, j, o, h => by simp at h
 | o' :: rest, i, hb, j, o, h => by
  unfold Ytg at hb
  split at hb
  ·rename_i h1;cases j with
   | zero =>
    simp only [List.getElem?_cons_zero, Option.some.injEq] at h;subst h;intro e he hbi;have := List.all_eq_true.1 h1 e (by simpa using he);simp only [hbi, Bool.not_true, Bool.false_or, Nat.blt_eq] at this;simpa using this
   | succ j =>
    intro e he hbi;have := Ymk rest (i + 1) hb j o (by simpa using h) e he hbi;omega
  ·cases hb
theorem Ykg {listed : Array Bool} {k : Nat} (h : k < listed.size) : listed.getD k true = false ↔ listed.getD k false = false := by simp [h]
theorem Left.ready {ol : List Oper} {r : Todo} {listed : Array Bool} (h : Left ol r listed) {j : Nat} (hj : j ∈ Region.ready .any ol.toArray listed) : ∃ e, (j, e) ∈ r := by
 obtain ⟨h0, oj, hoj, _⟩ := mem_ready.1 hj;have hlt : j < ol.length := by
  have := (Array.getElem?_eq_some_iff.1 hoj).1;simpa using this
 obtain ⟨p, hp, e⟩ := List.mem_map.1 ((h.iff j hlt).1 h0);exact ⟨p.2, by rw [<- e]; exact hp⟩
theorem Left.head_ready {ol : List Oper} {p : Nat × Ev} {r : Todo} {listed : Array Bool} (h : Left ol (p :: r) listed) (hb : Ytg ol 0 = true) : p.1 ∈ Region.ready .any ol.toArray listed := by
 have h1 := h.lt p List.mem_cons_self;refine mem_ready.2 ⟨(h.iff p.1 h1.1).2 (by simp), p.2.o, by simpa using h1.2, fun e he hbi => ?_⟩;have hon := Ymk ol 0 hb p.1 p.2.o h1.2 e he hbi;have hlt : e.on < ol.length := by omega
 cases hq : listed.getD e.on false with
 | true => rfl
 | false =>
  have h2 : listed.getD e.on true = false := (Ykg (by rw [h.size]; exact hlt)).2 hq;obtain ⟨q, hq, e'⟩ := List.mem_map.1 ((h.iff e.on hlt).1 h2);rcases List.mem_cons.1 hq with rfl | hq
  ·omega
  ·have := (List.pairwise_cons.1 h.sorted).1 q hq;omega
theorem Left.step {ol : List Oper} {r1 r2 : Todo} {q : Nat × Ev} {listed : Array Bool} (h : Left ol (r1 ++ q :: r2) listed) : Left ol (r1 ++ r2) (listed.setIfInBounds q.1 true) := by
 have hsub : (r1 ++ r2).Sublist (r1 ++ q :: r2) := (List.Sublist.refl r1).append (List.sublist_cons_self q r2);have hne : ∀ p ∈ r1 ++ r2, p.1 ≠ q.1 := fun p hp => by
  have hs := List.pairwise_append.1 h.sorted;rcases List.mem_append.1 hp with hp | hp
  ·have := hs.2.2 p hp q List.mem_cons_self; omega
  ·have := (List.pairwise_cons.1 hs.2.1).1 p hp; omega
 refine ⟨fun k hk => ?_, fun p hp => h.lt p (hsub.subset hp), h.sorted.sublist hsub, by simpa using h.size⟩
 by_cases e : q.1 = k
 ·subst e;have h1 : (listed.setIfInBounds q.1 true).getD q.1 true = true := by simp [h.size, hk]
  constructor
  ·intro h2; rw [h1] at h2; cases h2
  ·intro h2;obtain ⟨p, hp, e⟩ := List.mem_map.1 h2;exact absurd e (hne p hp)
 ·rw [getD_set_ne true e, h.iff k hk];simp only [List.map_append, List.map_cons, List.mem_append, List.mem_cons];constructor
  ·rintro (h1 | h1 | h1)
   ·exact .inl h1
   ·exact absurd h1.symm e
   ·exact .inr h1
  ·rintro (h1 | h1)
   ·exact .inl h1
   ·exact .inr (.inr h1)
theorem Yu1 {ol : List Oper} {r1 r2 : Todo} {q : Nat × Ev} {listed : Array Bool} (h : Left ol (r1 ++ q :: r2) listed) (hc : LClosed ol.toArray listed) (hpw : (r1 ++ q :: r2).Pairwise (PairOk ol)) (hj : q.1 ∈ Region.ready .any ol.toArray listed) : ∀ p ∈ r1, Ind ol p.2 q.2 := fun p hp => by
 have h1 := (List.pairwise_append.1 hpw).2.2 p hp q List.mem_cons_self;refine h1.ord.resolve_left fun hw => ?_;obtain ⟨_, oj, hoj, hall⟩ := mem_ready.1 hj;have h2 := hw listed hc fun oj' hoj' => by rw [hoj] at hoj'; cases hoj'; exact hall
 have hm : p ∈ r1 ++ q :: r2 := List.mem_append_left _ hp;have h3 := (h.iff p.1 (h.lt p hm).1).2 (List.mem_map_of_mem hm);rw [Ykg (by rw [h.size]; exact (h.lt p hm).1), h2] at h3;cases h3
theorem AllNew.step {ol : List Oper} {r1 r2 : Todo} {q : Nat × Ev} {tm : List AV} {hp : Heap} (hn : AllNew (r1 ++ q :: r2) tm hp) (hpw : (r1 ++ q :: r2).Pairwise (PairOk ol)) (hi : ∀ p ∈ r1, Ind ol p.2 q.2) : AllNew (r1 ++ r2) (q.2.tm tm) (q.2.hp hp) := fun p hp' => by
 rcases List.mem_append.1 hp' with h1 | h1
 ·exact (hn p (List.mem_append_left _ h1)).step fun i hi' => (hi p h1).lack i hi'
 ·exact (hn p (List.mem_append_right _ (List.mem_cons_of_mem _ h1))).step fun i hi' => ((List.pairwise_cons.1 (List.pairwise_append.1 hpw).2.1).1 p h1).lack i hi'
section
variable {P : Program} {ol : List Oper} {φ0 : Phi} {w0 : World} {M : List Nat} {R : RL} {r0 : Option Nat} {Q : Exit -> Act -> World -> Prop} {D : List Deferred} {tmE : List AV} {hpE : Heap}
theorem Ynk (hb : Ytg ol 0 = true) (hQ : ∀ φ' a' w', RepS φ0 φ' w0 M R tmE hpE a' w' -> a'.defers = D -> Q .normal a' w') :
  ∀ (n : Nat) (r : Todo) (listed : Array Bool) (tm : List AV) (hp : Heap) (φ : Phi) (a : Act) (w : World), r.length <= n -> Left ol r listed -> LClosed ol.toArray listed -> Yvx P ol r tm hp tmE hpE -> r.Pairwise (PairOk ol) -> AllNew r tm hp -> RepS φ0 φ w0 M R tm hp a w -> a.defers = D -> wpAnyIn (wF r0) 0 P .any ol.toArray Q n listed a w
 | 0, r, listed, tm, hp, φ, a, w, hl, hL, hc, hch, hpw, hn, hr, hD => by
  have : r = [] := List.length_eq_zero_iff.1 (by omega);subst this;obtain ⟨rfl, rfl⟩ := hch;refine ⟨?_, hQ φ a w hr hD⟩;cases hrd : Region.ready .any ol.toArray listed with
  | nil => rfl
  | cons j js =>
   obtain ⟨e, he⟩ := hL.ready (j := j) (by rw [hrd]; exact List.mem_cons_self);cases he
 | n + 1, r, listed, tm, hp, φ, a, w, hl, hL, hc, hch, hpw, hn, hr, hD => by
  refine ⟨fun h0 => ?_, fun j hj => ?_⟩
  ·cases r with
   | nil => obtain ⟨rfl, rfl⟩ := hch; exact hQ φ a w hr hD
   | cons p r => have := hL.head_ready hb; rw [h0] at this; cases this
  ·obtain ⟨f, hf⟩ := hL.ready hj;obtain ⟨r1, r2, rfl⟩ := List.append_of_mem hf;have hi := Yu1 hL hc hpw hj;obtain ⟨hs, hch2⟩ := pull r1 tm hp hch hpw hn hi;have hlen : (r1 ++ r2).length <= n := by simp only [List.length_append, List.length_cons] at hl ⊢; omega
   have hnx := hn.step hpw hi;have hpw2 : (r1 ++ r2).Pairwise (PairOk ol) := hpw.sublist ((List.Sublist.refl r1).append (List.sublist_cons_self _ r2));have ho : ol.toArray[j]? = some f.o := by simpa using (hL.lt (j, f) hf).2
   unfold wpOpIn;simp only [ho];rcases hs.run with ⟨h1, h2, h3, h4, h5⟩ | ⟨h1, h2, h3⟩
   ·rw [h2.at hr.tmps];simp only [Bool.false_eq_true, if_false];have e1 : f.tm tm = putA tm f.o.dst (.v undef) := by unfold Ev.tm; rw [h3]
    have e2 : f.hp hp = hp := by unfold Ev.hp; rw [h4, h5]; rfl
    dsimp only at hch2 hnx;rw [e1, e2] at hch2 hnx;exact ⟨fun _ _ => trivial, Ynk hb hQ n (r1 ++ r2) _ _ _ φ _ w hlen hL.step (hc.step hj) hch2 hpw2 hnx (hr.skip f.o.dst) (by rw [Yeg, hD])⟩
   ·rw [h2.at hr.tmps];simp only [if_true];exact (Yki h3 hs.part hs.sub ⟨hn (j, f) hf, hs.nd, hs.mod⟩ hr fun φ' w' hr' => Ynk hb hQ n (r1 ++ r2) _ _ _ φ' _ w' hlen hL.step (hc.step hj) hch2 hpw2 hnx hr' (by rw [Yeg, hD])) r0
end
end Go.Proofs.Ytmogofidmchdoaa
namespace Go.Proofs.Ytmogofidmchdoaa
open Go.RowKit
variable [InW]
attribute [local irreducible] Go.Oper.wp
theorem DoesPW.move {P : Program} {ol : List Oper} {o : Oper} {tm tm' : List AV} {hs us nw : Heap} {val : AV} (h : DoesPW P o tm hs val us nw) (he : ∀ t ∈ o.looksAt ol.toArray, tm[t]? = tm'[t]?) (hn : NewFor (keys nw) tm hs) : DoesPW P o tm' hs val us nw :=
 fun φ w0 M R a w K Q ho _ hS kk => h φ w0 M R a w K Q (fun x hx v hv hj => ho x hx v (by
  cases x with
  | tmp t =>
   have h1 : tm[t]? = some v := hv;rw [he t (Yl2 hx)] at h1;exact h1
  | const c => exact hv
  | global g => exact hv
  | func f => exact hv) hj) hn hS kk
structure LeftP (ol : List Oper) (r : Todo) (j : Nat) (f : Ev) (listed : Array Bool) : Prop where
 iff : ∀ k, k < j -> (listed.getD k true = false ↔ k ∈ r.map (·.1))
 lt : ∀ p ∈ r, p.1 < j /\ ol[p.1]? = some p.2.o
 at_ : ol[j]? = some f.o
 self : listed.getD j true = false
 sorted : r.Pairwise fun p q => p.1 < q.1
 size : listed.size = ol.length
 behind : ∀ k, j < k -> k < ol.length -> Yvv ol.toArray k j
theorem LeftP.step {ol : List Oper} {r1 r2 : Todo} {q : Nat × Ev} {j : Nat} {f : Ev} {listed : Array Bool} (h : LeftP ol (r1 ++ q :: r2) j f listed) : LeftP ol (r1 ++ r2) j f (listed.setIfInBounds q.1 true) := by
 have hsub : (r1 ++ r2).Sublist (r1 ++ q :: r2) := (List.Sublist.refl r1).append (List.sublist_cons_self q r2);have hq := h.lt q (by simp);have hjl : j < ol.length := (List.getElem?_eq_some_iff.1 h.at_).1;have hne : ∀ p ∈ r1 ++ r2, p.1 ≠ q.1 := fun p hp => by
  have hs := List.pairwise_append.1 h.sorted;rcases List.mem_append.1 hp with hp | hp
  ·have := hs.2.2 p hp q List.mem_cons_self; omega
  ·have := (List.pairwise_cons.1 hs.2.1).1 p hp; omega
 refine ⟨fun k hk => ?_, fun p hp => h.lt p (hsub.subset hp), h.at_, ?_, h.sorted.sublist hsub, by simpa using h.size, h.behind⟩
 ·by_cases e : q.1 = k
  ·subst e;have h1 : (listed.setIfInBounds q.1 true).getD q.1 true = true := by
    have : q.1 < listed.size := by rw [h.size]; omega
    simp [this]
   constructor
   ·intro h2; rw [h1] at h2; cases h2
   ·intro h2;obtain ⟨p, hp, e⟩ := List.mem_map.1 h2;exact absurd e (hne p hp)
  ·rw [getD_set_ne true e, h.iff k hk];simp only [List.map_append, List.map_cons, List.mem_append, List.mem_cons];constructor
   ·rintro (h1 | h1 | h1)
    ·exact .inl h1
    ·exact absurd h1.symm e
    ·exact .inr h1
   ·rintro (h1 | h1)
    ·exact .inl h1
    ·exact .inr (.inr h1)
 ·rw [getD_set_ne true (by omega)]; exact h.self
section
variable {P : Program} {ol : List Oper} {φ0 : Phi} {w0 : World} {M : List Nat} {R : RL} {r0 : Option Nat} {Q : Exit -> Act -> World -> Prop} {D : List Deferred} {tmS tmT : List AV} {hpT : Heap} {j : Nat} {f : Ev} {ds : List (Option Tmp)}
end
end Go.Proofs.Ytmogofidmchdoaa
namespace Go.Proofs.Ytmogofidmchdoaa
open Go.RowKit
variable [InW]
mutual
def AV.ren (ρ : Nat -> Nat) : AV -> AV
 | .v x => .v x
 | .ptr id k => .ptr (ρ id) k
 | .sl id a b c => .sl (ρ id) a b c
 | .slc id a b c => .slc (ρ id) a b c
 | .emp id => .emp (ρ id)
 | .agg cs => .agg (AV.renL ρ cs)
 | .tup cs => .tup (AV.renL ρ cs)
 | .fn f a b => .fn f (AV.renL ρ a) (AV.renL ρ b)
 | .ifc t x => .ifc t (AV.ren ρ x)
 | .mp id => .mp (ρ id)
 | .yl id => .yl (ρ id)
 | .held x => .held (AV.ren ρ x)
 | .junk => .junk
 | .si k n => .si k n
 | .sb b => .sb b
 | .ss s => .ss s
 | .rs ts r => .rs ts r
 | .rp ts r i k => .rp ts r i k
 | .rw id => .rw (ρ id)
 | .ep id sz i k => .ep (ρ id) sz i k
 | .rwp id sz l n => .rwp (ρ id) sz l n
 | .opq id => .opq (ρ id)
def AV.renL (ρ : Nat -> Nat) : List AV -> List AV
 | [] => []
 | x :: xs => AV.ren ρ x :: AV.renL ρ xs
end
mutual
def renK (ρ : Nat -> Nat) : AV -> (AV -> Prop) -> Prop
 | .v x, K => K (.v x)
 | .ptr id k, K => Y1 (ρ id) fun id => K (.ptr id k)
 | .sl id a b c, K => Y1 (ρ id) fun id => K (.sl id a b c)
 | .slc id a b c, K => Y1 (ρ id) fun id => K (.slc id a b c)
 | .emp id, K => Y1 (ρ id) fun id => K (.emp id)
 | .agg cs, K => Ygx ρ cs fun cs => K (.agg cs)
 | .tup cs, K => Ygx ρ cs fun cs => K (.tup cs)
 | .fn f a b, K => Ygx ρ a fun a => Ygx ρ b fun b => K (.fn f a b)
 | .ifc t x, K => renK ρ x fun x => K (.ifc t x)
 | .mp id, K => Y1 (ρ id) fun id => K (.mp id)
 | .yl id, K => Y1 (ρ id) fun id => K (.yl id)
 | .held x, K => renK ρ x fun x => K (.held x)
 | .junk, K => K .junk
 | .si k n, K => K (.si k n)
 | .sb b, K => K (.sb b)
 | .ss s, K => K (.ss s)
 | .rs ts r, K => K (.rs ts r)
 | .rp ts r i k, K => K (.rp ts r i k)
 | .rw id, K => Y1 (ρ id) fun id => K (.rw id)
 | .ep id sz i k, K => Y1 (ρ id) fun id => K (.ep id sz i k)
 | .rwp id sz l n, K => Y1 (ρ id) fun id => K (.rwp id sz l n)
 | .opq id, K => Y1 (ρ id) fun id => K (.opq id)
def Ygx (ρ : Nat -> Nat) : List AV -> (List AV -> Prop) -> Prop
 | [], K => K []
 | x :: xs, K => renK ρ x fun x => Ygx ρ xs fun xs => K (x :: xs)
end
mutual
theorem Yix (ρ : Nat -> Nat) : ∀ (x : AV) (K : AV -> Prop), renK ρ x K ↔ K (x.ren ρ)
 | .v _, K => Iff.rfl
 | .ptr id k, K => by simp only [renK, AV.ren, Yi]
 | .sl id a b c, K => by simp only [renK, AV.ren, Yi]
 | .slc id a b c, K => by simp only [renK, AV.ren, Yi]
 | .emp id, K => by simp only [renK, AV.ren, Yi]
 | .agg cs, K => by simp only [renK, AV.ren]; exact Yb7 ρ cs _
 | .tup cs, K => by simp only [renK, AV.ren]; exact Yb7 ρ cs _
 | .fn f a b, K => by simp only [renK, AV.ren]; rw [Yb7 ρ a, Yb7 ρ b]
 | .ifc t x, K => by simp only [renK, AV.ren]; exact Yix ρ x _
 | .mp id, K => by simp only [renK, AV.ren, Yi]
 | .yl id, K => by simp only [renK, AV.ren, Yi]
 | .held x, K => by simp only [renK, AV.ren]; exact Yix ρ x _
 | .junk, K => Iff.rfl
 | .si k n, K => Iff.rfl
 | .sb b, K => Iff.rfl
 | .ss s, K => Iff.rfl
 | .rs ts r, K => Iff.rfl
 | .rp ts r i k, K => Iff.rfl
 | .rw id, K => by simp only [renK, AV.ren, Yi]
 | .ep id sz i k, K => by simp only [renK, AV.ren, Yi]
 | .rwp id sz l n, K => by simp only [renK, AV.ren, Yi]
 | .opq id, K => by simp only [renK, AV.ren, Yi]
theorem Yb7 (ρ : Nat -> Nat) : ∀ (xs : List AV) (K : List AV -> Prop), Ygx ρ xs K ↔ K (AV.renL ρ xs)
 | [], K => Iff.rfl
 | x :: xs, K => by simp only [Ygx, AV.renL]; rw [Yix ρ x, Yb7 ρ xs]
end
mutual
def AV.ids (p : Nat -> Bool) : AV -> Bool
 | .v _ => true
 | .ptr id _ => p id
 | .sl id _ _ _ => p id
 | .slc id _ _ _ => p id
 | .emp id => p id
 | .agg cs => AV.idsL p cs
 | .tup cs => AV.idsL p cs
 | .fn _ a b => match AV.idsL p a with | true => AV.idsL p b | false => false
 | .ifc _ x => AV.ids p x
 | .mp id => p id
 | .yl id => p id
 | .held x => AV.ids p x
 | .junk => true
 | .si _ _ => true
 | .sb _ => true
 | .ss _ => true
 | .rs _ _ => true
 | .rp _ _ _ _ => true
 | .rw id => p id
 | .ep id _ _ _ => p id
 | .rwp id _ _ _ => p id
 | .opq id => p id
def AV.idsL (p : Nat -> Bool) : List AV -> Bool
 | [] => true
 | x :: xs => match AV.ids p x with | true => AV.idsL p xs | false => false
end
mutual
theorem Yfs {p : Nat -> Bool} {φ φ' : Phi} {ρ : Nat -> Nat} (h : ∀ i, p i = true -> φ' (ρ i) = φ i) : ∀ x : AV, x.ids p = true -> (x.ren ρ).conc φ' = x.conc φ
 | .v _, _ => rfl
 | .ptr id k, hx => by simp only [AV.ren, AV.conc, h id hx]
 | .sl id a b c, hx => by simp only [AV.ren, AV.conc, h id hx]
 | .slc id a b c, hx => by simp only [AV.ren, AV.conc, h id hx]
 | .emp id, hx => by simp only [AV.ren, AV.conc, h id hx]
 | .agg cs, hx => by simp only [AV.ren, AV.conc, Yby h cs hx]
 | .tup cs, hx => by simp only [AV.ren, AV.conc, Yby h cs hx]
 | .fn f a b, hx => by
  unfold AV.ids at hx
  split at hx
  ·rename_i h1;simp only [AV.ren, AV.conc, Yby h a h1, Yby h b hx]
  ·cases hx
 | .ifc t x, hx => by simp only [AV.ren, AV.conc, Yfs h x hx]
 | .mp id, hx => by simp only [AV.ren, AV.conc, h id hx]
 | .yl id, hx => by simp only [AV.ren, AV.conc, h id hx]
 | .held _, _ => rfl
 | .junk, _ => rfl
 | .si _ _, _ => rfl
 | .sb _, _ => rfl
 | .ss _, _ => rfl
 | .rs _ _, _ => rfl
 | .rp _ _ _ _, _ => rfl
 | .rw id, hx => by simp only [AV.ren, AV.conc, h id hx]
 | .ep id _ _ _, hx => by simp only [AV.ren, AV.conc, h id hx]
 | .rwp id _ _ _, hx => by simp only [AV.ren, AV.conc, h id hx]
 | .opq id, hx => by simp only [AV.ren, AV.conc, h id hx]
theorem Yby {p : Nat -> Bool} {φ φ' : Phi} {ρ : Nat -> Nat} (h : ∀ i, p i = true -> φ' (ρ i) = φ i) : ∀ xs : List AV, AV.idsL p xs = true -> AV.concL φ' (AV.renL ρ xs) = AV.concL φ xs
 | [], _ => rfl
 | x :: xs, hx => by
  unfold AV.idsL at hx
  split at hx
  ·rename_i h1;simp only [AV.renL, AV.concL, Yfs h x h1, Yby h xs hx]
  ·cases hx
end
def It.ren (ρ : Nat -> Nat) : It -> It
 | .blk T cs => .blk T (AV.renL ρ cs)
 | .row T sz n cs => .row T sz n (AV.renL ρ cs)
 | .rowV T sz n xs => .rowV T sz n xs
 | .obj x => .obj x
 | .lp L cs => .lp L (AV.renL ρ cs)
 | .dead => .dead
 | .arr T ts xs => .arr T ts xs
 | .bk T ts xs j => .bk T ts xs (ρ j)
 | .bkv T sz n cs j => .bkv T sz n (AV.renL ρ cs) (ρ j)
def Yso (ρ : Nat -> Nat) : It -> (It -> Prop) -> Prop
 | .blk T cs, K => Ygx ρ cs fun cs => K (.blk T cs)
 | .row T sz n cs, K => Ygx ρ cs fun cs => K (.row T sz n cs)
 | .rowV T sz n xs, K => K (.rowV T sz n xs)
 | .obj x, K => K (.obj x)
 | .lp L cs, K => Ygx ρ cs fun cs => K (.lp L cs)
 | .dead, K => K .dead
 | .arr T ts xs, K => K (.arr T ts xs)
 | .bk T ts xs j, K => Y1 (ρ j) fun j => K (.bk T ts xs j)
 | .bkv T sz n cs j, K => Y1 (ρ j) fun j => Ygx ρ cs fun cs => K (.bkv T sz n cs j)
theorem Ygy {ρ : Nat -> Nat} {x : It} {K : It -> Prop} : Yso ρ x K ↔ K (x.ren ρ) := by
 cases x <;> simp only [Yso, It.ren, Yb7, Yi]
def It.ids (p : Nat -> Bool) : It -> Bool
 | .blk _ cs => AV.idsL p cs
 | .row _ _ _ cs => AV.idsL p cs
 | .rowV .. => true
 | .obj _ => true
 | .lp _ cs => AV.idsL p cs
 | .dead => true
 | .arr .. => true
 | .bk _ _ _ j => p j
 | .bkv _ _ _ cs j => match p j with | true => AV.idsL p cs | false => false
theorem Yl9 {p : Nat -> Bool} {φ φ' : Phi} {ρ : Nat -> Nat} (h : ∀ i, p i = true -> φ' (ρ i) = φ i) {id : Nat} (hid : φ' (ρ id) = φ id) : ∀ x : It, x.ids p = true -> (x.ren ρ).conc φ' (ρ id) = x.conc φ id
 | .blk T cs, hx => by simp only [It.ren, It.conc, hid, Yby h cs hx]
 | .row T sz n cs, hx => by simp only [It.ren, It.conc, hid, Yby h cs hx]
 | .rowV .., hx => by simp only [It.ren, It.conc, hid]
 | .obj _, hx => by simp only [It.ren, It.conc, hid]
 | .lp L cs, hx => by simp only [It.ren, It.conc, hid, Yby h cs hx]
 | .dead, hx => rfl
 | .arr .., hx => by simp only [It.ren, It.conc, hid]
 | .bk _ _ _ j, hx => by simp only [It.ren, It.conc, hid, h j hx]
 | .bkv _ _ _ cs j, hx => by
  have hx' : (match p j with | true => AV.idsL p cs | false => false) = true := hx
  split at hx'
  ·rename_i h1;simp only [It.ren, It.conc, hid, h j h1, Yby h cs hx']
  ·cases hx'
mutual
theorem Ynf : ∀ x : AV, x.ids (fun _ => true) = true
 | .v _ => rfl
 | .ptr _ _ => rfl
 | .sl _ _ _ _ => rfl
 | .slc _ _ _ _ => rfl
 | .emp _ => rfl
 | .agg cs => Ydg cs
 | .tup cs => Ydg cs
 | .fn _ a b => by unfold AV.ids; rw [Ydg a]; exact Ydg b
 | .ifc _ x => Ynf x
 | .mp _ => rfl
 | .yl _ => rfl
 | .held x => Ynf x
 | .junk => rfl
 | .si _ _ => rfl
 | .sb _ => rfl
 | .ss _ => rfl
 | .rs _ _ => rfl
 | .rp _ _ _ _ => rfl
 | .rw _ => rfl
 | .ep _ _ _ _ => rfl
 | .rwp _ _ _ _ => rfl
 | .opq _ => rfl
theorem Ydg : ∀ xs : List AV, AV.idsL (fun _ => true) xs = true
 | [] => rfl
 | x :: xs => by unfold AV.idsL; rw [Ynf x]; exact Ydg xs
end
theorem Ykb (x : It) : x.ids (fun _ => true) = true := by cases x <;> first | rfl | exact Ydg _
mutual
theorem Yri : ∀ x : AV, x.ren (fun i => i) = x
 | .v _ => rfl
 | .ptr _ _ => rfl
 | .sl _ _ _ _ => rfl
 | .slc _ _ _ _ => rfl
 | .emp _ => rfl
 | .agg cs => by simp only [AV.ren, Yhv cs]
 | .tup cs => by simp only [AV.ren, Yhv cs]
 | .fn _ a b => by simp only [AV.ren, Yhv a, Yhv b]
 | .ifc _ x => by simp only [AV.ren, Yri x]
 | .mp _ => rfl
 | .yl _ => rfl
 | .held x => by simp only [AV.ren, Yri x]
 | .junk => rfl
 | .si _ _ => rfl
 | .sb _ => rfl
 | .ss _ => rfl
 | .rs _ _ => rfl
 | .rp _ _ _ _ => rfl
 | .rw _ => rfl
 | .ep _ _ _ _ => rfl
 | .rwp _ _ _ _ => rfl
 | .opq _ => rfl
theorem Yhv : ∀ xs : List AV, AV.renL (fun i => i) xs = xs
 | [] => rfl
 | x :: xs => by simp only [AV.renL, Yri x, Yhv xs]
end
theorem Yho {p : Nat -> Bool} {φ φ' : Phi} (h : ∀ i, p i = true -> φ' i = φ i) (x : AV) (hx : x.ids p = true) : x.conc φ' = x.conc φ := by
 have := Yfs (p := p) (ρ := fun i => i) (φ := φ) (φ' := φ') h x hx;rwa [Yri] at this
theorem Yq0 {p : Nat -> Bool} {φ φ' : Phi} (h : ∀ i, p i = true -> φ' i = φ i) {id : Nat} (hid : p id = true) (x : It) (hx : x.ids p = true) : x.conc φ' id = x.conc φ id := by
 have := Yl9 (p := p) (ρ := fun i => i) (φ := φ) (φ' := φ') h (id := id) (h id hid) x hx;have e : x.ren (fun i => i) = x := by cases x <;> simp only [It.ren, Yhv]
 rwa [e] at this
def rIn (i : Nat) : Nat := 3 * i + 1
def rOut (d i : Nat) : Nat := match Nat.beq (i % 3) 1 with | true => i / 3 | false => 3 * (i * 1024 + d) + 2
mutual
def AV.lead : AV -> List Nat -> List Nat
 | .v _, acc => acc
 | .ptr id _, acc => id :: acc
 | .sl id _ _ _, acc => id :: acc
 | .slc id _ _ _, acc => id :: acc
 | .emp id, acc => id :: acc
 | .agg cs, acc => AV.leadL cs acc
 | .tup cs, acc => AV.leadL cs acc
 | .fn _ a b, acc => AV.leadL a (AV.leadL b acc)
 | .ifc _ x, acc => AV.lead x acc
 | .mp id, acc => id :: acc
 | .yl id, acc => id :: acc
 | .held x, acc => AV.lead x acc
 | .junk, acc => acc
 | .si _ _, acc => acc
 | .sb _, acc => acc
 | .ss _, acc => acc
 | .rs _ _, acc => acc
 | .rp _ _ _ _, acc => acc
 | .rw id, acc => id :: acc
 | .ep id _ _ _, acc => id :: acc
 | .rwp id _ _ _, acc => id :: acc
 | .opq id, acc => id :: acc
def AV.leadL : List AV -> List Nat -> List Nat
 | [], acc => acc
 | x :: xs, acc => AV.lead x (AV.leadL xs acc)
end
def It.lead : It -> List Nat -> List Nat
 | .blk _ cs, acc => AV.leadL cs acc
 | .row _ _ _ cs, acc => AV.leadL cs acc
 | .lp _ cs, acc => AV.leadL cs acc
 | .bk _ _ _ j, acc => j :: acc
 | .bkv _ _ _ cs j, acc => j :: AV.leadL cs acc
 | _, acc => acc
def Yf0 (p : Nat -> Bool) (hp : Heap) : Nat -> List Nat -> Heap -> (Heap -> Prop) -> Prop
 | 0, _, _, _ => Stuck 48
 | _ + 1, [], hs, K => K hs
 | n + 1, i :: is, hs, K => match p i with
  | false => Yf0 p hp n is hs K
  | true => match look hs i with
   | some _ => Yf0 p hp n is hs K
   | none => match look hp i with
    | none => Yf0 p hp n is hs K
    | some it => Yf0 p hp n (it.lead is) ((i, it) :: hs) K
theorem Ybv {p : Nat -> Bool} {hp : Heap} : ∀ {n : Nat} {is : List Nat} {hs : Heap} {K : Heap -> Prop}, PartOf hs hp -> (∀ i ∈ keys hs, p i = true) -> Yf0 p hp n is hs K -> ∃ hs', PartOf hs' hp /\ (∀ i ∈ keys hs', p i = true) /\ K hs'
 | 0, _, _, _, _, _, h => h.elim
 | _ + 1, [], hs, K, hpart, hall, h => ⟨hs, hpart, hall, h⟩
 | n + 1, i :: is, hs, K, hpart, hall, h => by
  unfold Yf0 at h
  split at h
  ·exact Ybv hpart hall h
  ·rename_i hpi
   split at h
   ·exact Ybv hpart hall h
   ·rename_i hno
    split at h
    ·exact Ybv hpart hall h
    ·rename_i it hit;refine Ybv ⟨?_, ?_⟩ ?_ h
     ·simp only [keys, List.map_cons, List.nodup_cons];refine ⟨fun hm => ?_, hpart.nd⟩;obtain ⟨q, hq, e⟩ := List.mem_map.1 hm;have := Ybq hpart.nd hq;rw [e, hno] at this;cases this
     ·intro q hq;rcases List.mem_cons.1 hq with rfl | hq
      ·exact hit
      ·exact hpart.all q hq
     ·intro k hk;simp only [keys, List.map_cons, List.mem_cons] at hk;rcases hk with rfl | hk
      ·exact hpi
      ·exact hall k hk
def nilA (a : Array Value) : Bool := match a with | ⟨[]⟩ => true | ⟨_ :: _⟩ => false
theorem Yg5 {a : Array Value} (h : nilA a = true) : a = #[] := by
 obtain ⟨l⟩ := a;cases l with
 | nil => rfl
 | cons _ _ => cases h
def Yrf (f g : Fn) : Bool := match f, g with | .func i, .func j => Nat.beq i j | _, _ => false
theorem Yqc {f g : Fn} (h : Yrf f g = true) : f = g := by
 unfold Yrf at h
 split at h
 ·rw [Ye.1 h]
 ·cases h
def Yb4 : Value -> Value -> Bool
 | .int k n, .int k' n' => decide (k = k') && decide (n = n')
 | .bool a, .bool b => match a, b with | true, true => true | false, false => true | _, _ => false
 | .string a, .string b => decide (a.data = b.data)
 | .pointer none, .pointer none => true
 | .slice none n c, .slice none n' c' => Nat.beq n n' && Nat.beq c c'
 | .map none, .map none => true
 | .nilFunc, .nilFunc => true
 | .nilIface, .nilIface => true
 | .iface t v, .iface t' v' => Nat.beq t t' && Yb4 v v'
 | .func f a c, .func f' a' c' => nilA a && nilA c && nilA a' && nilA c' && Yrf f f'
 | _, _ => false
theorem Yc3 : ∀ (a b : Value), Yb4 a b = true -> a = b
 | .iface t v, b, h => by
  cases b <;> simp only [Yb4, Bool.and_eq_true, Bool.false_eq_true] at h;rw [Ye.1 h.1, Yc3 v _ h.2]
 | .int k n, b, h => by cases b <;> simp_all [Yb4]
 | .bool a, b, h => by
  cases b <;> simp only [Yb4, Bool.false_eq_true] at h;rename_i b;cases a <;> cases b <;> simp_all
 | .string a, b, h => by
  cases b <;> simp only [Yb4, decide_eq_true_eq, Bool.false_eq_true] at h;rename_i b;cases a; cases b
  simp_all
 | .pointer none, b, h => by
  cases b <;> try (simp [Yb4] at h; done)
  rename_i b;cases b <;> simp_all [Yb4]
 | .pointer (some _), b, h => by simp [Yb4] at h
 | .slice none n c, b, h => by
  cases b <;> try (simp [Yb4] at h; done)
  rename_i b n' c';cases b <;> simp only [Yb4, Bool.and_eq_true, Ye, Bool.false_eq_true] at h;rw [h.1, h.2]
 | .slice (some _) n c, b, h => by simp [Yb4] at h
 | .map none, b, h => by
  cases b <;> try (simp [Yb4] at h; done)
  rename_i b;cases b <;> simp_all [Yb4]
 | .map (some _), b, h => by simp [Yb4] at h
 | .nilFunc, b, h => by cases b <;> simp_all [Yb4]
 | .nilIface, b, h => by cases b <;> simp_all [Yb4]
 | .float _ _, b, h => by simp [Yb4] at h
 | .complex _ _ _, b, h => by simp [Yb4] at h
 | .chan _, b, h => by simp [Yb4] at h
 | .func f a c, b, h => by
  cases b <;> simp only [Yb4, Bool.and_eq_true, Bool.false_eq_true] at h;obtain ⟨⟨⟨⟨h1, h2⟩, h3⟩, h4⟩, h5⟩ := h;rw [Yg5 h1, Yg5 h2, Yg5 h3, Yg5 h4, Yqc h5]
 | .agg _, b, h => by simp [Yb4] at h
 | .tuple _, b, h => by simp [Yb4] at h
mutual
def Yc0 : AV -> AV -> Bool
 | .v a, .v b => Yb4 a b
 | .ptr i k, .ptr i' k' => Nat.beq i i' && Nat.beq k k'
 | .sl i a b c, .sl i' a' b' c' => Nat.beq i i' && Nat.beq a a' && Nat.beq b b' && Nat.beq c c'
 | .mp i, .mp i' => Nat.beq i i'
 | .yl i, .yl i' => Nat.beq i i'
 | .rw i, .rw i' => Nat.beq i i'
 | .opq i, .opq i' => Nat.beq i i'
 | .ifc t x, .ifc t' x' => Nat.beq t t' && Yc0 x x'
 | .agg a, .agg b => sameL a b
 | _, _ => false
def sameL : List AV -> List AV -> Bool
 | [], [] => true
 | x :: xs, y :: ys => match Yc0 x y with | true => sameL xs ys | false => false
 | _, _ => false
end
mutual
theorem Ylt : ∀ (a b : AV), Yc0 a b = true -> a = b
 | .v a, b, h => by cases b <;> simp only [Yc0, Bool.false_eq_true] at h; rw [Yc3 _ _ h]
 | .ptr i k, b, h => by cases b <;> simp only [Yc0, Bool.and_eq_true, Ye, Bool.false_eq_true] at h; rw [h.1, h.2]
 | .sl i x y z, b, h => by cases b <;> simp only [Yc0, Bool.and_eq_true, Ye, Bool.false_eq_true] at h; rw [h.1.1.1, h.1.1.2, h.1.2, h.2]
 | .mp i, b, h => by cases b <;> simp only [Yc0, Ye, Bool.false_eq_true] at h; rw [h]
 | .yl i, b, h => by cases b <;> simp only [Yc0, Ye, Bool.false_eq_true] at h; rw [h]
 | .ifc t x, b, h => by cases b <;> simp only [Yc0, Bool.and_eq_true, Ye, Bool.false_eq_true] at h; rw [h.1, Ylt x _ h.2]
 | .agg a, b, h => by cases b <;> simp only [Yc0, Bool.false_eq_true] at h; rw [Yfl a _ h]
 | .slc _ _ _ _, b, h => by simp [Yc0] at h
 | .emp _, b, h => by simp [Yc0] at h
 | .tup _, b, h => by simp [Yc0] at h
 | .fn _ _ _, b, h => by simp [Yc0] at h
 | .held _, b, h => by simp [Yc0] at h
 | .junk, b, h => by simp [Yc0] at h
 | .si _ _, b, h => by simp [Yc0] at h
 | .sb _, b, h => by simp [Yc0] at h
 | .ss _, b, h => by simp [Yc0] at h
 | .rs _ _, b, h => by simp [Yc0] at h
 | .rp _ _ _ _, b, h => by simp [Yc0] at h
 | .rw i, b, h => by cases b <;> simp only [Yc0, Ye, Bool.false_eq_true] at h; rw [h]
 | .ep _ _ _ _, b, h => by simp [Yc0] at h
 | .rwp _ _ _ _, b, h => by simp [Yc0] at h
 | .opq i, b, h => by cases b <;> simp only [Yc0, Ye, Bool.false_eq_true] at h; rw [h]
theorem Yfl : ∀ (a b : List AV), sameL a b = true -> a = b
 | [], b, h => by cases b <;> simp_all [sameL]
 | x :: xs, b, h => by
  cases b with
  | nil => simp [sameL] at h
  | cons y ys =>
   unfold sameL at h
   split at h
   ·rename_i h1;rw [Ylt x y h1, Yfl xs ys h]
   ·cases h
end
def Ysi : List MapEntry -> List MapEntry -> Bool
 | [], [] => true
 | e :: es, f :: fs => Yb4 e.key f.key && Yb4 e.val f.val && Nat.beq e.born f.born && Ysi es fs
 | _, _ => false
theorem Yls : ∀ {a b : List MapEntry}, Ysi a b = true -> a = b
 | [], b, h => by cases b <;> simp_all [Ysi]
 | e :: es, b, h => by
  cases b with
  | nil => simp [Ysi] at h
  | cons f fs =>
   simp only [Ysi, Bool.and_eq_true, Ye] at h;obtain ⟨k, v, n⟩ := e;obtain ⟨k', v', n'⟩ := f;obtain ⟨⟨⟨h1, h2⟩, h3⟩, h4⟩ := h;have e1 : k = k' := Yc3 _ _ h1;have e2 : v = v' := Yc3 _ _ h2;have e3 : n = n' := h3;rw [e1, e2, e3, Yls h4]
def sameI : It -> It -> Bool
 | .blk T a, .blk T' b => Nat.beq T T' && sameL a b
 | .row T s n a, .row T' s' n' b => Nat.beq T T' && Nat.beq s s' && Nat.beq n n' && sameL a b
 | .obj (.sit s p), .obj (.sit s' p') => Nat.beq p p' && decide (s.data = s'.data)
 | .obj (.mpV es k), .obj (.mpV es' k') => Nat.beq k k' && Ysi es es'
 | .dead, .dead => true
 | _, _ => false
theorem Ylr {a b : It} (h : sameI a b = true) : a = b := by
 unfold sameI at h
 split at h
 ·simp only [Bool.and_eq_true, Ye] at h;rw [h.1, Yfl _ _ h.2]
 ·simp only [Bool.and_eq_true, Ye] at h;rw [h.1.1.1, h.1.1.2, h.1.2, Yfl _ _ h.2]
 ·rename_i s p s' p';simp only [Bool.and_eq_true, Ye, decide_eq_true_eq] at h;obtain ⟨d⟩ := s;obtain ⟨d'⟩ := s';rw [h.1, show d = d' from h.2]
 ·simp only [Bool.and_eq_true, Ye] at h;rw [h.1, Yls h.2]
 ·rfl
 ·cases h
end Go.Proofs.Ytmogofidmchdoaa
namespace Go.Proofs.Ytmogofidmchdoaa
open Go.RowKit
variable [InW]
def Yxz (o : Oper) : Bool :=
 match o.op with
 | .alloc _ => true
 | .box _ _ => true
 | .buildSlice _ _ _ => true
 | .makeSlice _ _ _ => true
 | .slice _ _ _ _ _ => true
 | .range _ _ => true
 | .makeMap _ _ => true
 | .call _ => true
 | _ => false
def Yzn (d k : Nat) : Bool := match Nat.beq k (3 * d) with | true => true | false => (match Nat.beq (k % 3) 2 with | true => Nat.beq ((k / 3) % 1024) d | false => false)
def Yvn : List Oper -> Nat -> Bool
 | [], _ => false
 | o :: os, k => match Yxz o with | true => (match Yzn (o.dst.getD 0) k with | true => true | false => Yvn os k) | false => Yvn os k
def hitB (d d3 : Nat) : Heap -> Bool
 | [] => false
 | p :: h => match Nat.beq p.1 d3 with
  | true => true
  | false => match Nat.beq (p.1 % 3) 2 with
   | true => (match Nat.beq ((p.1 / 3) % 1024) d with | true => true | false => hitB d d3 h)
   | false => hitB d d3 h
def Yvm : List Oper -> Heap -> Bool
 | [], _ => false
 | o :: os, hp => match Yxz o with
  | true => (match hitB (o.dst.getD 0) (3 * o.dst.getD 0) hp with | true => true | false => Yvm os hp)
  | false => Yvm os hp
def tabK (ops : List Oper) : Heap -> Nat -> (List (Nat × Nat) -> Prop) -> Prop
 | [], _, K => K []
 | p :: h, m, K => match Yvn ops p.1 with
  | true => Y1 (m + 1) fun m' => tabK ops h m' fun r => Y1 (3 * m') fun i => K ((p.1, i) :: r)
  | false => tabK ops h m K
def maxK : Heap -> Nat -> Nat
 | [], m => m
 | p :: h, m => match Nat.ble (3 * m) p.1 with | true => maxK h (p.1 / 3 + 1) | false => maxK h m
def rho2 : List (Nat × Nat) -> Nat -> Nat
 | [], i => i
 | q :: t, i => match Nat.beq q.1 i with | true => q.2 | false => rho2 t i
def Ygl : List (Nat × Nat) -> Nat -> Option Nat
 | [], _ => none
 | q :: t, y => match Nat.beq q.2 y with | true => some q.1 | false => Ygl t y
def Yd5 : List Nat -> Bool
 | [] => true
 | x :: xs => match xs.contains x with | true => false | false => Yd5 xs
def oldB (t : List (Nat × Nat)) (i : Nat) : Bool := match Ygl t i with | some _ => false | none => true
def tabB (t : List (Nat × Nat)) : Bool := match t with
 | [] => true
 | q :: t => match Ygl t q.2 with
  | some _ => false
  | none => match Nat.beq (q.2 % 3) 1 with | true => false | false => tabB t
def Yy7 (t : List (Nat × Nat)) (tm : List AV) (hp : Heap) : Bool := tabB t && AV.idsL (oldB t) tm && (hp.all fun p => oldB t p.1 && p.2.ids (oldB t)) && Yd5 (hp.map fun p => rho2 t p.1)
def Yrk (t : List (Nat × Nat)) : Heap -> (Heap -> Prop) -> Prop
 | [], K => K []
 | p :: h, K => Y1 (rho2 t p.1) fun i => Yso (rho2 t) p.2 fun x => Yrk t h fun r => K ((i, x) :: r)
def Yt1 (t : List (Nat × Nat)) (h : Heap) : Heap := h.map fun p => (rho2 t p.1, p.2.ren (rho2 t))
theorem Yly {t : List (Nat × Nat)} : ∀ {h : Heap} {K : Heap -> Prop}, Yrk t h K ↔ K (Yt1 t h)
 | [], K => Iff.rfl
 | p :: h, K => by simp only [Yrk, Yi, Ygy, Yly (h := h), Yt1, List.map_cons]
def Yt2 (n : Nat) (ops : List Oper) (tm : List AV) (hp : Heap) (K : List AV -> Heap -> Prop) : Prop :=
 match Yvm ops hp with
 | false => K tm hp
 | true => Yf0 (fun _ => true) hp n (AV.leadL tm []) [] fun hs => tabK ops hs (maxK hs 1024) fun t => match t with
  | [] => K tm hs
  | q :: t => Yb (Yy7 (q :: t) tm hs) (Ygx (rho2 (q :: t)) tm fun tm' => Yrk (q :: t) hs fun hp' => K tm' hp')
theorem Yxa {t : List (Nat × Nat)} (ht : tabB t = true) {φ : Phi} {i : Nat} (hi : oldB t i = true) : (match Ygl t (rho2 t i) with | some o => φ o | none => φ (rho2 t i)) = φ i := by
 induction t with
 | nil => rfl
 | cons q t ih =>
  unfold tabB at ht
  split at ht
  ·cases ht
  ·rename_i h1
   split at ht
   ·cases ht
   ·have hi2 : oldB t i = true /\ ¬ q.2 = i := by
     unfold oldB Ygl at hi
     split at hi
     ·cases hi
     ·rename_i hb
      split at hb
      ·cases hb
      ·rename_i hne;exact ⟨by unfold oldB; rw [hb], Y2.1 hne⟩
    unfold rho2;cases hb : Nat.beq q.1 i with
    | true =>
     simp only [Ygl, Nat.beq_refl];rw [Ye.1 hb]
    | false =>
     have := ih ht hi2.1;simp only;unfold Ygl;cases hb2 : Nat.beq q.2 (rho2 t i) with
     | false => exact this
     | true =>
      exfalso;have e := Ye.1 hb2;have key : ∀ (t : List (Nat × Nat)) (j : Nat), rho2 t j = j \/ Ygl t (rho2 t j) ≠ none := by
       intro t
       induction t with
       | nil => intro j; exact .inl rfl
       | cons r t ih2 =>
        intro j;unfold rho2;cases hr : Nat.beq r.1 j with
        | true => right; simp [Ygl, Nat.beq_refl]
        | false =>
         simp only;rcases ih2 j with h | h
         ·exact .inl h
         ·right;unfold Ygl
          split
          ·simp
          ·exact h
      rcases key t i with h | h
      ·exact hi2.2 (by rw [e, h])
      ·rw [<- e] at h;exact h h1
theorem Ybb : ∀ {l : List Nat}, Yd5 l = true -> l.Nodup
 | [], _ => List.nodup_nil
 | x :: xs, h => by
  unfold Yd5 at h
  split at h
  ·cases h
  ·rename_i h1;refine List.nodup_cons.2 ⟨fun hm => ?_, Ybb h⟩;rw [List.contains_iff_mem.2 hm] at h1;cases h1
theorem Yrd : ∀ {t : List (Nat × Nat)}, tabB t = true -> ∀ y, Ygl t y ≠ none -> y % 3 ≠ 1
 | [], _, y, h => absurd rfl h
 | q :: t, ht, y, h => by
  unfold tabB at ht
  split at ht
  ·cases ht
  ·split at ht
   ·cases ht
   ·rename_i hm;unfold Ygl at h
    split at h
    ·rename_i hb; rw [<- Ye.1 hb]; exact Y2.1 hm
    ·exact Yrd ht y h
theorem RepS.sub {φ0 φ : Phi} {w0 : World} {M : List Nat} {R : RL} {tm : List AV} {hp hs : Heap} {a : Act} {w : World} (h : RepS φ0 φ w0 M R tm hp a w) (hp' : PartOf hs hp) : RepS φ0 φ w0 M R tm hs a w := by
 refine ⟨h.tmps, ?_, hp'.nd, h.base⟩;have := h.st.perm ((Yu (hp'.perm h.nd)).append (List.Perm.refl R));rw [Yn, List.append_assoc] at this;exact this.sub ((List.Sublist.refl _).append (List.sublist_append_right _ _))
theorem Ygw (ρ : Nat -> Nat) : ∀ (xs : List AV) (t : Nat), (AV.renL ρ xs)[t]? = (xs[t]?).map (AV.ren ρ)
 | [], t => by simp [AV.renL]
 | x :: xs, 0 => by simp [AV.renL]
 | x :: xs, t + 1 => by simpa [AV.renL] using Ygw ρ xs t
theorem Ywc {ρ : Nat -> Nat} {x : AV} (h : (x.ren ρ).rd = true) : x.rd = true := by cases x <;> first | rfl | exact h
theorem Ym5 (ρ : Nat -> Nat) (x : AV) : (x.ren ρ).isHeld = x.isHeld := by cases x <;> rfl
theorem Yh1 (ρ : Nat -> Nat) : ∀ tm : List AV, Ybl (AV.renL ρ tm) = (Ybl tm).map (AV.ren ρ)
 | [] => rfl
 | x :: xs => by rw [AV.renL, Ybd, Ybd, Yh1 ρ xs]; cases x <;> rfl
theorem Yng {p : Nat -> Bool} : ∀ {xs : List AV}, AV.idsL p xs = true -> ∀ x ∈ xs, x.ids p = true
 | [], _, x, hx => by cases hx
 | y :: ys, h, x, hx => by
  unfold AV.idsL at h
  split at h
  ·rename_i h1;rcases List.mem_cons.1 hx with rfl | hx
   ·exact h1
   ·exact Yng h x hx
  ·cases h
theorem Yju {n : Nat} {ops : List Oper} {tm : List AV} {hp : Heap} {K : List AV -> Heap -> Prop} (h : Yt2 n ops tm hp K) : ∃ tm' hp', K tm' hp' /\
  ∀ (φ0 φ : Phi) (w0 : World) (M : List Nat) (R : RL) (a : Act) (w : World), RepS φ0 φ w0 M R tm hp a w -> ∃ φ', RepS φ0 φ' w0 M R tm' hp' a w := by
 unfold Yt2 at h
 split at h
 ·exact ⟨tm, hp, h, fun φ0 φ w0 M R a w hr => ⟨φ, hr⟩⟩
 ·obtain ⟨hs, hpart, _, h1⟩ := Ybv (PartOf.nil hp) (by simp [keys]) h;have htab : ∀ {h : Heap} {m : Nat} {K : List (Nat × Nat) -> Prop}, tabK ops h m K -> ∃ t, K t := by
   intro h
   induction h with
   | nil => intro m K hk; exact ⟨[], hk⟩
   | cons p h ih =>
    intro m K hk;unfold tabK at hk
    split at hk
    ·obtain ⟨r, hr⟩ := ih (Yi.1 hk);exact ⟨_, Yi.1 hr⟩
    ·exact ih hk
  obtain ⟨t, h2⟩ := htab h1
  split at h2
  ·exact ⟨tm, hs, h2, fun φ0 φ w0 M R a w hr => ⟨φ, hr.sub hpart⟩⟩
  ·rename_i q t;generalize q :: t = t at h2;obtain ⟨hB, h3⟩ := Ya h2;simp only [Yy7, Bool.and_eq_true] at hB;obtain ⟨⟨⟨b1, b2⟩, b3⟩, b4⟩ := hB;have h4 := Yly.1 ((Yb7 _ _ _).1 h3);refine ⟨_, _, h4, fun φ0 φ w0 M R a w hr0 => ?_⟩;have hr := hr0.sub hpart;obtain ⟨φ', hdef⟩ : ∃ φ' : Phi, φ' = fun y => match Ygl t y with | some o => φ o | none => φ y := ⟨_, rfl⟩
   have hφ : ∀ i, oldB t i = true -> φ' (rho2 t i) = φ i := fun i hi => by rw [hdef]; exact Yxa b1 hi
   refine ⟨φ', ⟨⟨fun s v hv hh => ?_, fun s v hv hh => ?_, fun s v hv hj => ?_, ?_, ?_⟩, ?_, ?_, fun x => ?_⟩⟩
   ·rw [Ygw, Option.map_eq_some_iff] at hv;obtain ⟨u, hu, rfl⟩ := hv;exact hr.tmps.size s u hu (by rw [<- Ym5 (rho2 t), hh])
   ·rw [Ygw, Option.map_eq_some_iff] at hv;obtain ⟨u, hu, rfl⟩ := hv;exact hr.tmps.held s u hu (by rw [<- Ym5 (rho2 t), hh])
   ·rw [Ygw, Option.map_eq_some_iff] at hv;obtain ⟨u, hu, rfl⟩ := hv;rw [hr.tmps.slot s u hu (Ywc hj), Yfs hφ u (Yng b2 u (List.mem_of_getElem? hu))]
   ·rw [Yh1, List.map_map];rw [hr.tmps.df]
    congr 1
    refine List.map_congr_left fun x hx => ?_;have := Yng b2 _ (Yd8 hx);unfold Yd0;simp only [Function.comp, Yd0, Yfs hφ x this]
   ·have : (AV.renL (rho2 t) tm).length = tm.length := by
     have := congrArg List.length (Yby hφ tm b2);simpa [Yd] using this
    rw [this]; exact hr.tmps.len
   ·have e : Yc φ' (Yt1 t hs) = Yc φ hs := by
     unfold Yc Yt1;rw [List.map_map];refine List.map_congr_left fun p hp' => ?_;have := List.all_eq_true.1 b3 p hp';rw [Bool.and_eq_true] at this;exact Yl9 hφ (hφ p.1 this.1) p.2 this.2
    rw [e];exact hr.st
   ·have := Ybb b4;simpa [keys, Yt1, Function.comp_def] using this
   ·have hno : Ygl t (3 * x + 1) = none := by
     cases hb : Ygl t (3 * x + 1) with
     | none => rfl
     | some o => exact absurd (by omega) (Yrd b1 (3 * x + 1) (by rw [hb]; simp))
    rw [hdef];simp only [hno];exact hr.base x
end Go.Proofs.Ytmogofidmchdoaa
namespace Go.Proofs.Ytmogofidmchdoaa
open Go.RowKit
variable [InW]
attribute [local irreducible] Go.Oper.wp
def Yuq (e : Ev) (i : Nat) : Bool := !(e.val.has i) && !(hasH i e.us) && !(hasH i e.nw)
def Yfg (e : Ev) : Heap -> Bool
 | [] => true
 | p :: h => match Yuq e p.1 with | true => Yfg e h | false => false
def disjB : Heap -> Heap -> Bool
 | [], _ => true
 | p :: a, b => match look b p.1 with | none => disjB a b | some _ => false
def indB (ol : List Oper) (e f : Ev) : Bool := e.o.apart ol.toArray f.o && disjB e.us f.hs && disjB f.us e.hs && disjB e.nw f.hs && Yfg f e.nw
def Yx9 (ol : List Oper) (ms : List Nat) (p q : Nat × Ev) : Bool :=
 match Yfg p.2 q.2.nw with
 | false => false
 | true => match (nthN ms q.1).testBit p.1 with | true => true | false => indB ol p.2 q.2
def Yrn (ol : List Oper) (ms : List Nat) : Todo -> Bool
 | [] => true
 | p :: r => match r.all (Yx9 ol ms p) with | true => Yrn ol ms r | false => false
def Yhh (tm : List AV) (hp : Heap) : Todo -> Bool
 | [] => true
 | p :: r => match Yot p.2.nw tm hp with | true => Yhh tm hp r | false => false
def Yzk (ol : List Oper) (tm : List AV) (hp : Heap) (r : Todo) : Bool := Ytg ol 0 && Yhh tm hp r && Yrn ol (Ycw ol []) r
abbrev KD := Todo -> Nat -> Ev -> List AV -> Heap -> Prop
def Ynw (c : Cx) (ol : List Oper) (KP : KD) : List Oper -> Nat -> Todo -> List AV -> Heap -> (Todo -> List AV -> Heap -> Prop) -> Prop
 | [], _, acc, tm, hp, K => K acc tm hp
 | o :: rest, i, acc, tm, hp, K => Yo7 ol o tm
   (Yv1 c o tm hp (fun val hs us nw => Yn8 ol o val fun val => Yeu hp us fun hp' => Yen hp' nw fun hp' => putK tm o.dst val fun tm' => Ynw c ol KP rest (i + 1) ((i, ⟨o, false, val, hs, us, nw⟩) :: acc) tm' hp' K) (fun val hs us nw => KP acc i ⟨o, false, val, hs, us, nw⟩ tm hp))
   (putK tm o.dst (.v undef) fun tm' => Ynw c ol KP rest (i + 1) ((i, ⟨o, true, .v undef, [], [], []⟩) :: acc) tm' hp K)
def Yzj (ol : List Oper) (tm : List AV) (hp : Heap) (r : Todo) (j : Nat) (f : Ev) : Bool := false
def Ywu (ds : List (Option Tmp)) : List AV -> Nat -> (List AV -> Prop) -> Prop
 | [], _, K => K []
 | x :: xs, t, K => match ds.contains (some t) with
  | true => (match x with
   | .held y => Ywu ds xs (t + 1) fun r => K (.held y :: r)
   | _ => Ywu ds xs (t + 1) fun r => K (.junk :: r))
  | false => Ywu ds xs (t + 1) fun r => K (x :: r)
def Yxk (c : Cx) (ol : List Oper) (tm : List AV) (hp : Heap) (K : KX) : Prop :=
 Ynw c ol (fun acc j f tm' hp' => Yb (Yzj ol tm hp acc.reverse j f) (Yeu hp' f.us fun hp' => Yen hp' f.nw fun hp' => Ywu (ol.map (·.dst)) tm 0 fun tmj => K (.pan f.val) tmj hp')) ol 0 [] tm hp
  fun acc tm' hp' => Yb (Yzk ol tm hp acc.reverse) (K .norm tm' hp')
theorem Yqx {e : Ev} {i : Nat} (h : Yuq e i = true) : e.lacks i := by
 simp only [Yuq, Bool.and_eq_true, Bool.not_eq_true'] at h;exact ⟨h.1.1, h.1.2, h.2⟩
theorem Yd1 {e : Ev} : ∀ {h : Heap}, Yfg e h = true -> ∀ i ∈ keys h, e.lacks i
 | [], _, i, hi => by simp [keys] at hi
 | p :: h, hb, i, hi => by
  unfold Yfg at hb
  split at hb
  ·rename_i h1;simp only [keys, List.map_cons, List.mem_cons] at hi;rcases hi with rfl | hi
   ·exact Yqx h1
   ·exact Yd1 hb i hi
  ·cases hb
theorem Yfr : ∀ {a b : Heap}, disjB a b = true -> disj (keys a) (keys b)
 | [], b, _, i, hi => by simp [keys] at hi
 | p :: a, b, h, i, hi => by
  unfold disjB at h
  split at h
  ·rename_i h1;simp only [keys, List.map_cons, List.mem_cons] at hi;rcases hi with rfl | hi
   ·intro hm;obtain ⟨q, hq, e⟩ := List.mem_map.1 hm;have : look b p.1 ≠ none := by
     intro h2;have hx : ∀ {h : Heap} {i : Nat}, look h i = none -> i ∉ keys h := by
      intro h
      induction h with
      | nil => intro i _ hm; simp [keys] at hm
      | cons r h ih =>
       intro i hl hm;rw [Yr] at hl
       split at hl
       ·cases hl
       ·rename_i hne;simp only [keys, List.map_cons, List.mem_cons] at hm;rcases hm with e | hm
        ·exact hne e.symm
        ·exact ih hl hm
     exact hx h2 hm
    exact this h1
   ·exact Yfr h i hi
  ·cases h
theorem Yuu {ol : List Oper} {e f : Ev} (h : indB ol e f = true) : Ind ol e f := by
 simp only [indB, Bool.and_eq_true] at h;exact ⟨h.1.1.1.1, Yfr h.1.1.1.2, Yfr h.1.1.2, Yfr h.1.2, Yd1 h.2⟩
theorem Ysu {ol : List Oper} {p q : Nat × Ev} (h : Yx9 ol (Ycw ol []) p q = true) : PairOk ol p q := by
 unfold Yx9 at h
 split at h
 ·cases h
 ·rename_i h1;refine ⟨Yd1 h1, ?_⟩
  split at h
  ·rename_i h2; exact .inl (Ymp h2)
  ·exact .inr (Yuu h)
theorem Yjx {ol : List Oper} : ∀ {r : Todo}, Yrn ol (Ycw ol []) r = true -> r.Pairwise (PairOk ol)
 | [], _ => List.Pairwise.nil
 | p :: r, h => by
  unfold Yrn at h
  split at h
  ·rename_i h1;exact List.Pairwise.cons (fun q hq => Ysu (List.all_eq_true.1 h1 q hq)) (Yjx h)
  ·cases h
theorem Yf2 {tm : List AV} {hp : Heap} : ∀ {r : Todo}, Yhh tm hp r = true -> ∀ p ∈ r, NewFor (keys p.2.nw) tm hp /\ (keys p.2.nw).Nodup /\ ∀ i ∈ keys p.2.nw, i % 3 ≠ 1
 | [], _, p, hp => by cases hp
 | q :: r, h, p, hp => by
  unfold Yhh at h
  split at h
  ·rename_i h1;rcases List.mem_cons.1 hp with rfl | hp
   ·exact Yc7 h1
   ·exact Yf2 h p hp
  ·cases h
structure StepW (P : Program) (ol : List Oper) (e : Ev) (tm : List AV) (hp : Heap) : Prop where
 part : PartOf e.hs hp
 sub : ∀ i ∈ keys e.us, i ∈ keys e.hs
 run : (e.skip = true /\ WantA ol e.o tm false /\ e.val = .v undef /\ e.us = [] /\ e.nw = []) \/ (e.skip = false /\ WantA ol e.o tm true /\ DoesW P e.o tm e.hs e.val e.us e.nw)
def ChainW (P : Program) (ol : List Oper) : Todo -> List AV -> Heap -> List AV -> Heap -> Prop
 | [], tm, hp, tm', hp' => tm = tm' /\ hp = hp'
 | p :: r, tm, hp, tm', hp' => StepW P ol p.2 tm hp /\ ChainW P ol r (p.2.tm tm) (p.2.hp hp) tm' hp'
theorem ChainW.chain {P : Program} {ol : List Oper} {tm' : List AV} {hp' : Heap} : ∀ {r : Todo} {tm : List AV} {hp : Heap}, ChainW P ol r tm hp tm' hp' -> (∀ p ∈ r, (keys p.2.nw).Nodup /\ ∀ i ∈ keys p.2.nw, i % 3 ≠ 1) -> Yvx P ol r tm hp tm' hp'
 | [], _, _, h, _ => h
 | p :: r, tm, hp, h, hn => ⟨⟨h.1.part, h.1.sub, (hn p List.mem_cons_self).1, (hn p List.mem_cons_self).2, h.1.run⟩, h.2.chain fun q hq => hn q (List.mem_cons_of_mem _ hq)⟩
structure StepWP (P : Program) (ol : List Oper) (f : Ev) (tm : List AV) (hp : Heap) : Prop where
 part : PartOf f.hs hp
 sub : ∀ i ∈ keys f.us, i ∈ keys f.hs
 want : WantA ol f.o tm true
 does : DoesPW P f.o tm f.hs f.val f.us f.nw
theorem Yi7 {c : Cx} {ol : List Oper} {KP : KD} (hc : HandOkR c) : ∀ (l : List Oper) (i : Nat) (acc : Todo) (tm : List AV) (hp : Heap) (K : Todo -> List AV -> Heap -> Prop), Ynw c ol KP l i acc tm hp K ->
  (∃ (r : Todo) (tm' : List AV) (hp' : Heap), K (r.reverse ++ acc) tm' hp' /\ ChainW c.P ol r tm hp tm' hp' /\ r.map (·.1) = List.range' i l.length /\ r.map (·.2.o) = l) \/
  (∃ (r : Todo) (f : Ev) (tm' : List AV) (hp' : Heap), KP (r.reverse ++ acc) (i + r.length) f tm' hp' /\ ChainW c.P ol r tm hp tm' hp' /\ r.map (·.1) = List.range' i r.length /\ (∃ rest, r.map (·.2.o) ++ f.o :: rest = l) /\ StepWP c.P ol f tm' hp')
 | [], i, acc, tm, hp, K, h => .inl ⟨[], tm, hp, h, ⟨rfl, rfl⟩, rfl, rfl⟩
 | o :: rest, i, acc, tm, hp, K, h => by
  have fin : ∀ (e : Ev), e.o = o -> StepW c.P ol e tm hp -> Ynw c ol KP rest (i + 1) ((i, e) :: acc) (e.tm tm) (e.hp hp) K ->
    (∃ (r : Todo) (tm' : List AV) (hp' : Heap), K (r.reverse ++ acc) tm' hp' /\ ChainW c.P ol r tm hp tm' hp' /\ r.map (·.1) = List.range' i (o :: rest).length /\ r.map (·.2.o) = o :: rest) \/
    (∃ (r : Todo) (f : Ev) (tm' : List AV) (hp' : Heap), KP (r.reverse ++ acc) (i + r.length) f tm' hp' /\ ChainW c.P ol r tm hp tm' hp' /\ r.map (·.1) = List.range' i r.length /\ (∃ rest', r.map (·.2.o) ++ f.o :: rest' = o :: rest) /\ StepWP c.P ol f tm' hp') := by
   intro e he hs h1;rcases Yi7 hc rest (i + 1) _ _ _ K h1 with ⟨r, tm', hp', h2, h3, h4, h5⟩ | ⟨r, f, tm', hp', h2, h3, h4, ⟨rest', h5⟩, h6⟩
   ·exact .inl ⟨(i, e) :: r, tm', hp', by simpa using h2, ⟨hs, h3⟩, by simp [h4, List.range'_succ], by simp [h5, he]⟩
   ·refine .inr ⟨(i, e) :: r, f, tm', hp', ?_, ⟨hs, h3⟩, by simp [h4, List.range'_succ], ⟨rest', by simp [h5, he]⟩, h6⟩;have e1 : i + ((i, e) :: r).length = i + 1 + r.length := by simp only [List.length_cons]; omega
    rw [e1];simpa using h2
  rcases Ygi h with ⟨hw, h1⟩ | ⟨hw, h1⟩
  ·rcases Yi8 hc h1 with ⟨val, hs, us, nw, h2, hpart, hu, hd⟩ | ⟨val, hs, us, nw, h2, hpart, hu, hd⟩
   ·obtain ⟨val, h2, he⟩ := Yf9 h2
    replace hd := hd.same he
    have h3 := Yey (Ycj.1 (Yda.1 h2));exact fin ⟨o, false, val, hs, us, nw⟩ rfl ⟨hpart, hu, .inr ⟨rfl, hw, hd⟩⟩ h3
   ·exact .inr ⟨[], ⟨o, false, val, hs, us, nw⟩, tm, hp, h2, ⟨rfl, rfl⟩, rfl, ⟨rest, rfl⟩, ⟨hpart, hu, hw, hd⟩⟩
  ·have h3 := Yey h1;exact fin ⟨o, true, .v undef, [], [], []⟩ rfl ⟨.nil _, Ye5, .inl ⟨rfl, hw, rfl, rfl, rfl⟩⟩ h3
abbrev BigC (P : Program) (cd : Code) := Big (fun Q a w => ∀ r, cd.wpIn (wF r) 0 P Q a w)
theorem Yy0 {r : Option Nat} (f : FuncId) : (wF r).fn f := trivial
theorem RepS.drew {φ0 φ : Phi} {w0 : World} {M : List Nat} {R : RL} {tm : List AV} {hp : Heap} {a : Act} {w : World} (h : RepS φ0 φ w0 M R tm hp a w) : RepS φ0 φ w0 M R tm hp a { w with drawn := w.drawn + 1 } := ⟨h.tmps, h.st.drew, h.nd, h.base⟩
theorem Ynx {c : Cx} {ol : List Oper} (hc : HandOkR c) (hm : c.P.follows .mixedOrders = true) {id : Nat} {tm : List AV} {hp : Heap} {K : KX} (h : Yxk c ol tm hp K) : ∃ x tm' hp', K x tm' hp' /\ BigC c.P (.region id ol.toArray true) tm hp x tm' hp' := by
 rcases Yi7 hc ol 0 [] tm hp _ h with ⟨r, tm', hp', h1, h2, h3, h4⟩ | ⟨r, f, tm', hp', h1, h2, h3, ⟨rest, h4⟩, h6⟩
 ·rw [List.append_nil, List.reverse_reverse] at h1;obtain ⟨hB, h5⟩ := Ya h1;simp only [Yzk, Bool.and_eq_true] at hB;have hfr := Yf2 hB.1.2;have hch := h2.chain fun p hp => (hfr p hp).2;have hlen : r.length = ol.length := by rw [<- List.length_map (f := (·.1)), h3]; simp
  refine ⟨.norm, tm', hp', h5, fun φ0 φ w0 M R a w hr Q kk rr => wpIn_region_any hm ?_⟩;refine Ynk hB.1.1 (fun φ' a' w' hr' hD => kk φ' .normal a' w' rfl hr' hD) _ r _ tm hp φ a _ (by simp [hlen]) ⟨fun k hk => ?_, fun p hp => ?_, ?_, by simp⟩ (LClosed.start _ _) hch (Yjx hB.2) (fun p hp => (hfr p hp).1) hr.drew rfl
  ·rw [h3];simp [hk]
  ·obtain ⟨n, hn, rfl⟩ := List.getElem_of_mem hp;have e1 : r[n].1 = n := by
    have := congrArg (·[n]?) h3;simpa [hn, hlen ▸ hn] using this
   have e2 : ol[n]? = some r[n].2.o := by
    have := congrArg (·[n]?) h4;simpa [hn] using this.symm
   rw [e1];exact ⟨by omega, e2⟩
  ·have : (r.map (·.1)).Pairwise (· < ·) := by rw [h3]; exact List.pairwise_lt_range'
   exact List.pairwise_map.1 this
 ·rw [List.append_nil, List.reverse_reverse, Nat.zero_add] at h1;obtain ⟨hB, h5⟩ := Ya h1;cases hB
theorem Yce {P : Program} {b : Frame} {a : Act} {k : List Item} {cs : List Frame} {w : World} {c : Code} : step P (lone (b.atR a (.code (.scope c) :: k)) cs w) = .next (lone (b.atR a (.code c :: .inScope c :: k)) cs w) := step_lone_go (by simp [stepG, stepG.exec, Frame.atR])
theorem Ym0 {P : Program} {b : Frame} {a : Act} {k : List Item} {cs : List Frame} {w : World} {c : Code} : step P (lone (b.atR a (.inScope c :: k)) cs w) = .next (lone (b.atR a k) cs w) := step_lone_go (by simp [stepG, stepG.exec, Frame.atR])
theorem Yf6 {F : Fence} {n : Nat} {P : Program} {Q : Exit -> Act -> World -> Prop} {a : Act} {w : World} {c : Code} (h : c.wpIn F n P (Exit.noGoto Q) a w) : (Code.scope c).wpIn F n P Q a w := by
 intro b k cs hro hb hr;obtain ⟨e, a₁, w₁, hq, harr⟩ := h b (.inScope c :: k) cs hro hb hr;have h0 : (lone (b.atR a (.code (.scope c) :: k)) cs w).fenced P F := fenced_calm hb hr rfl;cases e with
 | normal => exact ⟨.normal, a₁, w₁, hq, .head h0 Yce (StepsIn.trans harr (.one (fenced_calm hb hr rfl) Ym0))⟩
 | exit id => exact ⟨.exit id, a₁, w₁, hq, fun k' hk => .head h0 Yce (harr.1 k' (by simp [exitTo, hk])), fun hr' hk =>
   let ⟨k₁, h1, h2⟩ := harr.2 hr' (by simp [exitTo, hk]); ⟨k₁, h1, .head h0 Yce h2⟩⟩
 | goto l => exact hq.elim
 | ret => exact ⟨_, a₁, w₁, hq, .of_steps (.one h0 Yce) harr⟩
 | panic ch => exact ⟨_, a₁, w₁, hq, .of_steps (.one h0 Yce) harr⟩
 | outgrown => exact ⟨_, a₁, w₁, hq, .of_steps (.one h0 Yce) harr⟩
def Yul (body : List AV -> Heap -> KX -> Prop) : Nat -> List AV -> Heap -> KX -> Prop
 | 0, _, _, _ => Stuck 45
 | n + 1, tm, hp, K => body tm hp fun x tm hp => match x with | .norm => Yul body n tm hp K | x => K x tm hp
def Yc9 (c : Cx) (n : Nat) : Code -> List AV -> Heap -> KX -> Prop
 | .skip, tm, hp, K => K .norm tm hp
 | .label _, tm, hp, K => K .norm tm hp
 | .region _ ops draw, tm, hp, K => Yt2 n ops.toList tm hp fun tm hp => match draw with | true => Yxk c ops.toList tm hp K | false => Yv0 c ops.toList ops.toList tm hp K
 | .seq a b, tm, hp, K => Yc9 c n a tm hp fun x tm hp => match x with | .norm => Yc9 c n b tm hp K | x => K x tm hp
 | .cond x a b, tm, hp, K => evK tm x fun v => match v with | .v (.bool t) => vcIf t (Yc9 c n a tm hp K) (Yc9 c n b tm hp K) | .sb t => Vif t (Yc9 c n a tm hp K) (Yc9 c n b tm hp K) | _ => Stuck 46
 | .block id a, tm, hp, K => Yc9 c n a tm hp fun x tm hp => match x with | .exit i => (match Nat.beq i id with | true => K .norm tm hp | false => K (.exit i) tm hp) | x => K x tm hp
 | .loop a, tm, hp, K => Yul (Yc9 c n a) n tm hp K
 | .scope a, tm, hp, K => Yc9 c n a tm hp K
 | .exit i, tm, hp, K => K (.exit i) tm hp
 | .ret, tm, hp, K => K .ret tm hp
 | _, _, _, _ => Stuck 47
theorem Big.mono {W W' : (Exit -> Act -> World -> Prop) -> Act -> World -> Prop} {tm tm' : List AV} {hp hp' : Heap} {x : AX} (h : Big W tm hp x tm' hp') (hw : ∀ Q a w, W Q a w -> W' Q a w) : Big W' tm hp x tm' hp' := fun φ0 φ w0 M R a w hr Q kk => hw _ _ _ (h φ0 φ w0 M R a w hr Q kk)
theorem Yl4 {P : Program} {cd : Code} {body : List AV -> Heap -> KX -> Prop} (hb : ∀ tm hp K, body tm hp K -> ∃ x tm' hp', K x tm' hp' /\ BigC P cd tm hp x tm' hp') : ∀ (n : Nat) (tm : List AV) (hp : Heap) (K : KX), Yul body n tm hp K ->
  ∃ x tm' hp', K x tm' hp' /\ Big (fun Q a w => ∀ r, Code.roundsIn (wF r) 0 P cd Q n a w) tm hp x tm' hp'
 | 0, tm, hp, K, h => h.elim
 | n + 1, tm, hp, K, h => by
  obtain ⟨x, tm1, hp1, h1, h2⟩ := hb _ _ _ h;have key : (∀ φ e, x.is φ e -> e ≠ .normal) -> K x tm1 hp1 -> ∃ x tm' hp', K x tm' hp' /\ Big (fun Q a w => ∀ r, Code.roundsIn (wF r) 0 P cd Q (n + 1) a w) tm hp x tm' hp' := fun hx hk => by
   refine ⟨x, tm1, hp1, hk, fun φ0 φ w0 M R a w hr Q kk => ?_⟩;intro r;rw [roundsIn_succ];refine h2 φ0 φ w0 M R a w hr _ (fun φ' e a' w' he hr' hd => ?_) r;have hne := hx φ' e he;cases e <;> first | exact absurd rfl hne | exact kk φ' _ a' w' he hr' hd
  cases x with
  | norm =>
   obtain ⟨x2, tm2, hp2, h3, h4⟩ := Yl4 hb n _ _ K h1;refine ⟨x2, tm2, hp2, h3, fun φ0 φ w0 M R a w hr Q kk => ?_⟩;intro r;rw [roundsIn_succ];refine h2 φ0 φ w0 M R a w hr _ (fun φ' e a' w' he hr' hd => ?_) r;cases he;exact h4 φ0 φ' w0 M R a' w' hr' Q (fun φ2 e a2 w2 he2 hr2 hd2 => kk φ2 e a2 w2 he2 hr2 (hd2.trans hd)) r
  | exit i => exact key (fun φ e he => by cases he; simp) h1
  | ret => exact key (fun φ e he => by cases he; simp) h1
  | pan v => exact key (fun φ e he => by cases he; simp) h1
theorem Y0 {c : Cx} (hc : HandOkR c) (hm : c.P.follows .mixedOrders = true) (n : Nat) : ∀ (cd : Code) (tm : List AV) (hp : Heap) (K : KX), Yc9 c n cd tm hp K -> ∃ x tm' hp', K x tm' hp' /\ BigC c.P cd tm hp x tm' hp'
 | .skip, tm, hp, K, h => ⟨.norm, tm, hp, h, fun φ0 φ w0 M R a w hr Q kk r => wpIn_skip (kk φ _ a w rfl hr rfl)⟩
 | .label _, tm, hp, K, h => ⟨.norm, tm, hp, h, fun φ0 φ w0 M R a w hr Q kk r => wpIn_label (kk φ _ a w rfl hr rfl)⟩
 | .exit i, tm, hp, K, h => ⟨.exit i, tm, hp, h, fun φ0 φ w0 M R a w hr Q kk r => wpIn_exit (kk φ _ a w rfl hr rfl)⟩
 | .ret, tm, hp, K, h => ⟨.ret, tm, hp, h, fun φ0 φ w0 M R a w hr Q kk r => wpIn_ret (kk φ _ a w rfl hr rfl)⟩
 | .region id ops draw, tm, hp, K, h => by
  obtain ⟨l⟩ := ops;obtain ⟨tm1, hp1, h0, hpre⟩ := Yju h;have pre : ∀ {W : (Exit -> Act -> World -> Prop) -> Act -> World -> Prop} {x : AX} {tm' : List AV} {hp' : Heap}, Big W tm1 hp1 x tm' hp' -> Big W tm hp x tm' hp' := fun hb φ0 φ w0 M R a w hr Q kk => by
   obtain ⟨φ', hr'⟩ := hpre φ0 φ w0 M R a w hr;exact hb φ0 φ' w0 M R a w hr' Q kk
  cases draw with
  | true =>
   obtain ⟨x, tm', hp', h1, h2⟩ := Ynx hc hm h0;exact ⟨x, tm', hp', h1, pre h2⟩
  | false =>
   obtain ⟨x, tm', hp', h1, h2⟩ := Yf8 hc l tm1 hp1 K h0;exact ⟨x, tm', hp', h1, pre (h2.mono fun Q a w hw r => Yi6 Yy0 (hw r))⟩
 | .seq a b, tm, hp, K, h => by
  obtain ⟨x, tm1, hp1, h1, h2⟩ := Y0 hc hm n a tm hp _ h;have key : (∀ φ e, x.is φ e -> e ≠ .normal) -> K x tm1 hp1 -> ∃ x tm' hp', K x tm' hp' /\ BigC c.P (.seq a b) tm hp x tm' hp' := fun hx hk => by
   refine ⟨x, tm1, hp1, hk, fun φ0 φ w0 M R ac w hr Q kk r => wpIn_seq (h2 φ0 φ w0 M R ac w hr _ (fun φ' e a' w' he hr' hd => ?_) r)⟩;have hne := hx φ' e he;cases e <;> first | exact absurd rfl hne | exact kk φ' _ a' w' he hr' hd
  cases x with
  | norm =>
   obtain ⟨x2, tm2, hp2, h3, h4⟩ := Y0 hc hm n b tm1 hp1 K h1;refine ⟨x2, tm2, hp2, h3, fun φ0 φ w0 M R ac w hr Q kk r => wpIn_seq (h2 φ0 φ w0 M R ac w hr _ (fun φ' e a' w' he hr' hd => ?_) r)⟩;cases he;exact h4 φ0 φ' w0 M R a' w' hr' Q (fun φ2 e a2 w2 he2 hr2 hd2 => kk φ2 e a2 w2 he2 hr2 (hd2.trans hd)) r
  | exit i => exact key (fun φ e he => by cases he; simp) h1
  | ret => exact key (fun φ e he => by cases he; simp) h1
  | pan v => exact key (fun φ e he => by cases he; simp) h1
 | .cond x a b, tm, hp, K, h => by
  obtain ⟨v, hj, hx, h1⟩ := Yf h
  try dsimp only at h1
  split at h1
  ·rename_i t;rcases Yes h1 with ⟨rfl, h2⟩ | ⟨rfl, h2⟩
   ·obtain ⟨x', tm', hp', h3, h4⟩ := Y0 hc hm n a tm hp K h2;exact ⟨x', tm', hp', h3, fun φ0 φ w0 M R ac w hr Q kk r => wpIn_cond_true (hr.tmps.ev hx (by simp)) (h4 φ0 φ w0 M R ac w hr Q kk r)⟩
   ·obtain ⟨x', tm', hp', h3, h4⟩ := Y0 hc hm n b tm hp K h2;exact ⟨x', tm', hp', h3, fun φ0 φ w0 M R ac w hr Q kk r => wpIn_cond_false (hr.tmps.ev hx (by simp)) (h4 φ0 φ w0 M R ac w hr Q kk r)⟩
  ·rename_i t;rcases Vif.spec h1 with ⟨rfl, h2⟩ | ⟨rfl, h2⟩
   ·obtain ⟨x', tm', hp', h3, h4⟩ := Y0 hc hm n a tm hp K h2;exact ⟨x', tm', hp', h3, fun φ0 φ w0 M R ac w hr Q kk r => wpIn_cond_true (hr.tmps.ev hx (by simp)) (h4 φ0 φ w0 M R ac w hr Q kk r)⟩
   ·obtain ⟨x', tm', hp', h3, h4⟩ := Y0 hc hm n b tm hp K h2;exact ⟨x', tm', hp', h3, fun φ0 φ w0 M R ac w hr Q kk r => wpIn_cond_false (hr.tmps.ev hx (by simp)) (h4 φ0 φ w0 M R ac w hr Q kk r)⟩
  ·exact h1.elim
 | .block id a, tm, hp, K, h => by
  obtain ⟨x, tm1, hp1, h1, h2⟩ := Y0 hc hm n a tm hp _ h;cases x with
  | exit i =>
   cases hb : Nat.beq i id with
   | true =>
    simp only [hb] at h1;refine ⟨.norm, tm1, hp1, h1, fun φ0 φ w0 M R ac w hr Q kk r => wpIn_block (h2 φ0 φ w0 M R ac w hr _ (fun φ' e a' w' he hr' hd => ?_) r)⟩;cases he;simp only [Exit.inBlock, Ye.1 hb, if_true];exact kk φ' .normal a' w' rfl hr' hd
   | false =>
    simp only [hb] at h1;refine ⟨.exit i, tm1, hp1, h1, fun φ0 φ w0 M R ac w hr Q kk r => wpIn_block (h2 φ0 φ w0 M R ac w hr _ (fun φ' e a' w' he hr' hd => ?_) r)⟩;cases he;simp only [Exit.inBlock, Y2.1 hb, if_false];exact kk φ' _ a' w' rfl hr' hd
  | norm => exact ⟨.norm, tm1, hp1, h1, fun φ0 φ w0 M R ac w hr Q kk r => wpIn_block (h2 φ0 φ w0 M R ac w hr _ (fun φ' e a' w' he hr' hd => by cases he; exact kk φ' _ a' w' rfl hr' hd) r)⟩
  | ret => exact ⟨.ret, tm1, hp1, h1, fun φ0 φ w0 M R ac w hr Q kk r => wpIn_block (h2 φ0 φ w0 M R ac w hr _ (fun φ' e a' w' he hr' hd => by cases he; exact kk φ' _ a' w' rfl hr' hd) r)⟩
  | pan v => exact ⟨.pan v, tm1, hp1, h1, fun φ0 φ w0 M R ac w hr Q kk r => wpIn_block (h2 φ0 φ w0 M R ac w hr _ (fun φ' e a' w' he hr' hd => by cases he; exact kk φ' _ a' w' rfl hr' hd) r)⟩
 | .loop a, tm, hp, K, h => by
  obtain ⟨x, tm', hp', h1, h2⟩ := Yl4 (P := c.P) (cd := a) (fun tm hp K h => Y0 hc hm n a tm hp K h) n tm hp K h;exact ⟨x, tm', hp', h1, h2.mono fun Q a w hw r => wpIn_loop_rounds n (hw r)⟩
 | .scope a, tm, hp, K, h => by
  obtain ⟨x, tm1, hp1, h1, h2⟩ := Y0 hc hm n a tm hp _ h;refine ⟨x, tm1, hp1, h1, fun φ0 φ w0 M R ac w hr Q kk r => Yf6 (h2 φ0 φ w0 M R ac w hr _ (fun φ' e a' w' he hr' hd => ?_) r)⟩;cases x <;> cases he <;> exact kk φ' _ a' w' rfl hr' hd
 | .rangeFunc .., tm, hp, K, h => h.elim
 | .goto _, tm, hp, K, h => h.elim
 | .refuse _, tm, hp, K, h => h.elim
end Go.Proofs.Ytmogofidmchdoaa
namespace Go.Proofs.Ytmogofidmchdoaa
open Go.RowKit
variable [InW]
attribute [local irreducible] Go.Oper.wp
def Ysq (ρ : Nat -> Nat) : Heap -> (Heap -> Prop) -> Prop
 | [], K => K []
 | p :: h, K => Y1 (ρ p.1) fun i => Yso ρ p.2 fun x => Ysq ρ h fun r => K ((i, x) :: r)
def renH (ρ : Nat -> Nat) (h : Heap) : Heap := h.map fun p => (ρ p.1, p.2.ren ρ)
theorem Ygz {ρ : Nat -> Nat} : ∀ {h : Heap} {K : Heap -> Prop}, Ysq ρ h K ↔ K (renH ρ h)
 | [], K => Iff.rfl
 | p :: h, K => by simp only [Ysq, Yi, Ygy, Ygz (h := h), renH, List.map_cons]
def Yrj (ρ : Nat -> Nat) : Heap -> (Heap -> Prop) -> Prop
 | [], K => K []
 | p :: h, K => Yso ρ p.2 fun x => Yrj ρ h fun r => K ((p.1, x) :: r)
def Ysp (ρ : Nat -> Nat) (h : Heap) : Heap := h.map fun p => (p.1, p.2.ren ρ)
theorem Ylx {ρ : Nat -> Nat} : ∀ {h : Heap} {K : Heap -> Prop}, Yrj ρ h K ↔ K (Ysp ρ h)
 | [], K => Iff.rfl
 | p :: h, K => by simp only [Yrj, Ygy, Ylx (h := h), Ysp, List.map_cons]
def Ymr : Nat -> (List AV -> Prop) -> Prop
 | 0, K => K []
 | n + 1, K => Ymr n fun r => K (.v undef :: r)
theorem Yjc : ∀ {n : Nat} {K : List AV -> Prop}, Ymr n K ↔ K (List.replicate n (.v undef))
 | 0, K => Iff.rfl
 | n + 1, K => by simp only [Ymr, Yjc (n := n), List.replicate_succ]
def padK : List AV -> Nat -> (List AV -> Prop) -> Prop
 | [], n, K => Ymr n K
 | x :: xs, n, K => match n with | 0 => Stuck 49 | n + 1 => padK xs n fun r => K (x :: r)
theorem Yjy : ∀ {xs : List AV} {n : Nat} {K : List AV -> Prop}, padK xs n K -> K (xs ++ List.replicate (n - xs.length) (.v undef))
 | [], n, K, h => by simpa using Yjc.1 h
 | x :: xs, 0, K, h => h.elim
 | x :: xs, n + 1, K, h => by simpa using Yjy (xs := xs) h
def Ygv (tt : Tr TI) (tm : List AV) (hp : Heap) : List ResultVar -> (List AV -> Prop) -> Prop
 | [], K => K []
 | r :: rs, K => match r with
  | .tmp t => getK tm t fun v => Yro v fun v => Ygv tt tm hp rs fun vs => K (v :: vs)
  | .cell p T => getK tm p fun a => match a with
   | .ptr i k => Y9 hp i fun it => Yuo tt T it k fun v => Ygv tt tm hp rs fun vs => K (v :: vs)
   | _ => Stuck 50
def outA : List AV -> AV
 | [v] => v
 | vs => .tup vs
theorem Yws {tt : Tr TI} {P : Program} (ht : TabOk P tt) {T : TypeId} {it : It} {i j : Nat} {K : AV -> Prop} (h : Yuo tt T it j K) : ∃ v, K v /\ ∀ (φ : Phi) (w0 : World) (M : List Nat) (R : RL) (w : World), St w0 M (it.conc φ i :: R) w -> (loadVar T ⟨(φ i).b, j, none⟩).run P w = .ok (v.conc φ) w := by
 have key : ∀ cs, (∀ φ, it.vals φ = AV.concL φ cs) -> Ync tt T cs j K -> ∃ v, K v /\ ∀ (φ : Phi) (w0 : World) (M : List Nat) (R : RL) (w : World), St w0 M (it.conc φ i :: R) w -> (loadVar T ⟨(φ i).b, j, none⟩).run P w = .ok (v.conc φ) w := by
  intro cs hcs h;have h1 := Ym ht h
  split at h1
  ·rename_i ha;obtain ⟨v, h2, h3⟩ := Ybj h1;exact ⟨v, h3, fun φ w0 M R w hS => Yl6 (Yct (Ycr ha) (Y3 hS (Yg9 hcs h2 φ)))⟩
  ·rename_i ha
   split at h1
   ·rename_i n hn;obtain ⟨h2, h3⟩ := Yb0 h1;obtain ⟨h4, h5⟩ := Ybn h3;refine ⟨_, h5, fun φ w0 M R w hS => Yl6 (Ydr (Ycr ha) (Ycv hn) (by rw [Yd, List.length_take]; omega) fun j' u hj => ?_)⟩;refine Y3 hS ?_;rw [hcs, <- List.getElem?_drop, <- Yeb];rw [Ycl, List.getElem?_take] at hj
    split at hj
    ·exact hj
    ·cases hj
   ·exact h1.elim
  ·exact h1.elim
 cases it with
 | blk T' cs => exact key cs (fun φ => rfl) h
 | row T' sz n cs => exact key cs (fun φ => rfl) h
 | rowV _ _ _ _ => exact h.elim
 | obj _ => exact h.elim
 | lp _ _ => exact h.elim
 | dead => exact h.elim
 | arr _ _ _ => exact h.elim
 | bk _ _ _ _ => exact h.elim
 | bkv _ _ _ _ _ => exact h.elim
theorem Ysy {hp : Heap} (hn : (keys hp).Nodup) {i : Nat} {it : It} (h : look hp i = some it) {φ : Phi} {w0 w : World} {M : List Nat} {R : RL} (hS : St w0 M (Yc φ hp ++ R) w) : ∃ R', St w0 M (it.conc φ i :: R') w := by
 have := hS.perm ((Yu ((PartOf.one h).perm hn)).append (List.Perm.refl R));exact ⟨_, by simpa [Yc] using this⟩
theorem Yds {tt : Tr TI} {P : Program} (ht : TabOk P tt) {tm : List AV} {hp : Heap} : ∀ {rs : List ResultVar} {K : List AV -> Prop}, Ygv tt tm hp rs K -> ∃ vs, K vs /\ vs.length = rs.length /\
  ∀ (φ0 φ : Phi) (w0 : World) (M : List Nat) (R : RL) (a : Act) (w : World), RepS φ0 φ w0 M R tm hp a w -> (rs.mapM (resM a.tmps)).run P w = .ok (AV.concL φ vs) w
 | [], K, h => ⟨[], h, rfl, fun _ _ _ _ _ _ _ _ => rfl⟩
 | r :: rs, K, h => by
  cases r with
  | tmp t =>
   obtain ⟨v, h1, h2⟩ := Ybj h;obtain ⟨hj, h3⟩ := Ygc h2;obtain ⟨vs, h4, h5, h6⟩ := Yds ht h3;refine ⟨v :: vs, h4, by simp [h5], fun φ0 φ w0 M R a w hr => ?_⟩;have e : a.tmps.getD t undef = v.conc φ := by simp [Array.getD_eq_getD_getElem?, hr.tmps.slot t v h1 hj]
   simp only [List.mapM_cons, Sem.run_bind, resM, e, Sem.run_pure, Result.andThen_ok, h6 φ0 φ w0 M R a w hr, AV.concL]
  | cell p T =>
   obtain ⟨x, h1, h2⟩ := Ybj h
   try dsimp only at h2
   split at h2
   ·rename_i i k;obtain ⟨it, h3, h4⟩ := Yg h2;obtain ⟨v, h5, h6⟩ := Yws (i := i) ht h4;obtain ⟨vs, h7, h8, h9⟩ := Yds ht h5;refine ⟨v :: vs, h7, by simp [h8], fun φ0 φ w0 M R a w hr => ?_⟩;have e : a.tmps.getD p undef = .pointer (some ⟨(φ i).b, k, none⟩) := by
     have := hr.tmps.slot p _ h1 (by simp);simp only [AV.conc] at this;simp [Array.getD_eq_getD_getElem?, this]
    obtain ⟨R', hS⟩ := Ysy hr.nd h3 hr.st;simp only [List.mapM_cons, Sem.run_bind, resM, e, asAddr, Sem.run_pure, Result.andThen_ok, h6 φ w0 M R' w hS, h9 φ0 φ w0 M R a w hr, AV.concL]
   ·exact h2.elim
theorem Yjq {fn : Func} {P : Program} {a : Act} {w : World} {φ : Phi} {vs : List AV} (hl : vs.length = fn.results.toList.length) (h : (fn.results.toList.mapM (resM a.tmps)).run P w = .ok (AV.concL φ vs) w) : (results fn a.tmps).run P w = .ok ((outA vs).conc φ) w := by
 have h2 : (fn.results.mapM (resM a.tmps)).run P w = .ok (AV.concL φ vs).toArray w := by
  rw [Array.mapM_eq_mapM_toList, map_eq_pure_bind, Sem.run_bind, h];rfl
 rw [Yog, Sem.run_bind, h2];simp only [Result.andThen_ok];cases vs with
 | nil => rfl
 | cons v vs =>
  cases vs with
  | nil => rfl
  | cons u us => simp [AV.concL, outA, AV.conc]
def chgK (hpF : Heap) : Heap -> (Heap -> Prop) -> Prop
 | [], K => K []
 | p :: hs, K => Y9 hpF (rIn p.1) fun x => Yso rIn p.2 fun x0 => match sameI x x0 with
  | true => chgK hpF hs K
  | false => chgK hpF hs fun r => K ((p.1, x) :: r)
inductive Chg (hpF : Heap) : Heap -> Heap -> Heap -> Prop
 | nil : Chg hpF [] [] []
 | same {i : Nat} {x : It} {hs ch hsF : Heap} (hl : look hpF (rIn i) = some (x.ren rIn)) (t : Chg hpF hs ch hsF) : Chg hpF ((i, x) :: hs) ch ((rIn i, x.ren rIn) :: hsF)
 | chg {i : Nat} {x y : It} {hs ch hsF : Heap} (hl : look hpF (rIn i) = some y) (t : Chg hpF hs ch hsF) : Chg hpF ((i, x) :: hs) ((i, y) :: ch) ((rIn i, y) :: hsF)
theorem Ykl {hpF : Heap} : ∀ {hs : Heap} {K : Heap -> Prop}, chgK hpF hs K -> ∃ ch hsF, Chg hpF hs ch hsF /\ K ch
 | [], K, h => ⟨[], [], .nil, h⟩
 | (i, x) :: hs, K, h => by
  obtain ⟨y, h1, h2⟩ := Yg h;have h3 := Ygy.1 h2
  split at h3
  ·rename_i hs';obtain ⟨ch, hsF, h4, h5⟩ := Ykl h3;have e := Ylr hs';subst e;exact ⟨ch, _, .same h1 h4, h5⟩
  ·obtain ⟨ch, hsF, h4, h5⟩ := Ykl h3;exact ⟨_, _, .chg h1 h4, h5⟩
theorem Chg.keys {hpF hs ch hsF : Heap} (h : Chg hpF hs ch hsF) : keys hsF = (keys hs).map rIn /\ (∀ i ∈ keys ch, i ∈ keys hs) /\ ∀ p ∈ hsF, look hpF p.1 = some p.2 := by
 induction h with
 | nil => exact ⟨rfl, by simp [Go.Proofs.Ytmogofidmchdoaa.keys], by simp⟩
 | same hl t ih =>
  refine ⟨by simp only [Go.Proofs.Ytmogofidmchdoaa.keys, List.map_cons] at ih ⊢; rw [ih.1], fun i hi => ?_, fun p hp => ?_⟩
  ·simp only [Go.Proofs.Ytmogofidmchdoaa.keys, List.map_cons, List.mem_cons]; exact .inr (ih.2.1 i hi)
  ·rcases List.mem_cons.1 hp with rfl | hp
   ·exact hl
   ·exact ih.2.2 p hp
 | chg hl t ih =>
  refine ⟨by simp only [Go.Proofs.Ytmogofidmchdoaa.keys, List.map_cons] at ih ⊢; rw [ih.1], fun i hi => ?_, fun p hp => ?_⟩
  ·simp only [Go.Proofs.Ytmogofidmchdoaa.keys, List.map_cons, List.mem_cons] at hi ⊢;exact hi.imp id (ih.2.1 i)
  ·rcases List.mem_cons.1 hp with rfl | hp
   ·exact hl
   ·exact ih.2.2 p hp
theorem Yp0 {i : Nat} {x y : It} {hs : Heap} : ∀ {pre : Heap}, i ∉ keys pre -> upd (pre ++ (i, x) :: hs) i y = pre ++ (i, y) :: hs
 | [], _ => by simp [upd, Nat.beq_refl]
 | p :: pre, h => by
  simp only [keys, List.map_cons, List.mem_cons, not_or] at h;simp only [List.cons_append, upd, Y2.2 (Ne.symm h.1)];rw [Yp0 h.2]
theorem Yw9 {hpF : Heap} {φ φ' φF : Phi} {ks : List Nat} {p : Nat -> Bool} {ρ : Nat -> Nat} (hag : Agree ks φ φ') (hF : ∀ x, φF (rIn x) = φ x) (hρ : ∀ i, p i = true -> φ' (ρ i) = φF i) :
  ∀ {hs ch hsF : Heap}, Chg hpF hs ch hsF -> ∀ pre : Heap, (∀ i ∈ keys hs, i ∉ keys pre) -> (keys hs).Nodup -> (∀ k ∈ ks, hasH k hs = false) -> (ch.all fun q => q.2.ids p) = true -> (∀ i ∈ keys hs, ρ (rIn i) = i) ->
   Yc φ' (Yh (pre ++ hs) (Ysp ρ ch)) = Yc φ' pre ++ Yc φF hsF := by
 intro hs ch hsF h
 induction h with
 | nil => intro pre _ _ _ _ _; simp [Ysp, Yh, Yc]
 | @same i x hs ch hsF hl t ih =>
  intro pre hd hn hk hp hρi;simp only [keys, List.map_cons, List.nodup_cons, List.mem_cons, forall_eq_or_imp] at hd hn hρi;have hk' : ∀ k ∈ ks, i ≠ k /\ x.has k = false /\ hasH k hs = false := fun k hkk => by
   have := hk k hkk;simp only [hasH, Bool.or_eq_false_iff, Y2] at this;exact ⟨this.1.1, this.1.2, this.2⟩
  have := ih (pre ++ [(i, x)]) (fun j hj hm => by
   rw [Ybz] at hm;rcases List.mem_append.1 hm with hm | hm
   ·exact hd.2 j hj hm
   ·simp [keys] at hm; subst hm; exact hn.1 hj) hn.2 (fun k hkk => (hk' k hkk).2.2) hp hρi.2
  rw [List.append_assoc, List.singleton_append] at this;rw [this, Yn, List.append_assoc]
  congr 1
  have e1 : x.conc φ' i = x.conc φ i := Yhe hag (fun hm => (hk' i hm).1 rfl) x fun k hkk => (hk' k hkk).2.1;have e2 : (x.ren rIn).conc φF (rIn i) = x.conc φ i := Yl9 (p := fun _ => true) (fun j _ => hF j) (hF i) x (Ykb x);simp [Yc, e1, e2]
 | @chg i x y hs ch hsF hl t ih =>
  intro pre hd hn hk hp hρi;simp only [keys, List.map_cons, List.nodup_cons, List.mem_cons, forall_eq_or_imp] at hd hn hρi;simp only [List.all_cons, Bool.and_eq_true] at hp;have hk' : ∀ k ∈ ks, i ≠ k /\ x.has k = false /\ hasH k hs = false := fun k hkk => by
   have := hk k hkk;simp only [hasH, Bool.or_eq_false_iff, Y2] at this;exact ⟨this.1.1, this.1.2, this.2⟩
  have := ih (pre ++ [(i, y.ren ρ)]) (fun j hj hm => by
   rw [Ybz] at hm;rcases List.mem_append.1 hm with hm | hm
   ·exact hd.2 j hj hm
   ·simp [keys] at hm; subst hm; exact hn.1 hj) hn.2 (fun k hkk => (hk' k hkk).2.2) hp.2 hρi.2
  simp only [Ysp, List.map_cons, Yh] at this ⊢;rw [Yp0 hd.1];rw [List.append_assoc, List.singleton_append] at this;rw [this, Yn, List.append_assoc]
  congr 1
  have hi0 : φ' i = φF (rIn i) := by rw [hF i]; exact hag i fun hm => (hk' i hm).1 rfl
  have e2 : (y.ren ρ).conc φ' i = y.conc φF (rIn i) := by
   have := Yl9 (p := p) (φ := φF) (φ' := φ') (ρ := ρ) hρ (id := rIn i) (by rw [hρi.1, hi0]) y hp.1;rwa [hρi.1] at this
  simp [Yc, e2]
def Ys4 (d : Nat) (nwc : Heap) (i : Nat) : Bool :=
 match Nat.beq (i % 3) 1 with
 | true => (match look (renH (rOut d) nwc) (i / 3) with | some _ => false | none => true)
 | false => (match look nwc i with | some _ => true | none => false)
def Yxr (d : Nat) (v : AV) (ch nwc : Heap) : Bool := Nat.blt d 1024 && v.ids (Ys4 d nwc) && (ch.all fun q => q.2.ids (Ys4 d nwc)) && (nwc.all fun q => q.2.ids (Ys4 d nwc))
def Yyh : Heap -> List Nat -> List Nat
 | [], acc => acc
 | p :: h, acc => p.2.lead (Yyh h acc)
def Yo1 (n d : Nat) (hs : Heap) (v : AV) (hpF : Heap) (k : KE) : Prop :=
 chgK hpF hs fun ch => Yf0 (fun i => !(Nat.beq (i % 3) 1)) hpF n (v.lead (Yyh ch [])) [] fun nwc =>
  Yb (Yxr d v ch nwc) (renK (rOut d) v fun v' => Yrj (rOut d) ch fun us => Ysq (rOut d) nwc fun nw => k v' hs us nw)
theorem Yos {l : List Nat} (h : l.Nodup) : (l.map rIn).Nodup := List.Pairwise.map rIn (fun a b hne e => hne (by simp only [rIn] at e; omega)) h
theorem Yx6 (d i : Nat) : rOut d (rIn i) = i := by
 have h1 : (3 * i + 1) % 3 = 1 := by omega
 have h2 : (3 * i + 1) / 3 = i := by omega
 simp [rOut, rIn, h1, h2, Nat.beq_refl]
theorem Ywe {d i : Nat} (h : i % 3 ≠ 1) : rOut d i = 3 * (i * 1024 + d) + 2 := by simp [rOut, Y2.2 h]
theorem Yo3 (ρ : Nat -> Nat) (h : Heap) : keys (renH ρ h) = (keys h).map ρ := by simp [keys, renH]
theorem Yha {h : Heap} {i : Nat} : (∃ x, look h i = some x) ↔ i ∈ keys h := by
 constructor
 ·rintro ⟨x, hx⟩; exact Yb1 hx
 ·intro hm;cases hl : look h i with
  | some x => exact ⟨x, rfl⟩
  | none =>
   exfalso
   induction h with
   | nil => simp [keys] at hm
   | cons p h ih =>
    rw [Yr] at hl
    split at hl
    ·cases hl
    ·rename_i hne;simp only [keys, List.map_cons, List.mem_cons] at hm;rcases hm with e | hm
     ·exact hne e.symm
     ·exact ih hm hl
theorem Yl7 {n d : Nat} {hs hpF : Heap} {v : AV} {k : KE} (hsn : (keys hs).Nodup) (h : Yo1 n d hs v hpF k) : ∃ v' us nw, k v' hs us nw /\ (∀ i ∈ keys us, i ∈ keys hs) /\
  ∀ (φ φF : Phi) (w0 : World) (M : List Nat) (R : RL) (w : World), (∀ i ∈ keys nw, hasH i hs = false) -> (keys hpF).Nodup -> (∀ x, φF (3 * x + 1) = φ x) -> St w0 M (Yc φF hpF ++ R) w ->
   ∃ φ', Agree (keys nw) φ φ' /\ v'.conc φ' = v.conc φF /\ St w0 M (Yc φ' (Yh hs us ++ nw) ++ R) w := by
 obtain ⟨ch, hsF, h1, h2⟩ := Ykl h;obtain ⟨nwc, h3, h3p, h4⟩ := Ybv (PartOf.nil _) (by simp [keys]) h2;obtain ⟨hB, h5⟩ := Ya h4;have h6 := (Yix _ _ _).1 h5;have h7 := Ygz.1 (Ylx.1 h6);simp only [Yxr, Bool.and_eq_true, Nat.blt_eq] at hB;obtain ⟨⟨⟨hd, hv⟩, hch⟩, hnw⟩ := hB;obtain ⟨k1, k2, k3⟩ := h1.keys;have hown : ∀ i ∈ keys nwc, i % 3 ≠ 1 := fun i hi => by
  have := h3p i hi;simp only [Bool.not_eq_true', Y2] at this;exact this
 refine ⟨_, _, _, h7, fun i hi => k2 i (by simpa [keys, Ysp] using hi), fun φ φF w0 M R w hfr hnd hF hS => ?_⟩
 let φ' : Phi := fun y => if y ∈ keys (renH (rOut d) nwc) then φF ((y / 3) / 1024) else φ y
 have hag : Agree (keys (renH (rOut d) nwc)) φ φ' := fun i hi => by simp only [φ', hi, if_false]
 have hback : ∀ i, i ∈ keys nwc -> φ' (rOut d i) = φF i := fun i hi => by
  have hm : rOut d i ∈ keys (renH (rOut d) nwc) := by rw [Yo3]; exact List.mem_map_of_mem hi
  have e : ((rOut d i) / 3) / 1024 = i := by rw [Ywe (hown i hi)]; omega
  simp only [φ', hm, if_true, e]
 have hρ : ∀ i, Ys4 d nwc i = true -> φ' (rOut d i) = φF i := fun i hi => by
  unfold Ys4 at hi;cases hb : Nat.beq (i % 3) 1 with
  | true =>
   rw [hb] at hi;have h31 : i % 3 = 1 := Ye.1 hb;have e : rOut d i = i / 3 := by simp [rOut, hb]
   have hno : i / 3 ∉ keys (renH (rOut d) nwc) := fun hm => by
    obtain ⟨x, hx⟩ := Yha.2 hm;rw [hx] at hi;cases hi
   rw [e, hag _ hno, <- hF (i / 3)]
   congr 1
   omega
  | false =>
   rw [hb] at hi;refine hback i (Yha.1 ?_);cases hl : look nwc i with
   | some x => exact ⟨x, rfl⟩
   | none => rw [hl] at hi; cases hi
 refine ⟨φ', hag, Yfs hρ v hv, ?_⟩;have e1 := Yw9 (p := Ys4 d nwc) (ρ := rOut d) hag (fun x => hF x) hρ h1 [] (by simp [keys]) hsn hfr hch (fun i _ => Yx6 d i);have e2 : Yc φ' (renH (rOut d) nwc) = Yc φF nwc := by
  unfold Yc renH;rw [List.map_map];refine List.map_congr_left fun q hq => ?_;exact Yl9 hρ (hback q.1 (List.mem_map_of_mem hq)) q.2 (List.all_eq_true.1 hnw q hq)
 have hpart : PartOf (hsF ++ nwc) hpF := by
  refine ⟨?_, fun q hq => ?_⟩
  ·rw [Ybz, k1];refine List.nodup_append.2 ⟨?_, h3.nd, fun a ha b hb e => ?_⟩
   ·exact Yos hsn
   ·obtain ⟨x, _, rfl⟩ := List.mem_map.1 ha;exact hown b hb (by rw [<- e]; simp only [rIn]; omega)
  ·rcases List.mem_append.1 hq with hq | hq
   ·exact k3 q hq
   ·exact h3.all q hq
 have hS2 := hS.perm ((Yu (hpart.perm hnd)).append (List.Perm.refl R));rw [Yn, Yn, List.append_assoc] at hS2;simp only [List.nil_append] at e1;rw [Yn, e1, e2];simp only [Yc, List.map_nil, List.nil_append] at hS2 ⊢;exact hS2.sub ((List.Sublist.refl _).append (List.sublist_append_right _ _))
end Go.Proofs.Ytmogofidmchdoaa
namespace Go.Proofs.Ytmogofidmchdoaa
open Go.RowKit
variable [InW]
attribute [local irreducible] Go.Oper.wp
def BigT (W : (Exit -> Act -> World -> Prop) -> Act -> World -> Prop) (tm : List AV) (hp : Heap) (x : AX) (tm' : List AV) (hp' : Heap) : Prop :=
 ∀ (φ0 φ : Phi) (w0 : World) (M : List Nat) (R : RL) (a : Act) (w : World), RepS φ0 φ w0 M R tm hp a w -> ∀ Q : Exit -> Act -> World -> Prop,
  (∀ φ' e a' w', x.is φ' e -> RepS φ0 φ' w0 M R tm' hp' a' w' -> Q e a' w') -> W Q a w
theorem Big.top {W : (Exit -> Act -> World -> Prop) -> Act -> World -> Prop} {tm tm' : List AV} {hp hp' : Heap} {x : AX} (h : Big W tm hp x tm' hp') : BigT W tm hp x tm' hp' := fun φ0 φ w0 M R a w hr Q kk => h φ0 φ w0 M R a w hr Q fun φ' e a' w' h1 h2 _ => kk φ' e a' w' h1 h2
theorem Yq2 (tm : List AV) (x : AV) : Ybl (tm ++ [.held x]) = Ybl tm ++ [x] := by
 induction tm with
 | nil => rfl
 | cons y tm ih => rw [List.cons_append, Ybd, Ybd, ih, List.append_assoc]
theorem RepT.push {φ : Phi} {tm : List AV} {a : Act} (h : RepT φ tm a) (x : AV) : RepT φ (tm ++ [.held x]) { a with defers := Yd0 φ x :: a.defers } := by
 have key : ∀ (t : Nat) (v : AV), (tm ++ [AV.held x])[t]? = some v -> (tm[t]? = some v) \/ (t = tm.length /\ v = .held x) := fun t v hv => by
  rw [List.getElem?_append] at hv
  split at hv
  ·exact .inl hv
  ·rename_i hge;have ht : t = tm.length := by
    rcases Nat.lt_or_ge (t - tm.length) 1 with h1 | h1
    ·omega
    ·rw [List.getElem?_eq_none (by simpa using h1)] at hv; cases hv
   subst ht;simp at hv;exact .inr ⟨rfl, hv.symm⟩
 refine ⟨fun t v hv hh => ?_, fun t v hv hh => ?_, fun t v hv hr => ?_, ?_, by simp; have := h.len; omega⟩
 ·rcases key t v hv with h1 | ⟨_, rfl⟩
  ·exact h.size t v h1 hh
  ·cases hh
 ·rcases key t v hv with h1 | ⟨rfl, rfl⟩
  ·exact h.held t v h1 hh
  ·exact h.len
 ·rcases key t v hv with h1 | ⟨_, rfl⟩
  ·exact h.slot t v h1 hr
  ·cases hr
 ·rw [Yq2, List.map_append, List.reverse_append, h.df];rfl
theorem Yqy (w : World) (b : Nat) (o : Obj) : Kept w.heap.size [b] w (w.putObj b o) :=
 ⟨rfl, rfl, rfl, by simp, fun k _ hk => World.putObj_heap_other (by simpa using hk)⟩
theorem RepS.turn {φ0 φ : Phi} {w0 : World} {M : List Nat} {R : RL} {tm : List AV} {hp : Heap} {a : Act} {w : World} (h : RepS φ0 φ w0 M R tm hp a w) {i b : Nat} {it it' : It} {o o' : Obj} (hl : look hp i = some it) (e1 : it.conc φ i = .blk b o) (e2 : it'.conc φ i = .blk b o') :
  w.heap[b]? = some o /\ RepS φ0 φ w0 M R tm (upd hp i it') a (w.putObj b o') := by
 have hpart := PartOf.one hl;have hS : St w0 M (Yc φ [(i, it)] ++ (Yc φ (Ybs [(i, it)] hp) ++ R)) w := by
  have := h.st.perm ((Yu (hpart.perm h.nd)).append (List.Perm.refl R));rwa [Yn, List.append_assoc] at this
 have hS2 : St w0 M (Res.blk b o :: (Yc φ (Ybs [(i, it)] hp) ++ R)) w := by simpa [Yc, e1] using hS
 have hb : w.heap[b]? = some o := hS2.has _ List.mem_cons_self;refine ⟨hb, ?_⟩;have hS3 : St w0 M (Res.blk b o' :: (Yc φ (Ybs [(i, it)] hp) ++ R)) (w.putObj b o') :=
  hS2.upd .head (Yqy w b o') (World.putObj_heap_same (Array.getElem?_eq_some_iff.1 hb).1) (fun c hc => .inl hc)
 have := h.new_heap (us := [(i, it')]) (nw := []) hpart (fun j hj => by simpa [keys] using hj) ⟨fun j hj => by simp [keys] at hj, by simp [keys], fun j hj => by simp [keys] at hj⟩ (Agree.refl _ φ) (by simpa [Yh, upd, Yc, Nat.beq_refl, e2] using hS3) none (.v undef);simpa [Yh, Y6, putA, Act.put] using this
def Yi4 : List AV -> Bool
 | [] => true
 | x :: xs => match x with | .held _ => Yi4 xs | _ => false
def Yv5 : List AV -> (List AV -> Prop) -> Prop
 | [], K => K []
 | x :: xs, K => match x with | .junk => Stuck 93 | .held _ => Yb (Yi4 xs) (K []) | x => Yv5 xs fun r => K (x :: r)
theorem Yhr : ∀ {xs : List AV}, Yi4 xs = true -> ∀ x ∈ xs, x.isHeld = true
 | [], _, x, hx => by cases hx
 | y :: xs, h, x, hx => by
  cases y <;> simp only [Yi4, Bool.false_eq_true] at h;rcases List.mem_cons.1 hx with rfl | hx
  ·rfl
  ·exact Yhr h x hx
theorem Ylk : ∀ {tm : List AV} {K : List AV -> Prop}, Yv5 tm K -> ∃ sn hl, tm = sn ++ hl /\ (∀ x ∈ sn, x.rd = true) /\ (∀ x ∈ hl, x.isHeld = true) /\ K sn
 | [], K, h => ⟨[], [], rfl, by simp, by simp, h⟩
 | x :: xs, K, h => by
  have go : x.rd = true -> Yv5 xs (fun r => K (x :: r)) -> ∃ sn hl, x :: xs = sn ++ hl /\ (∀ y ∈ sn, y.rd = true) /\ (∀ y ∈ hl, y.isHeld = true) /\ K sn := fun hr h => by
   obtain ⟨sn, hl, rfl, h1, h2, h3⟩ := Ylk h;exact ⟨x :: sn, hl, rfl, fun y hy => (List.mem_cons.1 hy).elim (fun e => e ▸ hr) (h1 y), h2, h3⟩
  cases x with
  | junk => exact h.elim
  | held y =>
   obtain ⟨h1, h2⟩ := Ya h;exact ⟨[], .held y :: xs, rfl, by simp, fun z hz => (List.mem_cons.1 hz).elim (fun e => e ▸ rfl) (Yhr h1 z), h2⟩
  | _ => exact go rfl h
theorem RepT.snap {φ : Phi} {sn hl : List AV} {a : Act} (h : RepT φ (sn ++ hl) a) (h1 : ∀ x ∈ sn, x.rd = true) (h2 : ∀ x ∈ hl, x.isHeld = true) : a.tmps = (AV.concL φ sn).toArray := by
 have hs : a.tmps.size = sn.length := by
  refine Nat.le_antisymm ?_ ?_
  ·cases hl with
   | nil => have := h.len; simpa using this
   | cons y hl => exact h.held sn.length y (by simp) (h2 y List.mem_cons_self)
  ·rcases Nat.eq_zero_or_pos sn.length with e | e
   ·omega
   ·have hx : sn[sn.length - 1]? = some sn[sn.length - 1] := by simp
    have hr := h1 _ (List.getElem_mem (show sn.length - 1 < sn.length by omega));have := h.size (sn.length - 1) sn[sn.length - 1] (by rw [List.getElem?_append_left (by omega)]; exact hx) (by cases hv : sn[sn.length - 1] <;> simp_all [AV.isHeld]);omega
 refine Array.ext_getElem? fun t => ?_;rcases Nat.lt_or_ge t sn.length with ht | ht
 ·have hx : sn[t]? = some sn[t] := by simp [ht]
  rw [h.slot t sn[t] (by rw [List.getElem?_append_left ht]; exact hx) (h1 _ (List.getElem_mem ht))];simp [Yz, hx]
 ·rw [Array.getElem?_eq_none (by omega), Array.getElem?_eq_none (by simpa [Yd] using ht)]
end Go.Proofs.Ytmogofidmchdoaa
