/-
  A machine over abstract states, proved sound: the help of the proof of a law.
-/
import Derived.Test.YtmogofidmchdoaaQc
import Derived.Carry
import Derived.OpenShut
import Derived.ChangeCalls
import Derived.ProofKit
set_option linter.unusedVariables false
set_option linter.unusedSectionVars false
set_option linter.unusedSimpArgs false
namespace Go.Proofs.Ytmogofidmchdoaa
open Go.RowKit Go.ChangeShapes Go.WideShapes Go.ChangeAt
inductive WfC : Ty -> Cl -> Prop
 | int (k : IntKind) (n : Int) (h : (Lit.int k n).wf = true) : WfC (.int k) (.i n)
 | bool (b : Bool) : WfC .bool (.b b)
 | str (s : ByteArray) (h : s.size <= maxLen) : WfC .str (.s s)
 | sl (ts : List Ty) (xs : Dt) (hm : xs.length <= maxLen) (hl : ∀ row ∈ xs, row.length = ts.length) (h : ∀ i k t, i < xs.length -> ts[k]? = some t -> WfC t (cel xs i k)) : WfC (.sl ts) (.l xs)
inductive WfL : List Ty -> List Cl -> Prop
 | nil : WfL [] []
 | cons {t : Ty} {c : Cl} {ts : List Ty} {cs : List Cl} (h : WfC t c) (hs : WfL ts cs) : WfL (t :: ts) (c :: cs)
def WfA (a : AT) (d : List Cl) : Prop := match a with | .one t => WfL [t] d | .agg ts => WfL ts d
def WfD : List AT -> DS -> Prop
 | [], ds => ds = []
 | a :: ats, ds => ∃ d ds', ds = d :: ds' /\ WfA a d /\ WfD ats ds'
inductive RdL [InW] : List Ty -> List Value -> List Cl -> Prop
 | nil : RdL [] [] []
 | cons {t : Ty} {u : Value} {c : Cl} {ts : List Ty} {us : List Value} {cs : List Cl} (h : RdV t u c) (hz : Yko t c) (hw : WfC t c) (hs : RdL ts us cs) : RdL (t :: ts) (u :: us) (c :: cs)
section
variable [W : InW]
theorem RdL.append {ts : List Ty} {us : List Value} {cs : List Cl} {ts' : List Ty} {us' : List Value} {cs' : List Cl} (h : RdL ts us cs) (h' : RdL ts' us' cs') : RdL (ts ++ ts') (us ++ us') (cs ++ cs') := by
 induction h with
 | nil => exact h'
 | cons a b c _ ih => exact .cons a b c ih
theorem RdL.len {ts : List Ty} {us : List Value} {cs : List Cl} (h : RdL ts us cs) : us.length = ts.length /\ cs.length = ts.length := by
 induction h with
 | nil => exact ⟨rfl, rfl⟩
 | cons _ _ _ _ ih => simp [ih.1, ih.2]
theorem RdL.at {ts : List Ty} {us : List Value} {cs : List Cl} (h : RdL ts us cs) : ∀ (k : Nat) (t : Ty) (u : Value) (c : Cl), ts[k]? = some t -> us[k]? = some u -> cs[k]? = some c -> RdV t u c /\ Yko t c /\ WfC t c := by
 induction h with
 | nil => intro k t u c h; simp at h
 | cons a b d _ ih =>
  intro k t u c h1 h2 h3;cases k with
  | zero => simp only [List.getElem?_cons_zero, Option.some.injEq] at h1 h2 h3; subst h1; subst h2; subst h3; exact ⟨a, b, d⟩
  | succ k => exact ih k t u c (by simpa using h1) (by simpa using h2) (by simpa using h3)
theorem RdL.wf {ts : List Ty} {us : List Value} {cs : List Cl} (h : RdL ts us cs) : WfL ts cs := by
 induction h with
 | nil => exact .nil
 | cons _ _ c _ ih => exact .cons c ih
end
def Yux (rec : TypeId -> Option (List Ty)) : Nat -> List Field -> Option (List Ty)
 | _, [] => some []
 | off, f :: fs => match rec f.type with
  | none => none
  | some ts => if f.offset = off then (Yux rec (off + ts.length) fs).map (ts ++ ·) else none
def fitN : Nat -> List Ty -> List Ty
 | 0, _ => []
 | n + 1, ts => ts ++ fitN n ts
def fit0 (P : Program) (rec : TypeId -> Option (List Ty)) (t : TypeId) : Option (List Ty) :=
 match P.underlying t with
 | some .bool => some [.bool]
 | some (.int k) => some [.int k]
 | some .string => some [.str]
 | some (.slice e) => (match rec e with | some (t :: ts) => some [.sl (t :: ts)] | _ => none)
 | some (.struct fs) => Yux rec 0 fs.toList
 | some (.array n e) => (rec e).map (fitN n)
 | _ => none
def Yla (P : Program) : Nat -> TypeId -> Option (List Ty)
 | 0, _ => none
 | d + 1, t => match fit0 P (Yla P d) t with
  | some ts => if P.cellsOf t = ts.length then some ts else none
  | none => none
theorem Ydi {P : Program} {d : Nat} {t : TypeId} {ts : List Ty} (h : Yla P d t = some ts) : P.cellsOf t = ts.length := by
 cases d with
 | zero => cases h
 | succ d =>
  unfold Yla at h
  split at h
  ·split at h
   ·cases h; assumption
   ·cases h
  ·cases h
theorem Ysw {α : Type} {f : Nat -> Option α} : ∀ {n : Nat} {r : List α}, (List.range n).mapM f = some r -> r.length = n /\ ∀ (i : Nat) (x : α), r[i]? = some x -> f i = some x := by
 have key : ∀ (l : List Nat) (r : List α), l.mapM f = some r -> r.length = l.length /\ ∀ (i : Nat) (x : α), r[i]? = some x -> ∃ j, l[i]? = some j /\ f j = some x := by
  intro l
  induction l with
  | nil => intro r h; simp at h; subst h; exact ⟨rfl, by simp⟩
  | cons a l ih =>
   intro r h;rw [List.mapM_cons] at h;simp only [bind, Option.bind_eq_some_iff, pure, Option.some.injEq] at h;obtain ⟨y, hy, ys, hys, rfl⟩ := h;obtain ⟨h1, h2⟩ := ih ys hys;refine ⟨by simp [h1], fun i x hx => ?_⟩;cases i with
   | zero => simp only [List.getElem?_cons_zero, Option.some.injEq] at hx; subst hx; exact ⟨a, rfl, hy⟩
   | succ i => obtain ⟨j, h3, h4⟩ := h2 i x (by simpa using hx); exact ⟨j, by simpa using h3, h4⟩
 intro n r h;obtain ⟨h1, h2⟩ := key _ _ h;rw [List.length_range] at h1;refine ⟨h1, fun i x hx => ?_⟩;obtain ⟨j, h3, h4⟩ := h2 i x hx;have hi : i < n := by
  rw [<- h1];exact (List.getElem?_eq_some_iff.1 hx).1
 rw [List.getElem?_range hi] at h3;cases h3;exact h4
theorem Ypo {w : World} {a : Addr} {n : Nat} {cs : List Value} (h : w.cells? 0 a n = some cs) : cs.length = n /\ ∀ i u, cs[i]? = some u -> w.cell? (a.add i) = some u := by
 unfold World.cells? at h;rw [if_pos (Nat.zero_le _)] at h;exact Ysw h
theorem Ytc {w : World} {a : Addr} {u : Value} (h : w.cell? a = some u) : a.spot = none /\ a.block < w.heap.size := by
 unfold World.cell? at h
 split at h
 ·rename_i c e1 e2 hb;refine ⟨?_, ?_⟩
  ·split at h
   ·cases h
   ·rename_i hs; cases hsp : a.spot <;> simp_all
  ·rcases Nat.lt_or_ge a.block w.heap.size with hlt | hge
   ·exact hlt
   ·simp [Array.getElem?_eq_none hge] at hb
 ·cases h
section
variable {H : Type} {enc : TypeId × Value -> H} {P : Program}
def Yns (enc : TypeId × Value -> H) (P : Program) (w : World) (rec : TypeId -> Option (List Ty)) (fuel : Nat) : Prop :=
 ∀ (t : TypeId) (ts : List Ty) (cs : List Value) (x : DataW H × List MemPlace), rec t = some ts -> DataW.trod enc P w 0 (fun _ => true) true fuel t cs = some x -> ∃ ds, @RdL (atW w) ts cs ds
theorem Yrz {w : World} {rec : TypeId -> Option (List Ty)} {fuel : Nat} (hrec : Yns enc P w rec fuel) (hc : ∀ t ts, rec t = some ts -> P.cellsOf t = ts.length) (cs : List Value) :
  ∀ (fs : List Field) (off : Nat) (ts : List Ty), Yux rec off fs = some ts -> (∀ f ∈ fs, ∃ x, DataW.trod enc P w 0 (fun _ => true) true fuel f.type ((cs.drop f.offset).take (P.cellsOf f.type)) = some x) ->
   ∃ ds, @RdL (atW w) ts ((cs.drop off).take ts.length) ds
 | [], off, ts, h, _ => by
  simp only [Yux, Option.some.injEq] at h;subst h;exact ⟨[], by simpa using @RdL.nil (atW w)⟩
 | f :: fs, off, ts, h, hm => by
  unfold Yux at h
  split at h
  ·cases h
  ·rename_i t1 h1
   split at h
   ·rename_i hoff;rw [Option.map_eq_some_iff] at h;obtain ⟨t2, h2, rfl⟩ := h;obtain ⟨y, hy⟩ := hm f List.mem_cons_self;obtain ⟨d1, k1⟩ := hrec _ _ _ _ h1 hy;obtain ⟨d2, k2⟩ := Yrz hrec hc cs fs _ _ h2 fun f hf => hm f (List.mem_cons_of_mem _ hf);rw [hoff, hc _ _ h1] at k1;refine ⟨d1 ++ d2, ?_⟩;have := RdL.append (W := atW w) k1 k2;have e : (cs.drop off).take (t1 ++ t2).length = (cs.drop off).take t1.length ++ (cs.drop (off + t1.length)).take t2.length := by
     rw [List.length_append, List.take_add, List.drop_drop]
    rw [e];exact this
   ·cases h
theorem Ypq {w : World} {rec : TypeId -> Option (List Ty)} {fuel : Nat} (hrec : Yns enc P w rec fuel) {e : TypeId} {ts : List Ty} (he : rec e = some ts) (hc : P.cellsOf e = ts.length) (cs : List Value) :
  ∀ (n m : Nat), (∀ i, m <= i -> i < m + n -> ∃ x, DataW.trod enc P w 0 (fun _ => true) true fuel e ((cs.drop (i * P.cellsOf e)).take (P.cellsOf e)) = some x) ->
   ∃ ds, @RdL (atW w) (fitN n ts) ((cs.drop (m * ts.length)).take (n * ts.length)) ds
 | 0, m, _ => ⟨[], by simpa [fitN] using @RdL.nil (atW w)⟩
 | n + 1, m, h => by
  obtain ⟨x, hx⟩ := h m (Nat.le_refl _) (by omega);obtain ⟨d1, k1⟩ := hrec _ _ _ _ he hx;obtain ⟨d2, k2⟩ := Ypq hrec he hc cs n (m + 1) fun i h1 h2 => h i (by omega) (by omega);rw [hc] at k1;refine ⟨d1 ++ d2, ?_⟩;have := RdL.append (W := atW w) k1 k2;have e1 : (cs.drop (m * ts.length)).take ((n + 1) * ts.length) = (cs.drop (m * ts.length)).take ts.length ++ (cs.drop ((m + 1) * ts.length)).take (n * ts.length) := by
   rw [Nat.add_mul, Nat.one_mul, Nat.add_comm (n * ts.length), List.take_add, List.drop_drop, Nat.add_mul, Nat.one_mul]
  rw [e1];exact this
theorem Yv7 {w : World} {rec : TypeId -> Option (List Ty)} {fuel : Nat} (hrec : Yns enc P w rec fuel) {e : TypeId} {ts : List Ty} (hts : ts ≠ []) (he : rec e = some ts) (hc : P.cellsOf e = ts.length) {a : Addr} {len cap : Nat} (hlc : len <= cap) (hcm : cap <= maxLen) {els : List (DataW H × List MemPlace)}
  (hel : els.length = len) (h : ∀ i, i < len -> (w.cells? 0 (a.add (i * P.cellsOf e)) (P.cellsOf e)).bind (DataW.trod enc P w 0 (fun _ => true) true fuel e) = els[i]?) : ∃ ds, @RdL (atW w) [.sl ts] [.slice (some a) len cap] ds := by
 have hpos : 0 < ts.length := List.length_pos_iff.2 hts;have hget : ∀ i, i < len -> ∃ cs ds, w.cells? 0 (a.add (i * ts.length)) ts.length = some cs /\ @RdL (atW w) ts cs ds := fun i hi => by
  have hx : els[i]? = some els[i] := List.getElem?_eq_getElem (by omega);have := (h i hi).trans hx;rw [Option.bind_eq_some_iff] at this;obtain ⟨cs, k1, k2⟩ := this;obtain ⟨ds, k3⟩ := hrec _ _ _ _ he k2;rw [hc] at k1;exact ⟨cs, ds, k1, k3⟩
 have hall : ∃ xs : Dt, xs.length = len /\ ∃ us : List (List Value), us.length = len /\ ∀ i cs ds, us[i]? = some cs -> xs[i]? = some ds -> w.cells? 0 (a.add (i * ts.length)) ts.length = some cs /\ @RdL (atW w) ts cs ds := by
  clear h hel
  induction len with
  | zero => exact ⟨[], rfl, [], rfl, by simp⟩
  | succ n ih =>
   obtain ⟨xs, h1, us, h2, h3⟩ := ih (by omega) fun i hi => hget i (by omega);obtain ⟨cs, ds, k1, k2⟩ := hget n (by omega);refine ⟨xs ++ [ds], by simp [h1], us ++ [cs], by simp [h2], fun i c d hc' hd' => ?_⟩
   by_cases hi : i < n
   ·rw [List.getElem?_append_left (by omega)] at hc' hd';exact h3 i c d hc' hd'
   ·have hn : i = n := by
     have := (List.getElem?_eq_some_iff.1 hd').1;simp [h1] at this;omega
    subst hn;simp [List.getElem?_append, h1] at hd';simp [List.getElem?_append, h2] at hc';subst hd'; subst hc';exact ⟨k1, k2⟩
 obtain ⟨xs, hxl, us, hul, hx⟩ := hall;have hrow : ∀ i, i < len -> ∃ cs ds, us[i]? = some cs /\ xs[i]? = some ds /\ w.cells? 0 (a.add (i * ts.length)) ts.length = some cs /\ @RdL (atW w) ts cs ds := fun i hi => by
  have e1 : us[i]? = some us[i] := List.getElem?_eq_getElem (by omega);have e2 : xs[i]? = some xs[i] := List.getElem?_eq_getElem (by omega);exact ⟨_, _, e1, e2, hx i _ _ e1 e2⟩
 have hat : ∀ i k, i < len -> k < ts.length -> a.spot = none /\ a.block < w.heap.size /\ w.cell? ⟨a.block, a.off + i * ts.length + k, none⟩ = some ((us.getD i []).getD k undef) := fun i k hi hk => by
  have first : a.spot = none /\ a.block < w.heap.size := by
   obtain ⟨cs, ds, e1, e2, k1, k2⟩ := hrow 0 (by omega);obtain ⟨k3, k4⟩ := Ypo k1;have := k4 0 cs[0] (List.getElem?_eq_getElem (by omega));simp only [Nat.zero_mul, Addr.add, if_true] at this;exact Ytc this
  obtain ⟨cs, ds, e1, e2, k1, k2⟩ := hrow i hi;obtain ⟨k3, k4⟩ := Ypo k1;have h5 := k4 k cs[k] (List.getElem?_eq_getElem (by omega));refine ⟨first.1, first.2, ?_⟩;have ea : (a.add (i * ts.length)).add k = ⟨a.block, a.off + i * ts.length + k, none⟩ := by
   obtain ⟨b, o, s⟩ := a;have : s = none := first.1
   subst this
   by_cases h0 : i * ts.length = 0 <;> by_cases h1 : k = 0 <;> simp [Addr.add, h0, h1]
  rw [ea] at h5;rw [h5];simp [List.getD_eq_getElem?_getD, e1, List.getElem?_eq_getElem (show k < cs.length by omega)]
 have hcell : ∀ i k t, i < len -> ts[k]? = some t -> @RdV (atW w) t ((us.getD i []).getD k undef) (cel xs i k) /\ Yko t (cel xs i k) /\ WfC t (cel xs i k) := fun i k t hi ht => by
  obtain ⟨cs, ds, e1, e2, k1, k2⟩ := hrow i hi;obtain ⟨l1, l2⟩ := RdL.len (W := atW w) k2;have hk : k < ts.length := (List.getElem?_eq_some_iff.1 ht).1;have := RdL.at (W := atW w) k2 k t cs[k] ds[k] ht (List.getElem?_eq_getElem (by omega)) (List.getElem?_eq_getElem (by omega));simpa [cel, List.getD_eq_getElem?_getD, e1, e2, List.getElem?_eq_getElem (show k < cs.length by omega), List.getElem?_eq_getElem (show k < ds.length by omega)] using this
 refine ⟨[.l xs], @RdL.cons (atW w) _ _ _ _ _ _ ?_ ⟨_, rfl⟩ (.sl ts xs (by omega) (fun row hr => ?_) fun i k t hi ht => (hcell i k t (by omega) ht).2.2) (@RdL.nil (atW w))⟩
 ·have := @RdV.sl (atW w) ts (some a) cap (.l xs) (fun i k => (us.getD i []).getD k undef) (by show xs.length <= cap; omega) (by show xs.length <= maxLen; omega) (fun hne => ?_) (fun i k t hi ht => (hcell i k t (by rw [<- hxl]; exact hi) ht).1)
  ·rw [show (Cl.l xs).lst.length = len from hxl] at this;exact this
  ·have h0 : 0 < len := by rw [<- hxl]; exact List.length_pos_iff.2 hne
   obtain ⟨f1, f2, _⟩ := hat 0 0 h0 hpos;refine ⟨a.block, a.off, by obtain ⟨b, o, s⟩ := a; have : s = none := f1; subst this; rfl, f2, fun i k hi hk => (hat i k (by rw [<- hxl]; exact hi) hk).2.2⟩
 ·obtain ⟨i, hi, rfl⟩ := List.getElem_of_mem hr;obtain ⟨cs, ds, e1, e2, k1, k2⟩ := hrow i (by omega);rw [List.getElem?_eq_getElem hi] at e2;cases e2;exact (RdL.len (W := atW w) k2).2
theorem Yg3 {w : World} {t : Ty} {u : Value} {c : Cl} (h : @RdV (atW w) t u c) (hz : Yko t c) (hw : WfC t c) : ∃ ds, @RdL (atW w) [t] [u] ds := ⟨[c], @RdL.cons (atW w) _ _ _ _ _ _ h hz hw (@RdL.nil (atW w))⟩
theorem Yfe (w : World) : ∀ (d fuel : Nat), Yns enc P w (Yla P d) fuel
 | 0, _ => fun t ts cs x h _ => by cases h
 | d + 1, fuel => fun t ts cs x hf h => by
  have hcs := Ydi hf;unfold Yla at hf
  split at hf
  ·rename_i ts' h0
   split at hf
   ·cases hf;unfold fit0 at h0
    split at h0
    ·rename_i hu;cases h0;obtain ⟨b, rfl, _⟩ := DataW.trod_bool hu h;exact Yg3 (@RdV.bool (atW w) (.b b)) ⟨_, rfl⟩ (.bool b)
    ·rename_i k hu;cases h0;obtain ⟨n, rfl, _, hw⟩ := DataW.trod_int hu h;exact Yg3 (@RdV.int (atW w) k (.i n)) ⟨_, rfl⟩ (.int k n hw)
    ·rename_i hu;cases h0;obtain ⟨s, rfl, _, hw⟩ := DataW.trod_string hu h;exact Yg3 (@RdV.str (atW w) (.s s)) ⟨_, rfl⟩ (.str s hw)
    ·rename_i e hu
     split at h0
     ·rename_i t0 ts0 he;cases h0;rcases DataW.trod_slice hu h with ⟨rfl, _⟩ | ⟨a, len, cap, elems, rest, n, rfl, rfl, _, _, h1, h2, h3, h4, _⟩
      ·exact Yg3 (@RdV.nil (atW w) (t0 :: ts0) (.l []) rfl) ⟨_, rfl⟩ (.sl _ _ (Nat.zero_le _) (by simp) (by simp))
      ·exact Yv7 (Yfe w d n) (by simp) he (Ydi he) h1 h2 h3 h4
     ·cases h0
    ·rename_i fs hu;obtain ⟨xs, n, rfl, _, hl, hxl, h1⟩ := DataW.trod_struct hu h;obtain ⟨ds, k⟩ := Yrz (Yfe w d n) (fun t ts => Ydi) cs fs.toList 0 _ h0 fun f hf => by
      obtain ⟨i, hi, rfl⟩ := List.getElem_of_mem hf;have := h1 i fs[i] (by simp [Array.getElem?_eq_getElem (show i < fs.size by simpa using hi)]);exact ⟨xs[i]'(by rw [hxl]; simpa using hi), by simpa [List.getElem?_eq_getElem (show i < xs.length by rw [hxl]; simpa using hi)] using this⟩
     refine ⟨ds, ?_⟩;rw [List.drop_zero, List.take_of_length_le (by omega)] at k;exact k
    ·rename_i n e hu;rw [Option.map_eq_some_iff] at h0;obtain ⟨ts0, he, rfl⟩ := h0;obtain ⟨xs, m, rfl, _, hl, hxl, h1⟩ := DataW.trod_array hu h;obtain ⟨ds, k⟩ := Ypq (Yfe w d m) he (Ydi he) cs n 0 fun i _ hi => by
      have := h1 i (by omega);exact ⟨xs[i]'(by omega), by rw [this, List.getElem?_eq_getElem]⟩
     refine ⟨ds, ?_⟩;have hlen : ∀ n, (fitN n ts0).length = n * ts0.length := fun n => by
      induction n with
      | zero => simp [fitN]
      | succ n ih => simp [fitN, ih, Nat.add_mul, Nat.add_comm]
     rw [Nat.zero_mul, List.drop_zero, List.take_of_length_le (by rw [<- hlen]; omega)] at k;exact k
    ·cases h0
   ·cases hf
  ·cases hf
def atOf (P : Program) (t : TypeId) : Option AT :=
 match P.underlying t with
 | some (.struct _) => (Yla P 9 t).map .agg
 | some (.array _ _) => (Yla P 9 t).map .agg
 | _ => (match Yla P 9 t with | some [ty] => some (.one ty) | _ => none)
def Yxb (P : Program) : List TypeId -> Option (List AT)
 | [] => some []
 | t :: ts => match atOf P t with
  | none => none
  | some a => (Yxb P ts).map (a :: ·)
theorem Yvq {w : World} {base : Nat} {t : TypeId} {v : Value} {d : DataW H} {ps : List MemPlace} {a : AT} (ha : atOf P t = some a) (hv : Value.okWide P w .any base t v) (h : DataW.Trod enc P w 0 (fun _ => true) true t v d ps) :
  ∃ dd, @Yvy (atW w) a v dd /\ WfA a dd := by
 obtain ⟨fuel, h⟩ := h;have wide : ∀ (tys : List Ty), Yla P 9 t = some tys -> (∃ cs, v = .agg cs) -> ∃ dd, @Yvy (atW w) (.agg tys) v dd /\ WfA (.agg tys) dd := fun tys hf ⟨cs, e⟩ => by
  subst e;obtain ⟨ds, k⟩ := Yfe w 9 fuel t tys _ _ hf h;obtain ⟨l1, l2⟩ := RdL.len (W := atW w) k;refine ⟨ds, ⟨cs.toList, by simp, by simpa [Value.cells] using l1, l2, fun i t u c h1 h2 h3 => ?_⟩, RdL.wf (W := atW w) k⟩;have := RdL.at (W := atW w) k i t u c h1 (by simpa [Value.cells] using h2) h3;exact ⟨this.1, this.2.1⟩
 unfold atOf at ha;unfold Value.okWide at hv
 split at ha
 ·rename_i fs hu;rw [hu] at hv;rw [Option.map_eq_some_iff] at ha;obtain ⟨tys, hf, rfl⟩ := ha;obtain ⟨cs, e, _⟩ := hv;exact wide tys hf ⟨cs, e⟩
 ·rename_i n e hu;rw [hu] at hv;rw [Option.map_eq_some_iff] at ha;obtain ⟨tys, hf, rfl⟩ := ha;obtain ⟨cs, e, _⟩ := hv;exact wide tys hf ⟨cs, e⟩
 ·rename_i hn1 hn2
  split at ha
  ·rename_i ty hf;cases ha;obtain ⟨ds, k⟩ := Yfe w 9 fuel t [ty] _ _ hf h;obtain ⟨l1, l2⟩ := RdL.len (W := atW w) k;have hone : v.cells = #[v] := by
    cases v <;> first | rfl | skip
    exfalso;rename_i cs;have hv2 : Cell.okWide P w .any base t (.agg cs) := by
     split at hv
     ·rename_i fs hu; exact (hn1 fs hu).elim
     ·rename_i n e hu; exact (hn2 n e hu).elim
     ·exact hv
    have hc := Ydi hf;unfold Yla at hf
    split at hf
    ·rename_i ts' h0;unfold fit0 at h0;cases hu : P.underlying t with
     | none => rw [hu] at h0; cases h0
     | some td => cases td <;> simp only [hu] at h0 <;> first | (cases h0; done) | (exact (hn1 _ hu).elim) | (exact (hn2 _ _ hu).elim) | (unfold Cell.okWide at hv2; rw [hu] at hv2; simp [Cell.ok, hu] at hv2; done)
    ·cases hf
   rw [hone] at k;cases k with
   | cons a b c hs =>
    cases hs;exact ⟨_, ⟨_, rfl, a, b⟩, .cons c .nil⟩
  ·cases ha
theorem Yml {w : World} {base : Nat} : ∀ {ts : List TypeId} {vs : List Value} {ds : List (DataW H)} {ps : List MemPlace} {ats : List AT}, Yxb P ts = some ats -> (∀ (j : Nat) t v, ts[j]? = some t -> vs[j]? = some v -> Value.okWide P w .any base t v) -> DataW.TrodAll enc P w 0 (fun _ => true) true ts vs ds ps ->
  ∃ dd, @Yr7 (atW w) ats vs dd /\ WfD ats dd
 | [], [], [], _, ats, ha, _, _ => by cases ha; exact ⟨[], ⟨rfl, rfl⟩, rfl⟩
 | t :: ts, v :: vs, d :: ds, ps, ats, ha, hv, ⟨p, q, h1, h2, e⟩ => by
  unfold Yxb at ha
  split at ha
  ·cases ha
  ·rename_i a hat;rw [Option.map_eq_some_iff] at ha;obtain ⟨ats', ha', rfl⟩ := ha;obtain ⟨d1, k1, k2⟩ := Yvq hat (hv 0 t v rfl rfl) h1;obtain ⟨d2, k3, k4⟩ := Yml ha' (fun j t v h1 h2 => hv (j + 1) t v (by simpa using h1) (by simpa using h2)) h2;exact ⟨d1 :: d2, ⟨v, vs, d1, d2, rfl, rfl, k1, k3⟩, ⟨d1, d2, rfl, k2, k4⟩⟩
theorem Ynz {W W' : World} (hl : laidOutB P = true) (hb : Below W.heap.size W W') : ∀ {ts : List TypeId} {vs : List Value} {ds : List (DataW H)} {ps : List MemPlace}, (ts.all fun t => P.readableRec t && decide (t < P.types.size)) = true -> DataW.TrodAll enc P W 0 (fun _ => true) true ts vs ds ps ->
  DataW.TrodAll enc P W' 0 (fun b => decide (b < W.heap.size)) true ts vs ds ps
 | [], [], [], _, _, h => h
 | t :: ts, v :: vs, d :: ds, ps, hr, h => by
  have hlt := DataW.TrodAll.lt h;obtain ⟨p, q, h1, h2, e⟩ := h;simp only [List.all_cons, Bool.and_eq_true, decide_eq_true_eq] at hr;subst e;exact ⟨p, q, Below.trod hl hr.1.1 hr.1.2 h1 hb fun x hx => hlt x (List.mem_append_left _ hx), Ynz hl hb hr.2 h2, rfl⟩
theorem law_end {g : FuncId} {f : Func} {s : ChangeSpec} {W : World} {base : Nat} {args : Array Value} {ds gs : List (DataW H)} {before : List MemPlace} {tb : TypeId} {ats : List AT} (hrt : f.resultTypes = #[tb]) (hub : P.underlying tb = some .bool) (hats : Yxb P f.params.toList = some ats) (hs : s.vars = [])
  (hl : laidOutB P = true) (hr : (f.params.toList.all fun t => P.readableRec t && decide (t < P.types.size)) = true)
  (hfn : ∀ ds : List (DataW H), ds.length = f.params.toList.length -> (s.fn H ds).results = [.lit (.bool true)] /\ (s.fn H ds).args = ds /\ (s.fn H ds).vars = [])
  (h : PureOk P g ats [(false, [.bool])] (WfD ats) fun _ => [[.b true]])
  (hval : ∀ (j : Nat) t v, f.params[j]? = some t -> args[j]? = some v -> Value.okWide P W .any base t v) (hW : DataW.Whole enc P f.params.toList s.vars false W args.toList ds gs before) :
  Calls P g args W fun e W' => ∃ v, e = .returned v /\ s.post enc P f false true false false W args v W' := by
 have hW0 := hW;obtain ⟨p, q, hA, hV, rfl, hfz, _⟩ := hW;rw [hs] at hV;have hgq : gs = [] /\ q = [] := by
  cases gs with
  | nil => exact ⟨rfl, hV⟩
  | cons _ _ => exact hV.elim
 obtain ⟨rfl, rfl⟩ := hgq;obtain ⟨_, hlen⟩ := trodAll_length hA;obtain ⟨dd, k1, k2⟩ := Yml hats (fun j t v h1 h2 => hval j t v (by simpa using h1) (by simpa using h2)) hA;obtain ⟨xs, x1, x2⟩ := @Ykw (atW W) _ _ _ k1;have hc := h (atW W) xs dd x1 k2 0 (by decide);have hSt : @St (atW W) W [] [] W := @St.start (atW W) W (@InOk.mk (atW W) W [] (Nat.le_refl _) (by simp) (Below.refl _ _))
 letI : InW := atW W
 have hnew : NewFor (keys (Yef 0 0 [(false, [.bool])] [[.b true]])) xs [] := fun i hi => by
  have e : keys (Yef 0 0 [(false, [.bool])] [[.b true]]) = [] := rfl;rw [e] at hi; cases hi
 have hcall := hc (fun _ => ⟨0, false, 0, none, 0, undef⟩) W [] [] W hnew hSt;rw [x2] at hcall;have e0 : args.toList.toArray = args := by simp
 rw [e0] at hcall;refine hcall.mono fun e W' ⟨φ', _, he, hS⟩ => ?_;have hb : Below W.heap.size W W' := @St.belowIn (atW W) _ _ _ _ hS;obtain ⟨hf1, hf2, hf3⟩ := hfn (ds ++ []) (by simpa using hlen);refine ⟨_, he, ds, [], p ++ [], [], p, [], hW0, ?_, ?_, ?_, ?_, fun h => by cases h⟩
 ·rw [hf1, hrt];exact ⟨[], [], ⟨1, by show DataW.trod enc P W' _ _ _ 1 tb [.bool true] = _; simp [DataW.trod, hub]⟩, rfl, rfl⟩
 ·rw [hf2, List.append_nil];exact Ynz hl hb hr hA
 ·rw [hs, hf3]; rfl
 ·refine World.keptBut_mono (fun x hx => ⟨hx, .inr (.inl (by simpa using hx))⟩) (hb.frame _)
end
end Go.Proofs.Ytmogofidmchdoaa
