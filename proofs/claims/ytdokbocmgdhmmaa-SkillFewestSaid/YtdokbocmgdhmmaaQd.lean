/-
  A machine over abstract states, proved sound: the help of the proof of a law.
-/
import Derived.Test.YtdokbocmgdhmmaaQc
import Derived.Carry
import Derived.OpenShut
import Derived.ChangeCalls
import Derived.ProofKit
import Derived.Test.YtdokbocmgdhmmaaProg
import Derived.IntWalk
set_option linter.unusedVariables false
set_option linter.unusedSectionVars false
set_option linter.unusedSimpArgs false
namespace Go.Proofs.Ytdokbocmgdhmmaa
open Go.RowKit Go.ChangeShapes Go.WideShapes Go.ChangeAt
set_option linter.unusedVariables false
inductive WfC : Ty → Cl → Prop
  | int (k : IntKind) (n : Int) (h : (Lit.int k n).wf = true) : WfC (.int k) (.i n)
  | bool (b : Bool) : WfC .bool (.b b)
  | str (s : ByteArray) (h : s.size ≤ maxLen) : WfC .str (.s s)
  | sl (ts : List Ty) (xs : Dt) (hm : xs.length ≤ maxLen) (hl : ∀ row ∈ xs, row.length = ts.length) (h : ∀ i k t, i < xs.length → ts[k]? = some t → WfC t (cel xs i k)) : WfC (.sl ts) (.l xs)
inductive WfL : List Ty → List Cl → Prop
  | nil : WfL [] []
  | cons {t : Ty} {c : Cl} {ts : List Ty} {cs : List Cl} (h : WfC t c) (hs : WfL ts cs) : WfL (t :: ts) (c :: cs)
def WfA (a : AT) (d : List Cl) : Prop := match a with | .one t => WfL [t] d | .agg ts => WfL ts d
def WfD : List AT → DS → Prop
  | [], ds => ds = []
  | a :: ats, ds => ∃ d ds', ds = d :: ds' ∧ WfA a d ∧ WfD ats ds'
inductive RdL [InW] : List Ty → List Value → List Cl → Prop
  | nil : RdL [] [] []
  | cons {t : Ty} {u : Value} {c : Cl} {ts : List Ty} {us : List Value} {cs : List Cl} (h : RdV t u c) (hz : canon t c) (hw : WfC t c) (hs : RdL ts us cs) : RdL (t :: ts) (u :: us) (c :: cs)
section
variable [W : InW]
theorem RdL.append {ts : List Ty} {us : List Value} {cs : List Cl} {ts' : List Ty} {us' : List Value} {cs' : List Cl} (h : RdL ts us cs) (h' : RdL ts' us' cs') : RdL (ts ++ ts') (us ++ us') (cs ++ cs') := by
  induction h with
  | nil => exact h'
  | cons a b c _ ih => exact .cons a b c ih
theorem RdL.len {ts : List Ty} {us : List Value} {cs : List Cl} (h : RdL ts us cs) : us.length = ts.length ∧ cs.length = ts.length := by
  induction h with
  | nil => exact ⟨rfl, rfl⟩
  | cons _ _ _ _ ih => simp [ih.1, ih.2]
theorem RdL.at {ts : List Ty} {us : List Value} {cs : List Cl} (h : RdL ts us cs) : ∀ (k : Nat) (t : Ty) (u : Value) (c : Cl), ts[k]? = some t → us[k]? = some u → cs[k]? = some c → RdV t u c ∧ canon t c ∧ WfC t c := by
  induction h with
  | nil => intro k t u c h; simp at h
  | cons a b d _ ih =>
    intro k t u c h1 h2 h3
    cases k with
    | zero => simp only [List.getElem?_cons_zero, Option.some.injEq] at h1 h2 h3; subst h1; subst h2; subst h3; exact ⟨a, b, d⟩
    | succ k => exact ih k t u c (by simpa using h1) (by simpa using h2) (by simpa using h3)
theorem RdL.wf {ts : List Ty} {us : List Value} {cs : List Cl} (h : RdL ts us cs) : WfL ts cs := by
  induction h with
  | nil => exact .nil
  | cons _ _ c _ ih => exact .cons c ih
end
def fitFs (rec : TypeId → Option (List Ty)) : Nat → List Field → Option (List Ty)
  | _, [] => some []
  | off, f :: fs => match rec f.type with
    | none => none
    | some ts => if f.offset = off then (fitFs rec (off + ts.length) fs).map (ts ++ ·) else none
def fitN : Nat → List Ty → List Ty
  | 0, _ => []
  | n + 1, ts => ts ++ fitN n ts
def fit0 (P : Program) (rec : TypeId → Option (List Ty)) (t : TypeId) : Option (List Ty) :=
  match P.underlying t with
  | some .bool => some [.bool]
  | some (.int k) => some [.int k]
  | some .string => some [.str]
  | some (.slice e) => (match rec e with | some (t :: ts) => some [.sl (t :: ts)] | _ => none)
  | some (.struct fs) => fitFs rec 0 fs.toList
  | some (.array n e) => (rec e).map (fitN n)
  | _ => none
def fitTy (P : Program) : Nat → TypeId → Option (List Ty)
  | 0, _ => none
  | d + 1, t => match fit0 P (fitTy P d) t with
    | some ts => if P.cellsOf t = ts.length then some ts else none
    | none => none
theorem fitTy_cells {P : Program} {d : Nat} {t : TypeId} {ts : List Ty} (h : fitTy P d t = some ts) : P.cellsOf t = ts.length := by
  cases d with
  | zero => cases h
  | succ d =>
    unfold fitTy at h
    split at h
    · split at h
      · cases h; assumption
      · cases h
    · cases h
theorem mapM_range {α : Type} {f : Nat → Option α} : ∀ {n : Nat} {r : List α}, (List.range n).mapM f = some r → r.length = n ∧ ∀ (i : Nat) (x : α), r[i]? = some x → f i = some x := by
  have key : ∀ (l : List Nat) (r : List α), l.mapM f = some r → r.length = l.length ∧ ∀ (i : Nat) (x : α), r[i]? = some x → ∃ j, l[i]? = some j ∧ f j = some x := by
    intro l
    induction l with
    | nil => intro r h; simp at h; subst h; exact ⟨rfl, by simp⟩
    | cons a l ih =>
      intro r h
      rw [List.mapM_cons] at h
      simp only [bind, Option.bind_eq_some_iff, pure, Option.some.injEq] at h
      obtain ⟨y, hy, ys, hys, rfl⟩ := h
      obtain ⟨h1, h2⟩ := ih ys hys
      refine ⟨by simp [h1], fun i x hx => ?_⟩
      cases i with
      | zero => simp only [List.getElem?_cons_zero, Option.some.injEq] at hx; subst hx; exact ⟨a, rfl, hy⟩
      | succ i => obtain ⟨j, h3, h4⟩ := h2 i x (by simpa using hx); exact ⟨j, by simpa using h3, h4⟩
  intro n r h
  obtain ⟨h1, h2⟩ := key _ _ h
  rw [List.length_range] at h1
  refine ⟨h1, fun i x hx => ?_⟩
  obtain ⟨j, h3, h4⟩ := h2 i x hx
  have hi : i < n := by
    rw [← h1]
    exact (List.getElem?_eq_some_iff.1 hx).1
  rw [List.getElem?_range hi] at h3
  cases h3
  exact h4
theorem cells?_at {w : World} {a : Addr} {n : Nat} {cs : List Value} (h : w.cells? 0 a n = some cs) : cs.length = n ∧ ∀ i u, cs[i]? = some u → w.cell? (a.add i) = some u := by
  unfold World.cells? at h
  rw [if_pos (Nat.zero_le _)] at h
  exact mapM_range h
theorem cell_plain {w : World} {a : Addr} {u : Value} (h : w.cell? a = some u) : a.spot = none ∧ a.block < w.heap.size := by
  unfold World.cell? at h
  split at h
  · rename_i c e1 e2 hb
    refine ⟨?_, ?_⟩
    · split at h
      · cases h
      · rename_i hs; cases hsp : a.spot <;> simp_all
    · rcases Nat.lt_or_ge a.block w.heap.size with hlt | hge
      · exact hlt
      · simp [Array.getElem?_eq_none hge] at hb
  · cases h
section
variable {H : Type} {enc : TypeId × Value → H} {P : Program}
def ReadsAs (enc : TypeId × Value → H) (P : Program) (w : World) (rec : TypeId → Option (List Ty)) (fuel : Nat) : Prop :=
  ∀ (t : TypeId) (ts : List Ty) (cs : List Value) (x : DataW H × List MemPlace), rec t = some ts → DataW.trod enc P w 0 (fun _ => true) true fuel t cs = some x → ∃ ds, @RdL (atW w) ts cs ds
theorem fs_reads {w : World} {rec : TypeId → Option (List Ty)} {fuel : Nat} (hrec : ReadsAs enc P w rec fuel) (hc : ∀ t ts, rec t = some ts → P.cellsOf t = ts.length) (cs : List Value) :
    ∀ (fs : List Field) (off : Nat) (ts : List Ty), fitFs rec off fs = some ts → (∀ f ∈ fs, ∃ x, DataW.trod enc P w 0 (fun _ => true) true fuel f.type ((cs.drop f.offset).take (P.cellsOf f.type)) = some x) →
      ∃ ds, @RdL (atW w) ts ((cs.drop off).take ts.length) ds
  | [], off, ts, h, _ => by
    simp only [fitFs, Option.some.injEq] at h
    subst h
    exact ⟨[], by simpa using @RdL.nil (atW w)⟩
  | f :: fs, off, ts, h, hm => by
    unfold fitFs at h
    split at h
    · cases h
    · rename_i t1 h1
      split at h
      · rename_i hoff
        rw [Option.map_eq_some_iff] at h
        obtain ⟨t2, h2, rfl⟩ := h
        obtain ⟨y, hy⟩ := hm f List.mem_cons_self
        obtain ⟨d1, k1⟩ := hrec _ _ _ _ h1 hy
        obtain ⟨d2, k2⟩ := fs_reads hrec hc cs fs _ _ h2 fun f hf => hm f (List.mem_cons_of_mem _ hf)
        rw [hoff, hc _ _ h1] at k1
        refine ⟨d1 ++ d2, ?_⟩
        have := RdL.append (W := atW w) k1 k2
        have e : (cs.drop off).take (t1 ++ t2).length = (cs.drop off).take t1.length ++ (cs.drop (off + t1.length)).take t2.length := by
          rw [List.length_append, List.take_add, List.drop_drop]
        rw [e]
        exact this
      · cases h
theorem arr_reads {w : World} {rec : TypeId → Option (List Ty)} {fuel : Nat} (hrec : ReadsAs enc P w rec fuel) {e : TypeId} {ts : List Ty} (he : rec e = some ts) (hc : P.cellsOf e = ts.length) (cs : List Value) :
    ∀ (n m : Nat), (∀ i, m ≤ i → i < m + n → ∃ x, DataW.trod enc P w 0 (fun _ => true) true fuel e ((cs.drop (i * P.cellsOf e)).take (P.cellsOf e)) = some x) →
      ∃ ds, @RdL (atW w) (fitN n ts) ((cs.drop (m * ts.length)).take (n * ts.length)) ds
  | 0, m, _ => ⟨[], by simpa [fitN] using @RdL.nil (atW w)⟩
  | n + 1, m, h => by
    obtain ⟨x, hx⟩ := h m (Nat.le_refl _) (by omega)
    obtain ⟨d1, k1⟩ := hrec _ _ _ _ he hx
    obtain ⟨d2, k2⟩ := arr_reads hrec he hc cs n (m + 1) fun i h1 h2 => h i (by omega) (by omega)
    rw [hc] at k1
    refine ⟨d1 ++ d2, ?_⟩
    have := RdL.append (W := atW w) k1 k2
    have e1 : (cs.drop (m * ts.length)).take ((n + 1) * ts.length) = (cs.drop (m * ts.length)).take ts.length ++ (cs.drop ((m + 1) * ts.length)).take (n * ts.length) := by
      rw [Nat.add_mul, Nat.one_mul, Nat.add_comm (n * ts.length), List.take_add, List.drop_drop, Nat.add_mul, Nat.one_mul]
    rw [e1]
    exact this
theorem sl_reads {w : World} {rec : TypeId → Option (List Ty)} {fuel : Nat} (hrec : ReadsAs enc P w rec fuel) {e : TypeId} {ts : List Ty} (hts : ts ≠ []) (he : rec e = some ts) (hc : P.cellsOf e = ts.length) {a : Addr} {len cap : Nat} (hlc : len ≤ cap) (hcm : cap ≤ maxLen) {els : List (DataW H × List MemPlace)}
    (hel : els.length = len) (h : ∀ i, i < len → (w.cells? 0 (a.add (i * P.cellsOf e)) (P.cellsOf e)).bind (DataW.trod enc P w 0 (fun _ => true) true fuel e) = els[i]?) : ∃ ds, @RdL (atW w) [.sl ts] [.slice (some a) len cap] ds := by
  have hpos : 0 < ts.length := List.length_pos_iff.2 hts
  have hget : ∀ i, i < len → ∃ cs ds, w.cells? 0 (a.add (i * ts.length)) ts.length = some cs ∧ @RdL (atW w) ts cs ds := fun i hi => by
    have hx : els[i]? = some els[i] := List.getElem?_eq_getElem (by omega)
    have := (h i hi).trans hx
    rw [Option.bind_eq_some_iff] at this
    obtain ⟨cs, k1, k2⟩ := this
    obtain ⟨ds, k3⟩ := hrec _ _ _ _ he k2
    rw [hc] at k1
    exact ⟨cs, ds, k1, k3⟩
  have hall : ∃ xs : Dt, xs.length = len ∧ ∃ us : List (List Value), us.length = len ∧ ∀ i cs ds, us[i]? = some cs → xs[i]? = some ds → w.cells? 0 (a.add (i * ts.length)) ts.length = some cs ∧ @RdL (atW w) ts cs ds := by
    clear h hel
    induction len with
    | zero => exact ⟨[], rfl, [], rfl, by simp⟩
    | succ n ih =>
      obtain ⟨xs, h1, us, h2, h3⟩ := ih (by omega) fun i hi => hget i (by omega)
      obtain ⟨cs, ds, k1, k2⟩ := hget n (by omega)
      refine ⟨xs ++ [ds], by simp [h1], us ++ [cs], by simp [h2], fun i c d hc' hd' => ?_⟩
      by_cases hi : i < n
      · rw [List.getElem?_append_left (by omega)] at hc' hd'
        exact h3 i c d hc' hd'
      · have hn : i = n := by
          have := (List.getElem?_eq_some_iff.1 hd').1
          simp [h1] at this
          omega
        subst hn
        simp [List.getElem?_append, h1] at hd'
        simp [List.getElem?_append, h2] at hc'
        subst hd'; subst hc'
        exact ⟨k1, k2⟩
  obtain ⟨xs, hxl, us, hul, hx⟩ := hall
  have hrow : ∀ i, i < len → ∃ cs ds, us[i]? = some cs ∧ xs[i]? = some ds ∧ w.cells? 0 (a.add (i * ts.length)) ts.length = some cs ∧ @RdL (atW w) ts cs ds := fun i hi => by
    have e1 : us[i]? = some us[i] := List.getElem?_eq_getElem (by omega)
    have e2 : xs[i]? = some xs[i] := List.getElem?_eq_getElem (by omega)
    exact ⟨_, _, e1, e2, hx i _ _ e1 e2⟩
  have hat : ∀ i k, i < len → k < ts.length → a.spot = none ∧ a.block < w.heap.size ∧ w.cell? ⟨a.block, a.off + i * ts.length + k, none⟩ = some ((us.getD i []).getD k undef) := fun i k hi hk => by
    have first : a.spot = none ∧ a.block < w.heap.size := by
      obtain ⟨cs, ds, e1, e2, k1, k2⟩ := hrow 0 (by omega)
      obtain ⟨k3, k4⟩ := cells?_at k1
      have := k4 0 cs[0] (List.getElem?_eq_getElem (by omega))
      simp only [Nat.zero_mul, Addr.add, if_true] at this
      exact cell_plain this
    obtain ⟨cs, ds, e1, e2, k1, k2⟩ := hrow i hi
    obtain ⟨k3, k4⟩ := cells?_at k1
    have h5 := k4 k cs[k] (List.getElem?_eq_getElem (by omega))
    refine ⟨first.1, first.2, ?_⟩
    have ea : (a.add (i * ts.length)).add k = ⟨a.block, a.off + i * ts.length + k, none⟩ := by
      obtain ⟨b, o, s⟩ := a
      have : s = none := first.1
      subst this
      by_cases h0 : i * ts.length = 0 <;> by_cases h1 : k = 0 <;> simp [Addr.add, h0, h1]
    rw [ea] at h5
    rw [h5]
    simp [List.getD_eq_getElem?_getD, e1, List.getElem?_eq_getElem (show k < cs.length by omega)]
  have hcell : ∀ i k t, i < len → ts[k]? = some t → @RdV (atW w) t ((us.getD i []).getD k undef) (cel xs i k) ∧ canon t (cel xs i k) ∧ WfC t (cel xs i k) := fun i k t hi ht => by
    obtain ⟨cs, ds, e1, e2, k1, k2⟩ := hrow i hi
    obtain ⟨l1, l2⟩ := RdL.len (W := atW w) k2
    have hk : k < ts.length := (List.getElem?_eq_some_iff.1 ht).1
    have := RdL.at (W := atW w) k2 k t cs[k] ds[k] ht (List.getElem?_eq_getElem (by omega)) (List.getElem?_eq_getElem (by omega))
    simpa [cel, List.getD_eq_getElem?_getD, e1, e2, List.getElem?_eq_getElem (show k < cs.length by omega), List.getElem?_eq_getElem (show k < ds.length by omega)] using this
  refine ⟨[.l xs], @RdL.cons (atW w) _ _ _ _ _ _ ?_ ⟨_, rfl⟩ (.sl ts xs (by omega) (fun row hr => ?_) fun i k t hi ht => (hcell i k t (by omega) ht).2.2) (@RdL.nil (atW w))⟩
  · have := @RdV.sl (atW w) ts (some a) cap (.l xs) (fun i k => (us.getD i []).getD k undef) (by show xs.length ≤ cap; omega) (by show xs.length ≤ maxLen; omega) (fun hne => ?_) (fun i k t hi ht => (hcell i k t (by rw [← hxl]; exact hi) ht).1)
    · rw [show (Cl.l xs).lst.length = len from hxl] at this
      exact this
    · have h0 : 0 < len := by rw [← hxl]; exact List.length_pos_iff.2 hne
      obtain ⟨f1, f2, _⟩ := hat 0 0 h0 hpos
      refine ⟨a.block, a.off, by obtain ⟨b, o, s⟩ := a; have : s = none := f1; subst this; rfl, f2, fun i k hi hk => (hat i k (by rw [← hxl]; exact hi) hk).2.2⟩
  · obtain ⟨i, hi, rfl⟩ := List.getElem_of_mem hr
    obtain ⟨cs, ds, e1, e2, k1, k2⟩ := hrow i (by omega)
    rw [List.getElem?_eq_getElem hi] at e2
    cases e2
    exact (RdL.len (W := atW w) k2).2
theorem one_reads {w : World} {t : Ty} {u : Value} {c : Cl} (h : @RdV (atW w) t u c) (hz : canon t c) (hw : WfC t c) : ∃ ds, @RdL (atW w) [t] [u] ds := ⟨[c], @RdL.cons (atW w) _ _ _ _ _ _ h hz hw (@RdL.nil (atW w))⟩
theorem fit_reads (w : World) : ∀ (d fuel : Nat), ReadsAs enc P w (fitTy P d) fuel
  | 0, _ => fun t ts cs x h _ => by cases h
  | d + 1, fuel => fun t ts cs x hf h => by
    have hcs := fitTy_cells hf
    unfold fitTy at hf
    split at hf
    · rename_i ts' h0
      split at hf
      · cases hf
        unfold fit0 at h0
        split at h0
        · rename_i hu
          cases h0
          obtain ⟨b, rfl, _⟩ := DataW.trod_bool hu h
          exact one_reads (@RdV.bool (atW w) (.b b)) ⟨_, rfl⟩ (.bool b)
        · rename_i k hu
          cases h0
          obtain ⟨n, rfl, _, hw⟩ := DataW.trod_int hu h
          exact one_reads (@RdV.int (atW w) k (.i n)) ⟨_, rfl⟩ (.int k n hw)
        · rename_i hu
          cases h0
          obtain ⟨s, rfl, _, hw⟩ := DataW.trod_string hu h
          exact one_reads (@RdV.str (atW w) (.s s)) ⟨_, rfl⟩ (.str s hw)
        · rename_i e hu
          split at h0
          · rename_i t0 ts0 he
            cases h0
            rcases DataW.trod_slice hu h with ⟨rfl, _⟩ | ⟨a, len, cap, elems, rest, n, rfl, rfl, _, _, h1, h2, h3, h4, _⟩
            · exact one_reads (@RdV.nil (atW w) (t0 :: ts0) (.l []) rfl) ⟨_, rfl⟩ (.sl _ _ (Nat.zero_le _) (by simp) (by simp))
            · exact sl_reads (fit_reads w d n) (by simp) he (fitTy_cells he) h1 h2 h3 h4
          · cases h0
        · rename_i fs hu
          obtain ⟨xs, n, rfl, _, hl, hxl, h1⟩ := DataW.trod_struct hu h
          obtain ⟨ds, k⟩ := fs_reads (fit_reads w d n) (fun t ts => fitTy_cells) cs fs.toList 0 _ h0 fun f hf => by
            obtain ⟨i, hi, rfl⟩ := List.getElem_of_mem hf
            have := h1 i fs[i] (by simp [Array.getElem?_eq_getElem (show i < fs.size by simpa using hi)])
            exact ⟨xs[i]'(by rw [hxl]; simpa using hi), by simpa [List.getElem?_eq_getElem (show i < xs.length by rw [hxl]; simpa using hi)] using this⟩
          refine ⟨ds, ?_⟩
          rw [List.drop_zero, List.take_of_length_le (by omega)] at k
          exact k
        · rename_i n e hu
          rw [Option.map_eq_some_iff] at h0
          obtain ⟨ts0, he, rfl⟩ := h0
          obtain ⟨xs, m, rfl, _, hl, hxl, h1⟩ := DataW.trod_array hu h
          obtain ⟨ds, k⟩ := arr_reads (fit_reads w d m) he (fitTy_cells he) cs n 0 fun i _ hi => by
            have := h1 i (by omega)
            exact ⟨xs[i]'(by omega), by rw [this, List.getElem?_eq_getElem]⟩
          refine ⟨ds, ?_⟩
          have hlen : ∀ n, (fitN n ts0).length = n * ts0.length := fun n => by
            induction n with
            | zero => simp [fitN]
            | succ n ih => simp [fitN, ih, Nat.add_mul, Nat.add_comm]
          rw [Nat.zero_mul, List.drop_zero, List.take_of_length_le (by rw [← hlen]; omega)] at k
          exact k
        · cases h0
      · cases hf
    · cases hf
def atOf (P : Program) (t : TypeId) : Option AT :=
  match P.underlying t with
  | some (.struct _) => (fitTy P 9 t).map .agg
  | some (.array _ _) => (fitTy P 9 t).map .agg
  | _ => (match fitTy P 9 t with | some [ty] => some (.one ty) | _ => none)
def atsOf (P : Program) : List TypeId → Option (List AT)
  | [] => some []
  | t :: ts => match atOf P t with
    | none => none
    | some a => (atsOf P ts).map (a :: ·)
theorem arg_reads {w : World} {base : Nat} {t : TypeId} {v : Value} {d : DataW H} {ps : List MemPlace} {a : AT} (ha : atOf P t = some a) (hv : Value.okWide P w .any base t v) (h : DataW.Trod enc P w 0 (fun _ => true) true t v d ps) :
    ∃ dd, @ArgRd (atW w) a v dd ∧ WfA a dd := by
  obtain ⟨fuel, h⟩ := h
  have wide : ∀ (tys : List Ty), fitTy P 9 t = some tys → (∃ cs, v = .agg cs) → ∃ dd, @ArgRd (atW w) (.agg tys) v dd ∧ WfA (.agg tys) dd := fun tys hf ⟨cs, e⟩ => by
    subst e
    obtain ⟨ds, k⟩ := fit_reads w 9 fuel t tys _ _ hf h
    obtain ⟨l1, l2⟩ := RdL.len (W := atW w) k
    refine ⟨ds, ⟨cs.toList, by simp, by simpa [Value.cells] using l1, l2, fun i t u c h1 h2 h3 => ?_⟩, RdL.wf (W := atW w) k⟩
    have := RdL.at (W := atW w) k i t u c h1 (by simpa [Value.cells] using h2) h3
    exact ⟨this.1, this.2.1⟩
  unfold atOf at ha
  unfold Value.okWide at hv
  split at ha
  · rename_i fs hu
    rw [hu] at hv
    rw [Option.map_eq_some_iff] at ha
    obtain ⟨tys, hf, rfl⟩ := ha
    obtain ⟨cs, e, _⟩ := hv
    exact wide tys hf ⟨cs, e⟩
  · rename_i n e hu
    rw [hu] at hv
    rw [Option.map_eq_some_iff] at ha
    obtain ⟨tys, hf, rfl⟩ := ha
    obtain ⟨cs, e, _⟩ := hv
    exact wide tys hf ⟨cs, e⟩
  · rename_i hn1 hn2
    split at ha
    · rename_i ty hf
      cases ha
      obtain ⟨ds, k⟩ := fit_reads w 9 fuel t [ty] _ _ hf h
      obtain ⟨l1, l2⟩ := RdL.len (W := atW w) k
      have hone : v.cells = #[v] := by
        cases v <;> first | rfl | skip
        exfalso
        rename_i cs
        have hv2 : Cell.okWide P w .any base t (.agg cs) := by
          split at hv
          · rename_i fs hu; exact (hn1 fs hu).elim
          · rename_i n e hu; exact (hn2 n e hu).elim
          · exact hv
        have hc := fitTy_cells hf
        unfold fitTy at hf
        split at hf
        · rename_i ts' h0
          unfold fit0 at h0
          cases hu : P.underlying t with
          | none => rw [hu] at h0; cases h0
          | some td => cases td <;> simp only [hu] at h0 <;> first | (cases h0; done) | (exact (hn1 _ hu).elim) | (exact (hn2 _ _ hu).elim) | (unfold Cell.okWide at hv2; rw [hu] at hv2; simp [Cell.ok, hu] at hv2; done)
        · cases hf
      rw [hone] at k
      cases k with
      | cons a b c hs =>
        cases hs
        exact ⟨_, ⟨_, rfl, a, b⟩, .cons c .nil⟩
    · cases ha
theorem args_reads {w : World} {base : Nat} : ∀ {ts : List TypeId} {vs : List Value} {ds : List (DataW H)} {ps : List MemPlace} {ats : List AT}, atsOf P ts = some ats → (∀ (j : Nat) t v, ts[j]? = some t → vs[j]? = some v → Value.okWide P w .any base t v) → DataW.TrodAll enc P w 0 (fun _ => true) true ts vs ds ps →
    ∃ dd, @ArgsRd (atW w) ats vs dd ∧ WfD ats dd
  | [], [], [], _, ats, ha, _, _ => by cases ha; exact ⟨[], ⟨rfl, rfl⟩, rfl⟩
  | t :: ts, v :: vs, d :: ds, ps, ats, ha, hv, ⟨p, q, h1, h2, e⟩ => by
    unfold atsOf at ha
    split at ha
    · cases ha
    · rename_i a hat
      rw [Option.map_eq_some_iff] at ha
      obtain ⟨ats', ha', rfl⟩ := ha
      obtain ⟨d1, k1, k2⟩ := arg_reads hat (hv 0 t v rfl rfl) h1
      obtain ⟨d2, k3, k4⟩ := args_reads ha' (fun j t v h1 h2 => hv (j + 1) t v (by simpa using h1) (by simpa using h2)) h2
      exact ⟨d1 :: d2, ⟨v, vs, d1, d2, rfl, rfl, k1, k3⟩, ⟨d1, d2, rfl, k2, k4⟩⟩
theorem trod_same {W W' : World} (hl : laidOutB P = true) (hb : Below W.heap.size W W') : ∀ {ts : List TypeId} {vs : List Value} {ds : List (DataW H)} {ps : List MemPlace}, (ts.all fun t => P.readableRec t && decide (t < P.types.size)) = true → DataW.TrodAll enc P W 0 (fun _ => true) true ts vs ds ps →
    DataW.TrodAll enc P W' 0 (fun b => decide (b < W.heap.size)) true ts vs ds ps
  | [], [], [], _, _, h => h
  | t :: ts, v :: vs, d :: ds, ps, hr, h => by
    have hlt := DataW.TrodAll.lt h
    obtain ⟨p, q, h1, h2, e⟩ := h
    simp only [List.all_cons, Bool.and_eq_true, decide_eq_true_eq] at hr
    subst e
    exact ⟨p, q, Below.trod hl hr.1.1 hr.1.2 h1 hb fun x hx => hlt x (List.mem_append_left _ hx), trod_same hl hb hr.2 h2, rfl⟩
theorem law_end {g : FuncId} {f : Func} {s : ChangeSpec} {W : World} {base : Nat} {args : Array Value} {ds gs : List (DataW H)} {before : List MemPlace} {tb : TypeId} {ats : List AT} (hrt : f.resultTypes = #[tb]) (hub : P.underlying tb = some .bool) (hats : atsOf P f.params.toList = some ats) (hs : s.vars = [])
    (hl : laidOutB P = true) (hr : (f.params.toList.all fun t => P.readableRec t && decide (t < P.types.size)) = true)
    (hfn : ∀ ds : List (DataW H), ds.length = f.params.toList.length → (s.fn H ds).results = [.lit (.bool true)] ∧ (s.fn H ds).args = ds ∧ (s.fn H ds).vars = [])
    (h : PureOk P g ats [(false, [.bool])] (WfD ats) fun _ => [[.b true]])
    (hval : ∀ (j : Nat) t v, f.params[j]? = some t → args[j]? = some v → Value.okWide P W .any base t v) (hW : DataW.Whole enc P f.params.toList s.vars false W args.toList ds gs before) :
    Calls P g args W fun e W' => ∃ v, e = .returned v ∧ s.post enc P f false true false false W args v W' := by
  have hW0 := hW
  obtain ⟨p, q, hA, hV, rfl, hfz, _⟩ := hW
  rw [hs] at hV
  have hgq : gs = [] ∧ q = [] := by
    cases gs with
    | nil => exact ⟨rfl, hV⟩
    | cons _ _ => exact hV.elim
  obtain ⟨rfl, rfl⟩ := hgq
  obtain ⟨_, hlen⟩ := trodAll_length hA
  obtain ⟨dd, k1, k2⟩ := args_reads hats (fun j t v h1 h2 => hval j t v (by simpa using h1) (by simpa using h2)) hA
  obtain ⟨xs, x1, x2⟩ := @argsOk_of (atW W) _ _ _ k1
  have hc := h (atW W) xs dd x1 k2 0 (by decide)
  have hSt : @St (atW W) W [] [] W := @St.start (atW W) W (@InOk.mk (atW W) W [] (Nat.le_refl _) (by simp) (Below.refl _ _))
  letI : InW := atW W
  have hnew : NewFor (keys (resHp 0 0 [(false, [.bool])] [[.b true]])) xs [] := fun i hi => by
    have e : keys (resHp 0 0 [(false, [.bool])] [[.b true]]) = [] := rfl
    rw [e] at hi; cases hi
  have hcall := hc (fun _ => ⟨0, false, 0, none, 0, undef⟩) W [] [] W hnew hSt
  rw [x2] at hcall
  have e0 : args.toList.toArray = args := by simp
  rw [e0] at hcall
  refine hcall.mono fun e W' ⟨φ', _, he, hS⟩ => ?_
  have hb : Below W.heap.size W W' := @St.belowIn (atW W) _ _ _ _ hS
  obtain ⟨hf1, hf2, hf3⟩ := hfn (ds ++ []) (by simpa using hlen)
  refine ⟨_, he, ds, [], p ++ [], [], p, [], hW0, ?_, ?_, ?_, ?_, fun h => by cases h⟩
  · rw [hf1, hrt]
    exact ⟨[], [], ⟨1, by show DataW.trod enc P W' _ _ _ 1 tb [.bool true] = _; simp [DataW.trod, hub]⟩, rfl, rfl⟩
  · rw [hf2, List.append_nil]
    exact trod_same hl hb hr hA
  · rw [hs, hf3]; rfl
  · refine World.keptBut_mono (fun x hx => ⟨hx, .inr (.inl (by simpa using hx))⟩) (hb.frame _)
end
theorem pure_of_closed {P : Program} {cc : CC} {pre : DS → Prop} (h : ∀ W : InW, @CallC W P cc) (ha : cc.args = []) (hH : cc.H = []) (ho : cc.outs = [⟨false, .lit (.bool true), [], false⟩]) (hs : ∀ (W : InW) (e : List (@Ed W)) (K : Nat → List (@Ed W) → Prop), @CC.spec cc W e K = K 0 []) : PureOk P cc.g [] [(false, [.bool])] pre fun _ => [[.b true]] := by
  intro W args ds hargs _ d _
  obtain ⟨rfl, rfl⟩ := hargs
  obtain ⟨j, e, o, v, r, ys', k1, k2, k3, k4, k5⟩ := h W [] [] [] [] (by rw [ha]; exact ⟨rfl, rfl⟩) (by rw [hH]; exact ⟨rfl, rfl⟩) (fun j e => j = 0 ∧ e = []) (by rw [hs]; exact ⟨rfl, rfl⟩)
  obtain ⟨rfl, rfl⟩ := k1
  rw [ho] at k2
  cases k2
  cases k3
  cases k4
  intro φ w0 M R w _ hS
  refine (k5 φ w0 M R w (by simp [keys]) hS).mono fun e w' ⟨φ2, f1, f2, _, f4⟩ => ⟨φ, Agree.refl _ _, f2, f4⟩
end Go.Proofs.Ytdokbocmgdhmmaa
namespace Go.Proofs.Ytdokbocmgdhmmaa.Bk
structure Car where
  name : ByteArray
  km : Int
  every : Int
  never : Int
structure Term where
  before : Int
  fee : Int
structure School where
  learners : List ByteArray
  cars : List Car
  price : Int
  excess : Int
  lo : Int
  hi : Int
  terms : List Term
def oob (lo hi n : Int) : Bool := decide (n < lo) || decide (hi < n)
def alpha (b : UInt8) : Bool := 97 ≤ b && b ≤ 122
def digit (b : UInt8) : Bool := 48 ≤ b && b ≤ 57
def nameFrom : List UInt8 → Nat → Bool
  | [], _ => true
  | b :: l, i => (alpha b || (i != 0 && digit b)) && nameFrom l (i + 1)
def nameOk (s : ByteArray) : Bool := nameFrom s.data.toList 0 && !oob 1 16 s.size
def idxFrom {α : Type} (p : α → Bool) : List α → Nat → Int
  | [], _ => -1
  | x :: xs, i => if p x then (i : Int) else idxFrom p xs (i + 1)
theorem idxFrom_drop {α : Type} (p : α → Bool) (xs : List α) (k : Nat) (h : k < xs.length) :
    idxFrom p (xs.drop k) k = if p xs[k] then (k : Int) else idxFrom p (xs.drop (k + 1)) (k + 1) := by
  rw [List.drop_eq_getElem_cons h]; rfl
theorem idxFrom_ge {α : Type} (p : α → Bool) (xs : List α) (k : Nat) : 0 ≤ idxFrom p xs k ↔ xs.any p = true := by
  induction xs generalizing k with
  | nil => simp [idxFrom]
  | cons x xs ih =>
    simp only [idxFrom, List.any_cons, Bool.or_eq_true]
    by_cases h : p x = true
    · simp [h]
    · simp only [Bool.not_eq_true] at h
      simp [h, ih]
def namedErr (names : List ByteArray) (i : Nat) : Int :=
  if !nameOk (names.getD i ByteArray.empty) then 6
  else if (names.take i).any (fun x => x.data.toList == (names.getD i ByteArray.empty).data.toList) then 5 else 0
def carErr (s : School) (i : Nat) (c : Car) : Int :=
  let e := namedErr (s.cars.map Car.name) i
  if e ≠ 0 then e
  else if oob 0 1000000 c.km || oob 1 1000000 c.every || oob 0 255 c.never then 7 else 0
def termErr (s : School) (i : Nat) (t : Term) : Int :=
  if oob 0 240 t.before || oob 0 1000 t.fee then 7
  else if decide (0 < i) && (decide ((s.terms.getD (i - 1) ⟨0, 0⟩).before ≤ t.before) || decide (t.fee < (s.terms.getD (i - 1) ⟨0, 0⟩).fee)) then 2 else 0
def firstErr {α : Type} (f : Nat → α → Int) : List α → Nat → Option (Int × Int)
  | [], _ => none
  | x :: xs, i => if f i x = 0 then firstErr f xs (i + 1) else some ((i : Int), f i x)
def pre (s : School) : Int :=
  if oob 1 8 (s.learners.length : Int) || oob 1 5 (s.cars.length : Int) || decide (4 < (s.terms.length : Int)) then 3
  else if oob 1 10000 s.price || oob 0 10000000 s.excess || oob 0 24 s.lo || oob 0 24 s.hi then 7
  else if decide (s.hi ≤ s.lo) then 2 else 0
def checkTerms (s : School) : Int × Int × Int :=
  match firstErr (termErr s) s.terms 0 with
  | some (i, e) => (4, i, e)
  | none => (0, 0, 0)
def checkCars (s : School) : Int × Int × Int :=
  match firstErr (carErr s) s.cars 0 with
  | some (i, e) => (3, i, e)
  | none => checkTerms s
def checkNames (s : School) : Int × Int × Int :=
  match firstErr (fun i _ => namedErr s.learners i) s.learners 0 with
  | some (i, e) => (2, i, e)
  | none => checkCars s
def check (s : School) : Int × Int × Int := if pre s ≠ 0 then (1, 0, pre s) else checkNames s
def part (s : School) (before : Int) : Int :=
  match s.terms.find? (fun t => decide (t.before ≤ before)) with
  | some t => t.fee
  | none => 1000
end Go.Proofs.Ytdokbocmgdhmmaa.Bk
namespace Go.Proofs.Ytdokbocmgdhmmaa
abbrev Iv11 : List Ty := [.int .i64, .int .i64, .int .i64, .int .i64, .int .i64, .int .i64, .int .i64, .int .i64, .int .i64, .int .i64, .int .i64]
abbrev Iv5 : List Ty := [.int .i64, .int .i64, .int .i64, .int .i64, .int .i64]
abbrev Iv4 : List Ty := [.int .i64, .int .i64, .int .i64, .int .i64]
abbrev Ivs : List Ty := [.str, .int .i64, .int .i64, .int .i64]
open Go.RowKit Bk
set_option linter.unusedVariables false
theorem cout1_any (n lo hi : Int) (b c : Nat) (w : World) (hb : w.cell? ⟨b, 0, none⟩ = some (.int .i64 lo)) (hc : w.cell? ⟨c, 0, none⟩ = some (.int .i64 hi)) :
    Calls Try.prog 107 #[.int .i64 n, .pointer (some ⟨b, 0, none⟩), .pointer (some ⟨c, 0, none⟩)] w fun e w' => e = .returned (.bool (oob lo hi n)) ∧ w = w' := by
  go_enter Try.func107, Try.ntmps107
  go_wp2
  all_goals go_ret
  all_goals exact ⟨by simp [oob, *], rfl⟩
theorem indexFunc_int (g : Nat) (lb : Array Value) (p : Int → Bool) (xs : List Int) (B : Nat) (v : Value) (w : World)
    (eg : ∀ args w, (callFunc g args).run Try.prog w = .ok (.enter g args) w)
    (hv : Ones w B v (xs.map (Value.int .i64)))
    (hp : ∀ x, Calls Try.prog g (#[.int .i64 x] ++ lb) w fun e w' => e = .returned (.bool (p x)) ∧ w = w') :
    Calls Try.prog 106 #[v, .func (.func g) #[] lb] w fun e w' => e = .returned (.int .i64 (idxFrom p xs 0)) ∧ w = w' := by
  obtain ⟨A, c, rfl, hcap, hbig⟩ := hv.form
  simp only [List.length_map] at hbig hcap hv ⊢
  go_enter Try.func106, Try.ntmps106
  go_wp2
  go_loopg [5, 8] xs.length (fun gg _ s8 wr => ∃ kk : Nat, kk ≤ xs.length ∧ xs.length - kk ≤ gg ∧ s8 = .int .i64 kk ∧ w = wr ∧ Hid (idxFrom p (xs.drop kk) kk = idxFrom p xs 0))
  case atStart => exact ⟨0, Nat.zero_le _, by omega, rfl, rfl, rfl⟩
  case round =>
    obtain ⟨kk, hkk, hg, rfl, rfl, A⟩ := hrel
    by_cases hlt : kk < xs.length
    · have hltz : (kk : Int) < (xs.length : Int) := by omega
      obtain ⟨b, off, c', e, hcap', hb, hcell⟩ := hv.at_ (k := kk) (by simpa using hlt)
      rw [List.length_map] at e; cases e
      simp only [List.getElem_map] at hcell
      have hcall := hp xs[kk]
      have B := Lib.hid (idxFrom_drop p xs kk hlt)
      clear hp hv
      generalize xs[kk] = y at hcell hcall B
      cases hq : p y with
      | true =>
        rw [hq] at hcall
        have Hq := Lib.hid hq
        clear hq
        go_wp2_with (go_at_fn g; refine hcall.mono ?_; rintro e w' ⟨rfl, rfl⟩)
        go_ret
        refine ⟨?_, rfl⟩
        rw [← A.out, B.out, Hq.out]; rfl
      | false =>
        rw [hq] at hcall
        have Hq := Lib.hid hq
        clear hq
        go_wp2_with (go_at_fn g; refine hcall.mono ?_; rintro e w' ⟨rfl, rfl⟩)
        go_roundg (xs.length - (kk + 1))
        case measure => omega
        case rel =>
          refine ⟨kk + 1, by omega, by omega, by go_num, rfl, ?_⟩
          rw [← A.out, B.out, Hq.out]; rfl
    · have hltz : ¬ (kk : Int) < (xs.length : Int) := by omega
      have : kk = xs.length := by omega
      subst this
      go_wp2
      go_ret
      refine ⟨?_, rfl⟩
      rw [← A.out]; simp [idxFrom]
theorem containsFunc_int (g : Nat) (lb : Array Value) (p : Int → Bool) (xs : List Int) (B : Nat) (v : Value) (w : World)
    (eg : ∀ args w, (callFunc g args).run Try.prog w = .ok (.enter g args) w)
    (hv : Ones w B v (xs.map (Value.int .i64)))
    (hp : ∀ x, Calls Try.prog g (#[.int .i64 x] ++ lb) w fun e w' => e = .returned (.bool (p x)) ∧ w = w') :
    Calls Try.prog 89 #[v, .func (.func g) #[] lb] w fun e w' => e = .returned (.bool (xs.any p)) ∧ w = w' := by
  have hi := indexFunc_int g lb p xs B v w eg hv hp
  have he := idxFrom_ge p xs 0
  clear hp hv eg
  have He := Lib.hid he
  clear he
  go_enter Try.func89, Try.ntmps89
  go_wp2_with (go_at_call 106; refine hi.mono ?_; rintro e w' ⟨rfl, rfl⟩)
  go_ret
  refine ⟨ret_bool ?_, rfl⟩
  rw [Bool.eq_iff_iff, ← He.out]; simp
end Go.Proofs.Ytdokbocmgdhmmaa
namespace Go.Proofs.Ytdokbocmgdhmmaa
open Go.RowKit Bk
set_option linter.unusedVariables false
theorem Ones.mk1 {w : World} {B b : Nat} {x : Value} (hb : b < B) (h : w.cell? ⟨b, 0, none⟩ = some x) : Ones w B (.slice (some ⟨b, 0, none⟩) 1 1) [x] := by
  refine ⟨_, 1, rfl, by simp, by simp, fun _ => ⟨b, 0, rfl, hb, fun k r hk j u hj => ?_⟩⟩
  match k, hk with
  | 0, hk =>
    simp at hk; subst hk
    match j, hj with
    | 0, hj => simp at hj; subst hj; simpa using h
theorem cout_n1 (lo hi x : Int) (b : Nat) (w : World) (hb : b = w.heap.size) :
    Calls Try.prog 91 #[.int .i64 lo, .int .i64 hi, .slice (some ⟨b, 0, none⟩) 1 1] (w.alloc (.cells #[.int .i64 x] 3)) fun e w' => e = .returned (.bool (oob lo hi x)) ∧ Below w.heap.size w w' := by
  subst hb
  have hv : Ones (w.alloc (.cells #[.int .i64 x] 3)) (w.heap.size + 1) (.slice (some ⟨w.heap.size, 0, none⟩) 1 1) (([x] : List Int).map (Value.int .i64)) := Ones.mk1 (by omega) (by simp [go_sem])
  have hbl : Below (w.heap.size + 1) (w.alloc (.cells #[.int .i64 x] 3)) (((w.alloc (.cells #[.int .i64 x] 3)).alloc (.cells #[.int .i64 lo] 3)).alloc (.cells #[.int .i64 hi] 3)) := ((Below.refl _ _).alloc (by simp) _).alloc (by simp) _
  have hcall := containsFunc_int 107 #[.pointer (some ⟨w.heap.size + 1, 0, none⟩), .pointer (some ⟨w.heap.size + 2, 0, none⟩)] (oob lo hi) [x] _ _ _ (enters_of Try.func107 (by kernel_rfl) rfl) (hv.below hbl)
    (fun x => cout1_any x lo hi (w.heap.size + 1) (w.heap.size + 2) _ (by simp [go_sem]) (by simp [go_sem]))
  clear hv
  simp only [List.any_cons, List.any_nil, Bool.or_false] at hcall
  go_enter Try.func91, Try.ntmps91
  go_wp2_with (go_at_call 89; refine hcall.mono ?_; rintro e w' ⟨rfl, rfl⟩)
  go_ret
  exact ⟨rfl, ((Below.refl _ _).alloc (Nat.le_refl _) _).trans (hbl.mono (by omega))⟩
theorem nameFrom_drop (l : List UInt8) (k : Nat) (h : k < l.length) : nameFrom (l.drop k) k = ((alpha l[k] || (k != 0 && digit l[k])) && nameFrom (l.drop (k + 1)) (k + 1)) := by
  rw [List.drop_eq_getElem_cons h]; rfl
theorem name_ok (b : UInt8) (k : Nat) : (alpha b || (k != 0 && digit b)) = true ↔ ((97 ≤ (b.toNat : Int) ∧ (b.toNat : Int) ≤ 122) ∨ (k ≠ 0 ∧ 48 ≤ (b.toNat : Int) ∧ (b.toNat : Int) ≤ 57)) := by
  simp only [alpha, digit, Bool.or_eq_true, Bool.and_eq_true, decide_eq_true_eq, bne_iff_ne, UInt8.le_iff_toNat_le]
  have : (97 : UInt8).toNat = 97 := rfl
  have : (122 : UInt8).toNat = 122 := rfl
  have : (48 : UInt8).toNat = 48 := rfl
  have : (57 : UInt8).toNat = 57 := rfl
  omega
theorem bl_iter (w : World) (s : ByteArray) (pos : Nat) : Below w.heap.size w (w.iter s pos) := (Below.refl _ _).alloc (Nat.le_refl _) _
theorem rune_cases (s : ByteArray) (pos : Nat) (h : pos < s.size) :
    (∃ b : UInt8, s.data.toList[pos]? = some b ∧ (Utf8.decode s pos).1 = b.toNat ∧ (Utf8.decode s pos).2 = 1 ∧ b.toNat < 128) ∨
    (∃ b : UInt8, s.data.toList[pos]? = some b ∧ 128 ≤ b.toNat ∧ 128 ≤ (Utf8.decode s pos).1) := by
  have hl : pos < s.data.toList.length := by simpa using h
  have hg : s.data.toList[pos]? = some (s[pos]'h) := by rw [List.getElem?_eq_getElem hl]; simp; rfl
  by_cases ha : (s[pos]'h).toNat < 128
  · exact .inl ⟨_, hg, by rw [decode_ascii s pos h ha], by rw [decode_ascii s pos h ha], ha⟩
  · exact .inr ⟨_, hg, by omega, (decode_high s pos h (by omega)).1⟩
theorem nameFrom_at (l : List UInt8) (k : Nat) (b : UInt8) (h : l[k]? = some b) : nameFrom (l.drop k) k = ((alpha b || (k != 0 && digit b)) && nameFrom (l.drop (k + 1)) (k + 1)) := by
  obtain ⟨hk, rfl⟩ := List.getElem?_eq_some_iff.1 h
  exact nameFrom_drop l k hk
def goodRune (c : Int) (k : Nat) : Bool := decide (97 ≤ c ∧ c ≤ 122) || (decide (k ≠ 0) && decide (48 ≤ c ∧ c ≤ 57))
theorem rune_step (s : ByteArray) (pos : Nat) (h : pos < s.size) :
    (goodRune (Utf8.decode s pos).1 pos = true ∧ (Utf8.decode s pos).2 = 1 ∧ nameFrom (s.data.toList.drop pos) pos = nameFrom (s.data.toList.drop (pos + 1)) (pos + 1)) ∨
    (goodRune (Utf8.decode s pos).1 pos = false ∧ nameFrom (s.data.toList.drop pos) pos = false) := by
  have hn := fun b => name_ok b pos
  rcases rune_cases s pos h with ⟨b, hb, e1, e2, hlt⟩ | ⟨b, hb, hlt, hge⟩
  · rw [nameFrom_at _ _ _ hb, e1]
    have hb' := hn b
    by_cases hg : goodRune b.toNat pos = true
    · refine .inl ⟨hg, e2, ?_⟩
      have : (alpha b || (pos != 0 && digit b)) = true := by rw [hb']; simpa [goodRune] using hg
      rw [this]; rfl
    · refine .inr ⟨by simpa using hg, ?_⟩
      have : (alpha b || (pos != 0 && digit b)) = false := by rw [Bool.eq_false_iff, Ne, hb']; simpa [goodRune] using hg
      rw [this]; rfl
  · refine .inr ⟨?_, ?_⟩
    · simp only [goodRune, Bool.or_eq_false_iff, Bool.and_eq_false_iff, decide_eq_false_iff_not]; omega
    · rw [nameFrom_at _ _ _ hb]
      have : (alpha b || (pos != 0 && digit b)) = false := by
        rw [Bool.eq_false_iff, Ne, hn b]; omega
      rw [this]; rfl
theorem cname_any (s : ByteArray) (w : World) :
    Calls Try.prog 52 #[.string s] w fun e w' => e = .returned (.bool (nameOk s)) ∧ Below w.heap.size w w' := by
  go_enter Try.func52, Try.ntmps52
  go_wp2
  go_loopw [3, 4] (fun _ _ w' => ∃ pos : Nat, w' = w.iter s pos ∧ Hid (nameFrom (s.data.toList.drop pos) pos = nameFrom s.data.toList 0)) (fun _ _ w' => s.size - w'.iterPos w.heap.size)
  case atStart => exact ⟨0, rfl, rfl⟩
  case round =>
    obtain ⟨pos, rfl, A⟩ := hrel
    by_cases hp : pos < s.size
    · have hnx : ∀ ty, (Instr.next (.pointer (some ⟨w.heap.size, 0, none⟩)) true ty).run Try.prog (w.iter s pos) = _ := fun ty => run_next_any w s pos ty hp
      rcases rune_step s pos hp with ⟨hg, h1, hn⟩ | ⟨hg, hn⟩
      · rw [h1] at hnx
        generalize (Utf8.decode s pos).1 = c at hg hnx
        have N := Lib.hid hn
        clear hn h1
        have hg' : (97 ≤ (c : Int) ∧ (c : Int) ≤ 122) ∨ (pos ≠ 0 ∧ 48 ≤ (c : Int) ∧ (c : Int) ≤ 57) := by simpa [goodRune] using hg
        clear hg
        by_cases h1 : 97 ≤ (c : Int) ∧ (c : Int) ≤ 122
        · obtain ⟨ha, hb⟩ := h1
          clear hg'
          go_wp2
          go_roundw
          case rel => exact ⟨pos + 1, rfl, (N.out.symm.trans A.out)⟩
          case measure => simp; omega
        · have hg2 : pos ≠ 0 ∧ 48 ≤ (c : Int) ∧ (c : Int) ≤ 57 := by omega
          obtain ⟨hp0, ha, hb⟩ := hg2
          have hp1 : ((pos : Int) == 0) = false := by rw [beq_eq_false_iff_ne]; omega
          have hp2 : 0 < (pos : Int) := by omega
          clear hg' h1 hp0
          go_wp2
          all_goals go_roundw
          case rel => exact ⟨pos + 1, rfl, (N.out.symm.trans A.out)⟩
          case measure => simp; omega
      · generalize (Utf8.decode s pos).1 = c at hg hnx
        have N := Lib.hid hn
        clear hn
        have hg' : ¬ ((97 ≤ (c : Int) ∧ (c : Int) ≤ 122) ∨ (pos ≠ 0 ∧ 48 ≤ (c : Int) ∧ (c : Int) ≤ 57)) := by simpa [goodRune] using hg
        clear hg
        have hfin : nameOk s = false := by unfold nameOk; rw [← A.out, N.out]; rfl
        have F := Lib.hid hfin
        clear hfin A N
        rcases (by omega : (c : Int) < 97 ∨ 122 < (c : Int)) with h1 | h1
        all_goals
          by_cases hp0 : pos = 0
          · subst hp0
            clear hg'
            go_wp2
            go_ret
            exact ⟨ret_bool F.out.symm, bl_iter _ _ _⟩
          · have hp1 : ((pos : Int) == 0) = false := by rw [beq_eq_false_iff_ne]; omega
            have hp2 : 0 < (pos : Int) := by omega
            rcases (by omega : (c : Int) < 48 ∨ 57 < (c : Int)) with h2 | h2
            all_goals
              clear hg' hp0
              go_wp2
              all_goals go_ret
              all_goals exact ⟨ret_bool F.out.symm, bl_iter _ _ _⟩
    · have hnx : ∀ ty, (Instr.next (.pointer (some ⟨w.heap.size, 0, none⟩)) true ty).run Try.prog (w.iter s pos) = _ := fun ty => run_next_end w s pos ty hp
      have hfin : nameFrom s.data.toList 0 = true := by
        rw [← A.out, List.drop_eq_nil_of_le (by simp; omega)]; rfl
      have F := Lib.hid hfin
      clear hfin A
      go_wp2_with (go_at_call 91; refine (cout_n1 _ _ _ _ _ rfl).mono ?_; rintro e w' ⟨rfl, hb⟩)
      go_ret
      refine ⟨ret_bool ?_, ((bl_iter _ _ _).trans (hb.mono (by simp [World.iter])))⟩
      unfold nameOk
      rw [F.out]; simp
end Go.Proofs.Ytdokbocmgdhmmaa
namespace Go.Proofs.Ytdokbocmgdhmmaa
open Go.RowKit Bk
set_option linter.unusedVariables false
theorem alpha_iff (b : UInt8) : alpha b = true ↔ (97 ≤ (b.toNat : Int) ∧ (b.toNat : Int) ≤ 122) := by
  have := name_ok b 0
  simp at this
  exact this
theorem digit_iff (b : UInt8) : digit b = true ↔ (48 ≤ (b.toNat : Int) ∧ (b.toNat : Int) ≤ 57) := by
  simp only [digit, Bool.and_eq_true, decide_eq_true_eq, UInt8.le_iff_toNat_le]
  have : (48 : UInt8).toNat = 48 := rfl
  have : (57 : UInt8).toNat = 57 := rfl
  omega
theorem oob_alpha (b : UInt8) : oob 97 122 b.toNat = !alpha b := by
  rw [Bool.eq_iff_iff]; simp only [oob, Bool.or_eq_true, decide_eq_true_eq, Bool.not_eq_true', Bool.eq_false_iff, Ne, alpha_iff]; omega
theorem oob_digit (b : UInt8) : oob 48 57 b.toNat = !digit b := by
  rw [Bool.eq_iff_iff]; simp only [oob, Bool.or_eq_true, decide_eq_true_eq, Bool.not_eq_true', Bool.eq_false_iff, Ne, digit_iff]; omega
theorem in1_any (n lo hi : Int) (w : World) : Calls Try.prog 108 #[.int .i64 n, .int .i64 lo, .int .i64 hi] w fun e w' => e = .returned (.bool (!oob lo hi n)) ∧ w = w' := by
  go_enter Try.func108, Try.ntmps108
  go_wp2
  all_goals go_ret
  all_goals exact ⟨ret_bool (by simp only [oob]; rw [Bool.eq_iff_iff]; simp; omega), rfl⟩
theorem in1_alpha (b : UInt8) (w : World) : Calls Try.prog 108 #[.int .i64 (b.toNat : Int), .int .i64 97, .int .i64 122] w fun e w' => e = .returned (.bool (alpha b)) ∧ w = w' := by
  have h := in1_any b.toNat 97 122 w
  rw [oob_alpha, Bool.not_not] at h; exact h
theorem in1_digit (b : UInt8) (w : World) : Calls Try.prog 108 #[.int .i64 (b.toNat : Int), .int .i64 48, .int .i64 57] w fun e w' => e = .returned (.bool (digit b)) ∧ w = w' := by
  have h := in1_any b.toNat 48 57 w
  rw [oob_digit, Bool.not_not] at h; exact h
set_option maxHeartbeats 1000000 in
theorem rname_any (s : ByteArray) (w : World) (hs : s.size ≤ 9223372036854775807) :
    Calls Try.prog 94 #[.string s] w fun e w' => e = .returned (.bool (nameOk s)) ∧ w = w' := by
  have h16 := in1_any s.size 1 16 w
  by_cases hl : oob 1 16 s.size = true
  · have hfin : nameOk s = false := by simp only [nameOk, hl]; simp
    rw [hl] at h16
    have F := Lib.hid hfin
    clear hfin hl
    go_enter Try.func94, Try.ntmps94
    go_wp2_with (go_at_call 108; refine h16.mono ?_; rintro e w' ⟨rfl, rfl⟩)
    go_ret
    exact ⟨ret_bool F.out.symm, rfl⟩
  · simp only [Bool.not_eq_true] at hl
    rw [hl] at h16
    have hb : 1 ≤ s.size ∧ s.size ≤ 16 := by simp only [oob, Bool.or_eq_false_iff, decide_eq_false_iff_not] at hl; omega
    obtain ⟨hb1, hb2⟩ := hb
    have hpos : 0 < s.size := by omega
    have hN : nameOk s = nameFrom s.data.toList 0 := by simp [nameOk, hl]
    have HN := Lib.hid hN
    clear hN hl
    have h0 : nameFrom s.data.toList 0 = (alpha s[0] && nameFrom (s.data.toList.drop 1) 1) := by
      have := nameFrom_drop s.data.toList 0 (by simpa using hpos)
      simp only [List.drop_zero] at this
      rw [this]
      have e : s.data.toList[0]'(by simpa using hpos) = s[0] := by simp; rfl
      rw [e]; simp
    have hget : ∀ k (h : k < s.size), s.data.toList[k]'(by simpa using h) = s[k] := fun k h => by simp; rfl
    have hc0 := in1_alpha s[0] w
    have hby : (s[0].toNat : Int) ≤ 255 := by have := s[0].toNat_lt; omega
    cases ha : alpha s[0] with
    | false =>
      rw [ha] at h0 hc0
      have F := Lib.hid (HN.out.trans h0)
      clear h0 hget
      have Ha := Lib.hid ha
      clear ha
      go_enter Try.func94, Try.ntmps94
      go_wp2_with (first | (go_at_call 108; ((with_reducible refine h16.mono ?_); rintro e w' ⟨rfl, rfl⟩)) | (go_at_call 108; ((with_reducible refine hc0.mono ?_); rintro e w' ⟨rfl, rfl⟩)))
      go_ret
      exact ⟨ret_bool F.out.symm, rfl⟩
    | true =>
      rw [ha] at h0 hc0
      have H0 := Lib.hid ha
      have HG := Lib.hid hget
      clear h0 hget ha
      go_enter Try.func94, Try.ntmps94
      go_wp2_with (first | (go_at_call 108; ((with_reducible refine h16.mono ?_); rintro e w' ⟨rfl, rfl⟩)) | (go_at_call 108; ((with_reducible refine hc0.mono ?_); rintro e w' ⟨rfl, rfl⟩)))
      clear hc0 h16 hby
      go_loop [3] (fun i => ∃ k : Nat, k ≤ s.size ∧ i = .int .i64 k ∧ Hid (nameFrom (s.data.toList.drop k) k = nameFrom s.data.toList 0)) (fun i => s.size - (intOf i).toNat)
      case atStart => exact ⟨0, Nat.zero_le _, rfl, rfl⟩
      case round =>
        obtain ⟨k, hk, rfl, A⟩ := hrel
        by_cases hlt : k < s.size
        · have hltz : (k : Int) < (s.size : Int) := by omega
          have hd := nameFrom_drop s.data.toList k (by simpa using hlt)
          rw [HG.out k hlt] at hd
          have h1 := in1_alpha s[k] w
          have h2 := in1_digit s[k] w
          have hby : (s[k].toNat : Int) ≤ 255 := by have := s[k].toNat_lt; omega
          have H00 : Hid (k = 0 → alpha s[k] = true) := fun e => by subst e; exact H0.out
          cases ha : alpha s[k] with
          | true =>
            rw [ha] at hd h1
            simp only [Bool.true_or, Bool.true_and] at hd
            have D := Lib.hid hd
            clear hd ha h2 H00
            go_wp2_with (go_at_call 108; ((with_reducible refine h1.mono ?_); rintro e w' ⟨rfl, rfl⟩))
            go_round
            case rel => exact ⟨k + 1, by omega, by go_num, D.out.symm.trans A.out⟩
            case measure => simp [intOf]; omega
          | false =>
            rw [ha] at hd h1
            have hk0 : k ≠ 0 := fun e => by have := H00.out e; rw [ha] at this; cases this
            clear H00
            cases hg : digit s[k] with
            | true =>
              rw [hg] at hd h2
              simp only [Bool.false_or, Bool.and_true, bne_iff_ne.2 hk0, Bool.true_and] at hd
              have D := Lib.hid hd
              clear hd ha hg hk0
              go_wp2_with (first | (go_at_call 108; ((with_reducible refine h1.mono ?_); rintro e w' ⟨rfl, rfl⟩)) | (go_at_call 108; ((with_reducible refine h2.mono ?_); rintro e w' ⟨rfl, rfl⟩)))
              go_round
              case rel => exact ⟨k + 1, by omega, by go_num, D.out.symm.trans A.out⟩
              case measure => simp [intOf]; omega
            | false =>
              rw [hg] at hd h2
              simp only [Bool.false_or, Bool.and_false, Bool.false_and] at hd
              have D := Lib.hid hd
              clear hd ha hg hk0
              go_wp2_with (first | (go_at_call 108; ((with_reducible refine h1.mono ?_); rintro e w' ⟨rfl, rfl⟩)) | (go_at_call 108; ((with_reducible refine h2.mono ?_); rintro e w' ⟨rfl, rfl⟩)))
              go_ret
              exact ⟨ret_bool (by rw [HN.out, ← A.out, D.out]), rfl⟩
        · go_wp2
          go_ret
          refine ⟨ret_bool ?_, rfl⟩
          rw [HN.out, ← A.out, List.drop_eq_nil_of_le (by simp; omega)]; rfl
end Go.Proofs.Ytdokbocmgdhmmaa
namespace Go.Proofs.Ytdokbocmgdhmmaa
open Go.RowKit
set_option linter.unusedVariables false
theorem vif [InW] {b : Bool} {A B : Prop} (h : b = true → A) (h2 : b = false → B) : Vif b A B := ⟨h, h2⟩
theorem vifd [InW] {p : Prop} {_ : Decidable p} {A B : Prop} (h : p → A) (h2 : ¬ p → B) : Vif (decide p) A B := ⟨fun e => h (of_decide_eq_true e), fun e => h2 (of_decide_eq_false e)⟩
theorem ned [InW] {b : Bool} {A : Prop} (h : b = true) (h2 : A) : Need b A := ⟨h, h2⟩
theorem nedd [InW] {p : Prop} {_ : Decidable p} {A : Prop} (h : p) (h2 : A) : Need (decide p) A := ⟨decide_eq_true h, h2⟩
theorem ar64 [InW] {n : Int} {K : Int → Prop} (h : -9223372036854775808 ≤ n ∧ n ≤ 9223372036854775807) (k : K n) : Ar .i64 n K := ⟨by rw [IntWalk.i64_in n h]; exact k⟩
end Go.Proofs.Ytdokbocmgdhmmaa
namespace Go.Proofs.Ytdokbocmgdhmmaa
set_option maxRecDepth 100000
def TT [InW] : Tr TI :=
  (.node (.node (.node (.node (.node (.node (.node (.node .nil ⟨(some false), (some 1), (some [.v (.nilFunc)]), [], none, none⟩
 .nil) ⟨(some false), (some 1), (some [.v (.nilFunc)]), [], none, none⟩
 (.node .nil ⟨none, none, none, [], none, none⟩
 .nil)) ⟨(some true), (some 2), (some [.v (.int .i64 0), .v (.int .i64 0)]), [(some (0, 1)), (some (1, 1))], none, none⟩
 (.node (.node .nil ⟨(some false), (some 1), (some [.v (.nilFunc)]), [], none, none⟩
 .nil) ⟨(some true), (some 4), (some [.v (.slice none 0 0), .v (.int .u8 0), .v (.int .u8 0), .v (.int .u16 0)]), [(some (0, 1)), (some (1, 1)), (some (2, 1)), (some (3, 1))], none, none⟩
 (.node .nil ⟨none, none, none, [], none, none⟩
 .nil))) ⟨(some false), (some 1), (some [.v (.pointer none)]), [], none, none⟩
 (.node (.node (.node .nil ⟨(some false), (some 1), (some [.v (.nilFunc)]), [], none, none⟩
 .nil) ⟨(some false), (some 1), (some [.v (.nilFunc)]), [], none, none⟩
 (.node .nil ⟨none, none, none, [], none, none⟩
 .nil)) ⟨(some true), (some 2), (some [.v (.slice none 0 0), .v (.int .i64 0)]), [(some (0, 1)), (some (1, 1))], none, none⟩
 (.node (.node .nil ⟨none, none, none, [], none, none⟩
 .nil) ⟨(some false), (some 1), (some [.v (.nilFunc)]), [], none, none⟩
 (.node .nil ⟨none, none, none, [], none, none⟩
 .nil)))) ⟨(some true), (some 4), (some [.v (.int .i64 0), .v (.int .i64 0), .v (.bool false), .v (.int .u8 0)]), [(some (0, 1)), (some (1, 1)), (some (2, 1)), (some (3, 1))], none, none⟩
 (.node (.node (.node (.node .nil ⟨(some false), (some 1), (some [.v (.nilFunc)]), [], none, none⟩
 .nil) ⟨(some false), (some 1), (some [.v (.nilFunc)]), [], none, none⟩
 (.node .nil ⟨none, none, none, [], none, none⟩
 .nil)) ⟨(some true), (some 4), (some [.v (.slice none 0 0), .v (.slice none 0 0), .v (.int .i64 0), .v (.int .i64 0)]), [(some (0, 1)), (some (1, 1)), (some (2, 1)), (some (3, 1))], none, none⟩
 (.node (.node .nil ⟨(some true), (some 11), (some [.v (.int .u64 0), .v (.int .u64 0), .v (.int .u32 0), .v (.int .u8 0), .v (.int .u8 0), .v (.int .u8 0), .v (.int .u8 0), .v (.nilFunc), .v (.pointer none), .v (.int .i32 0), .v (.int .i32 0)]), [(some (0, 1)), (some (1, 1)), (some (2, 1)), (some (3, 1)), (some (4, 1)), (some (5, 1)), (some (6, 1)), (some (7, 1)), (some (8, 1)), (some (9, 1)), (some (10, 1))], none, none⟩
 .nil) ⟨(some false), (some 1), (some [.v (.nilFunc)]), [], none, none⟩
 (.node .nil ⟨none, none, none, [], none, none⟩
 .nil))) ⟨(some false), (some 1), (some [.v (.slice none 0 0)]), [], (some (81, 3, 32, [.v (.string ByteArray.empty), .v (.int .i64 0), .v (.int .i64 0)])), none⟩
 (.node (.node (.node .nil ⟨(some false), (some 1), (some [.v (.nilFunc)]), [], none, none⟩
 .nil) ⟨(some false), (some 1), (some [.v (.nilFunc)]), [], none, none⟩
 (.node .nil ⟨none, none, none, [], none, none⟩
 .nil)) ⟨(some false), (some 1), (some [.v (.nilFunc)]), [], none, none⟩
 (.node (.node .nil ⟨none, none, none, [], none, none⟩
 .nil) ⟨(some true), (some 4), (some [.v (.slice none 0 0), .v (.slice none 0 0), .v (.slice none 0 0), .v (.int .i64 0)]), [(some (0, 2)), (some (2, 1)), (some (3, 1))], none, none⟩
 (.node .nil ⟨none, none, none, [], none, none⟩
 .nil))))) ⟨(some false), (some 1), (some [.v (.int .i64 0)]), [], none, none⟩
 (.node (.node (.node (.node (.node .nil ⟨(some false), (some 1), (some [.v (.nilFunc)]), [], none, none⟩
 .nil) ⟨(some true), (some 5), (some [.v (.slice none 0 0), .v (.slice none 0 0), .v (.int .u8 0), .v (.int .u8 0), .v (.bool false)]), [(some (0, 1)), (some (1, 1)), (some (2, 2)), (some (4, 1))], none, none⟩
 (.node .nil ⟨none, none, none, [], none, none⟩
 .nil)) ⟨(some false), (some 1), (some [.v (.nilFunc)]), [], none, none⟩
 (.node (.node .nil ⟨(some false), (some 1), (some [.v (.nilFunc)]), [], none, none⟩
 .nil) ⟨(some true), (some 2), (some [.v (.int .i64 0), .v (.int .i64 0)]), [(some (0, 1)), (some (1, 1))], none, none⟩
 (.node .nil ⟨none, none, none, [], none, none⟩
 .nil))) ⟨(some true), (some 1), (some [.v (.pointer none)]), [(some (0, 1))], none, none⟩
 (.node (.node (.node .nil ⟨(some false), (some 1), (some [.v (.nilFunc)]), [], none, none⟩
 .nil) ⟨(some false), (some 1), (some [.v (.nilFunc)]), [], none, none⟩
 (.node .nil ⟨none, none, none, [], none, none⟩
 .nil)) ⟨(some true), (some 3), (some [.v (.slice none 0 0), .v (.slice none 0 0), .v (.int .i64 0)]), [(some (0, 1)), (some (1, 1)), (some (2, 1))], none, none⟩
 (.node (.node .nil ⟨none, none, none, [], none, none⟩
 .nil) ⟨(some false), (some 1), (some [.v (.pointer none)]), [], none, none⟩
 (.node .nil ⟨none, none, none, [], none, none⟩
 .nil)))) ⟨(some false), (some 1), (some [.v (.string ByteArray.empty)]), [], none, none⟩
 (.node (.node (.node (.node .nil ⟨(some false), (some 1), (some [.v (.nilFunc)]), [], none, none⟩
 .nil) ⟨(some true), (some 5), (some [.v (.string ByteArray.empty), .v (.int .i64 0), .v (.int .i64 0), .v (.int .i64 0), .v (.int .i64 0)]), [(some (0, 1)), (some (1, 2)), (some (3, 2))], none, none⟩
 (.node .nil ⟨none, none, none, [], none, none⟩
 .nil)) ⟨(some false), (some 1), (some [.v (.nilFunc)]), [], none, none⟩
 (.node (.node .nil ⟨none, none, none, [], none, none⟩
 .nil) ⟨(some false), (some 1), (some [.v (.nilFunc)]), [], none, none⟩
 (.node .nil ⟨none, none, none, [], none, none⟩
 .nil))) ⟨(some true), (some 3), (some [.v (.int .i64 0), .v (.int .i64 0), .v (.int .i64 0)]), [(some (0, 1)), (some (1, 1)), (some (2, 1))], none, none⟩
 (.node (.node (.node .nil ⟨(some true), (some 4), (some [.v (.pointer none), .v (.pointer none), .v (.pointer none), .v (.string ByteArray.empty)]), [(some (0, 1)), (some (1, 1)), (some (2, 1)), (some (3, 1))], none, none⟩
 .nil) ⟨(some false), (some 1), (some [.v (.nilFunc)]), [], none, none⟩
 (.node .nil ⟨none, none, none, [], none, none⟩
 .nil)) ⟨(some false), (some 1), (some [.v (.nilFunc)]), [], none, none⟩
 (.node (.node .nil ⟨none, none, none, [], none, none⟩
 .nil) ⟨(some false), (some 1), (some [.v (.nilFunc)]), [], none, none⟩
 (.node .nil ⟨none, none, none, [], none, none⟩
 .nil)))))) ⟨(some false), (some 1), (some [.v (.nilFunc)]), [], none, none⟩
 (.node (.node (.node (.node (.node (.node .nil ⟨(some false), (some 1), (some [.v (.nilFunc)]), [], none, none⟩
 .nil) ⟨(some false), (some 1), (some [.v (.slice none 0 0)]), [], (some (84, 1, 2, [.v (.int .u16 0)])), none⟩
 (.node .nil ⟨none, none, none, [], none, none⟩
 .nil)) ⟨(some false), (some 1), (some [.v (.tuple #[.agg #[.int .i64 0, .int .i64 0], .int .i64 0])]), [], none, none⟩
 (.node (.node .nil ⟨(some false), (some 1), (some [.v (.int .u8 0)]), [], none, none⟩
 .nil) ⟨(some true), (some 3), (some [.v (.slice none 0 0), .v (.int .u8 0), .v (.int .u16 0)]), [(some (0, 1)), (some (1, 1)), (some (2, 1))], none, none⟩
 (.node .nil ⟨none, none, none, [], none, none⟩
 .nil))) ⟨(some false), (some 1), (some [.v (.pointer none)]), [], none, none⟩
 (.node (.node (.node .nil ⟨(some true), (some 2), (some [.v (.nilFunc), .v (.nilFunc)]), [], none, (some (2, 1, false))⟩
 .nil) ⟨(some true), (some 3), (some [.v (.string ByteArray.empty), .v (.int .i64 0), .v (.int .i64 0)]), [(some (0, 1)), (some (1, 2))], none, none⟩
 (.node .nil ⟨none, none, none, [], none, none⟩
 .nil)) ⟨(some false), (some 1), (some [.v (.slice none 0 0)]), [], (some (3, 1, 8, [.v (.int .i64 0)])), none⟩
 (.node (.node .nil ⟨none, none, none, [], none, none⟩
 .nil) ⟨(some false), (some 1), (some [.v (.nilFunc)]), [], none, none⟩
 (.node .nil ⟨none, none, none, [], none, none⟩
 .nil)))) ⟨(some false), (some 1), (some [.v (.string ByteArray.empty)]), [], none, none⟩
 (.node (.node (.node (.node .nil ⟨(some false), (some 1), (some [.v (.nilFunc)]), [], none, none⟩
 .nil) ⟨(some false), (some 1), (some [.v (.nilFunc)]), [], none, none⟩
 (.node .nil ⟨none, none, none, [], none, none⟩
 .nil)) ⟨(some false), (some 1), (some [.v (.tuple #[.slice none 0 0, .int .i64 0])]), [], none, none⟩
 (.node (.node .nil ⟨(some false), (some 1), (some [.v (.pointer none)]), [], none, none⟩
 .nil) ⟨(some false), (some 1), (some [.v (.nilFunc)]), [], none, none⟩
 (.node .nil ⟨none, none, none, [], none, none⟩
 .nil))) ⟨(some true), (some 2), (some [.v (.slice none 0 0), .v (.slice none 0 0)]), [(some (0, 1)), (some (1, 1))], none, none⟩
 (.node (.node (.node .nil ⟨(some false), (some 1), (some [.v (.nilFunc)]), [], none, none⟩
 .nil) ⟨(some true), (some 3), (some [.v (.slice none 0 0), .v (.int .i64 0), .v (.slice none 0 0)]), [(some (0, 1)), (some (1, 1)), (some (2, 1))], none, none⟩
 (.node .nil ⟨none, none, none, [], none, none⟩
 .nil)) ⟨(some false), (some 1), (some [.v (.tuple #[.slice none 0 0, .int .i64 0])]), [], none, none⟩
 (.node (.node .nil ⟨none, none, none, [], none, none⟩
 .nil) ⟨(some false), (some 1), (some [.v (.tuple #[.slice none 0 0, .bool false])]), [], none, none⟩
 (.node .nil ⟨none, none, none, [], none, none⟩
 .nil))))) ⟨(some false), (some 1), (some [.v (.int .u8 0)]), [], none, none⟩
 (.node (.node (.node (.node (.node .nil ⟨(some false), (some 1), (some [.v (.nilFunc)]), [], none, none⟩
 .nil) ⟨(some false), (some 1), (some [.v (.nilFunc)]), [], none, none⟩
 (.node .nil ⟨none, none, none, [], none, none⟩
 .nil)) ⟨(some false), (some 1), (some [.v (.slice none 0 0)]), [], (some (32, 2, 16, [.v (.int .i64 0), .v (.int .i64 0)])), none⟩
 (.node (.node .nil ⟨(some false), (some 1), (some [.v (.int .i32 0)]), [], none, none⟩
 .nil) ⟨(some false), (some 1), (some [.v (.nilFunc)]), [], none, none⟩
 (.node .nil ⟨none, none, none, [], none, none⟩
 .nil))) ⟨(some false), (some 1), (some [.v (.int .i32 0)]), [], none, none⟩
 (.node (.node (.node .nil ⟨(some false), (some 1), (some [.v (.nilFunc)]), [], none, none⟩
 .nil) ⟨(some true), (some 3), (some [.v (.int .u16 0), .v (.int .u16 0), .v (.int .u16 0)]), [], none, (some (3, 1, false))⟩
 (.node .nil ⟨none, none, none, [], none, none⟩
 .nil)) ⟨(some false), (some 1), (some [.v (.nilFunc)]), [], none, none⟩
 (.node (.node .nil ⟨none, none, none, [], none, none⟩
 .nil) ⟨(some false), (some 1), (some [.v (.nilFunc)]), [], none, none⟩
 (.node .nil ⟨none, none, none, [], none, none⟩
 .nil)))) ⟨(some true), (some 2), (some [.v (.string ByteArray.empty), .v (.int .u64 0)]), [(some (0, 1)), (some (1, 1))], none, none⟩
 (.node (.node (.node (.node .nil ⟨(some false), (some 1), (some [.v (.nilFunc)]), [], none, none⟩
 .nil) ⟨(some true), (some 5), (some [.v (.int .i64 0), .v (.int .i64 0), .v (.int .i64 0), .v (.int .i64 0), .v (.int .i64 0)]), [(some (0, 1)), (some (1, 1)), (some (2, 1)), (some (3, 1)), (some (4, 1))], none, none⟩
 (.node .nil ⟨none, none, none, [], none, none⟩
 .nil)) ⟨(some false), (some 1), (some [.v (.nilFunc)]), [], none, none⟩
 (.node (.node .nil ⟨none, none, none, [], none, none⟩
 .nil) ⟨(some false), (some 1), (some [.v (.nilFunc)]), [], none, none⟩
 (.node .nil ⟨none, none, none, [], none, none⟩
 .nil))) ⟨(some false), (some 1), (some [.v (.tuple #[.int .i64 0, .int .i64 0, .int .i64 0])]), [], none, none⟩
 (.node (.node (.node .nil ⟨(some true), (some 0), (some []), [(some (0, 0))], none, none⟩
 .nil) ⟨(some false), (some 1), (some [.v (.nilFunc)]), [], none, none⟩
 (.node .nil ⟨none, none, none, [], none, none⟩
 .nil)) ⟨(some false), (some 1), (some [.v (.nilFunc)]), [], none, none⟩
 (.node (.node .nil ⟨none, none, none, [], none, none⟩
 .nil) ⟨(some false), (some 1), (some [.v (.nilFunc)]), [], none, none⟩
 (.node .nil ⟨none, none, none, [], none, none⟩
 .nil))))))) ⟨(some false), (some 1), (some [.v (.tuple #[])]), [], none, none⟩
 (.node (.node (.node (.node (.node (.node (.node .nil ⟨(some false), (some 1), (some [.v (.nilFunc)]), [], none, none⟩
 .nil) ⟨(some false), (some 1), (some [.v (.nilFunc)]), [], none, none⟩
 (.node .nil ⟨none, none, none, [], none, none⟩
 .nil)) ⟨(some true), (some 2), (some [.v (.int .i64 0), .v (.int .i64 0)]), [(some (0, 1)), (some (1, 1))], none, none⟩
 (.node (.node .nil ⟨(some false), (some 1), (some [.v (.int .u32 0)]), [], none, none⟩
 .nil) ⟨(some false), (some 1), (some [.v (.nilFunc)]), [], none, none⟩
 (.node .nil ⟨none, none, none, [], none, none⟩
 .nil))) ⟨(some false), (some 1), (some [.v (.pointer none)]), [], none, none⟩
 (.node (.node (.node .nil ⟨(some false), (some 1), (some [.v (.nilFunc)]), [], none, none⟩
 .nil) ⟨(some true), (some 3), (some [.v (.string ByteArray.empty), .v (.int .i64 0), .v (.int .i64 0)]), [(some (0, 1)), (some (1, 2))], none, none⟩
 (.node .nil ⟨none, none, none, [], none, none⟩
 .nil)) ⟨(some true), (some 2), (some [.v (.slice none 0 0), .v (.int .i64 0)]), [(some (0, 1)), (some (1, 1))], none, none⟩
 (.node (.node .nil ⟨none, none, none, [], none, none⟩
 .nil) ⟨(some false), (some 1), (some [.v (.nilFunc)]), [], none, none⟩
 (.node .nil ⟨none, none, none, [], none, none⟩
 .nil)))) ⟨(some true), (some 4), (some [.v (.int .i64 0), .v (.int .i64 0), .v (.bool false), .v (.int .u8 0)]), [(some (0, 1)), (some (1, 1)), (some (2, 1)), (some (3, 1))], none, none⟩
 (.node (.node (.node (.node .nil ⟨(some false), (some 1), (some [.v (.nilFunc)]), [], none, none⟩
 .nil) ⟨(some false), (some 1), (some [.v (.nilFunc)]), [], none, none⟩
 (.node .nil ⟨none, none, none, [], none, none⟩
 .nil)) ⟨(some true), (some 4), (some [.v (.slice none 0 0), .v (.slice none 0 0), .v (.int .i64 0), .v (.int .i64 0)]), [(some (0, 1)), (some (1, 1)), (some (2, 1)), (some (3, 1))], none, none⟩
 (.node (.node .nil ⟨(some true), (some 11), (some [.v (.int .u64 0), .v (.int .u64 0), .v (.int .u32 0), .v (.int .u8 0), .v (.int .u8 0), .v (.int .u8 0), .v (.int .u8 0), .v (.nilFunc), .v (.pointer none), .v (.int .i32 0), .v (.int .i32 0)]), [(some (0, 1)), (some (1, 1)), (some (2, 1)), (some (3, 1)), (some (4, 1)), (some (5, 1)), (some (6, 1)), (some (7, 1)), (some (8, 1)), (some (9, 1)), (some (10, 1))], none, none⟩
 .nil) ⟨(some false), (some 1), (some [.v (.nilFunc)]), [], none, none⟩
 (.node .nil ⟨none, none, none, [], none, none⟩
 .nil))) ⟨(some true), (some 2), (some [.v (.slice none 0 0), .v (.slice none 0 0)]), [(some (0, 1)), (some (1, 1))], none, none⟩
 (.node (.node (.node .nil ⟨(some false), (some 1), (some [.v (.pointer none)]), [], none, none⟩
 .nil) ⟨(some true), (some 3), (some [.v (.slice none 0 0), .v (.int .i64 0), .v (.slice none 0 0)]), [(some (0, 1)), (some (1, 1)), (some (2, 1))], none, none⟩
 (.node .nil ⟨none, none, none, [], none, none⟩
 .nil)) ⟨(some false), (some 1), (some [.v (.nilFunc)]), [], none, none⟩
 (.node (.node .nil ⟨none, none, none, [], none, none⟩
 .nil) ⟨(some true), (some 4), (some [.v (.slice none 0 0), .v (.slice none 0 0), .v (.slice none 0 0), .v (.int .i64 0)]), [(some (0, 2)), (some (2, 1)), (some (3, 1))], none, none⟩
 (.node .nil ⟨none, none, none, [], none, none⟩
 .nil))))) ⟨(some false), (some 1), (some [.v (.bool false)]), [], none, none⟩
 (.node (.node (.node (.node (.node .nil ⟨(some false), (some 1), (some [.v (.nilFunc)]), [], none, none⟩
 .nil) ⟨(some true), (some 5), (some [.v (.slice none 0 0), .v (.slice none 0 0), .v (.int .u8 0), .v (.int .u8 0), .v (.bool false)]), [(some (0, 1)), (some (1, 1)), (some (2, 2)), (some (4, 1))], none, none⟩
 (.node .nil ⟨none, none, none, [], none, none⟩
 .nil)) ⟨(some false), (some 1), (some [.v (.nilFunc)]), [], none, none⟩
 (.node (.node .nil ⟨(some false), (some 1), (some [.v (.pointer none)]), [], none, none⟩
 .nil) ⟨(some true), (some 2), (some [.v (.int .i64 0), .v (.int .i64 0)]), [(some (0, 1)), (some (1, 1))], none, none⟩
 (.node .nil ⟨none, none, none, [], none, none⟩
 .nil))) ⟨(some false), (some 1), (some [.v (.nilIface)]), [], none, none⟩
 (.node (.node (.node .nil ⟨(some false), (some 1), (some [.v (.nilFunc)]), [], none, none⟩
 .nil) ⟨(some false), (some 1), (some [.v (.int .u16 0)]), [], none, none⟩
 (.node .nil ⟨none, none, none, [], none, none⟩
 .nil)) ⟨(some false), (some 1), (some [.v (.tuple #[.int .i64 0, .int .i64 0])]), [], none, none⟩
 (.node (.node .nil ⟨none, none, none, [], none, none⟩
 .nil) ⟨(some false), (some 1), (some [.v (.tuple #[.pointer none, .int .i64 0])]), [], none, none⟩
 (.node .nil ⟨none, none, none, [], none, none⟩
 .nil)))) ⟨(some false), (some 1), (some [.v (.int .u64 0)]), [], none, none⟩
 (.node (.node (.node (.node .nil ⟨(some false), (some 1), (some [.v (.nilFunc)]), [], none, none⟩
 .nil) ⟨(some true), (some 5), (some [.v (.string ByteArray.empty), .v (.int .i64 0), .v (.int .i64 0), .v (.int .i64 0), .v (.int .i64 0)]), [(some (0, 1)), (some (1, 2)), (some (3, 2))], none, none⟩
 (.node .nil ⟨none, none, none, [], none, none⟩
 .nil)) ⟨(some false), (some 1), (some [.v (.nilFunc)]), [], none, none⟩
 (.node (.node .nil ⟨none, none, none, [], none, none⟩
 .nil) ⟨(some false), (some 1), (some [.v (.nilFunc)]), [], none, none⟩
 (.node .nil ⟨none, none, none, [], none, none⟩
 .nil))) ⟨(some false), (some 1), (some [.v (.int .i64 0)]), [], none, none⟩
 (.node (.node (.node .nil ⟨(some true), (some 0), (some []), [], none, (some (0, 1, false))⟩
 .nil) ⟨(some false), (some 1), (some [.v (.nilFunc)]), [], none, none⟩
 (.node .nil ⟨none, none, none, [], none, none⟩
 .nil)) ⟨(some false), (some 1), (some [.v (.nilFunc)]), [], none, none⟩
 (.node (.node .nil ⟨none, none, none, [], none, none⟩
 .nil) ⟨(some false), (some 1), (some [.v (.nilFunc)]), [], none, none⟩
 (.node .nil ⟨none, none, none, [], none, none⟩
 .nil)))))) ⟨(some false), (some 1), (some [.v (.int .i64 0)]), [], none, none⟩
 (.node (.node (.node (.node (.node (.node .nil ⟨(some false), (some 1), (some [.v (.nilFunc)]), [], none, none⟩
 .nil) ⟨(some true), (some 2), (some [.v (.int .u8 0), .v (.int .u8 0)]), [], none, (some (2, 1, false))⟩
 (.node .nil ⟨none, none, none, [], none, none⟩
 .nil)) ⟨(some false), (some 1), (some [.v (.nilFunc)]), [], none, none⟩
 (.node (.node .nil ⟨(some false), (some 1), (some [.v (.int .u8 0)]), [], none, none⟩
 .nil) ⟨(some true), (some 3), (some [.v (.slice none 0 0), .v (.int .u8 0), .v (.int .u16 0)]), [(some (0, 1)), (some (1, 1)), (some (2, 1))], none, none⟩
 (.node .nil ⟨none, none, none, [], none, none⟩
 .nil))) ⟨(some true), (some 1), (some [.v (.pointer none)]), [(some (0, 1))], none, none⟩
 (.node (.node (.node .nil ⟨(some false), (some 1), (some [.v (.pointer none)]), [], none, none⟩
 .nil) ⟨(some false), (some 1), (some [.v (.nilFunc)]), [], none, none⟩
 (.node .nil ⟨none, none, none, [], none, none⟩
 .nil)) ⟨(some true), (some 3), (some [.v (.slice none 0 0), .v (.slice none 0 0), .v (.int .i64 0)]), [(some (0, 1)), (some (1, 1)), (some (2, 1))], none, none⟩
 (.node (.node .nil ⟨none, none, none, [], none, none⟩
 .nil) ⟨(some false), (some 1), (some [.v (.nilFunc)]), [], none, none⟩
 (.node .nil ⟨none, none, none, [], none, none⟩
 .nil)))) ⟨(some false), (some 1), (some [.v (.string ByteArray.empty)]), [], none, none⟩
 (.node (.node (.node (.node .nil ⟨(some false), (some 1), (some [.v (.nilFunc)]), [], none, none⟩
 .nil) ⟨(some false), (some 1), (some [.v (.slice none 0 0)]), [], (some (4, 1, 1, [.v (.bool false)])), none⟩
 (.node .nil ⟨none, none, none, [], none, none⟩
 .nil)) ⟨(some false), (some 1), (some [.v (.nilFunc)]), [], none, none⟩
 (.node (.node .nil ⟨none, none, none, [], none, none⟩
 .nil) ⟨(some false), (some 1), (some [.v (.nilFunc)]), [], none, none⟩
 (.node .nil ⟨none, none, none, [], none, none⟩
 .nil))) ⟨(some true), (some 3), (some [.v (.int .i64 0), .v (.int .i64 0), .v (.int .i64 0)]), [(some (0, 1)), (some (1, 1)), (some (2, 1))], none, none⟩
 (.node (.node (.node .nil ⟨(some true), (some 4), (some [.v (.pointer none), .v (.pointer none), .v (.pointer none), .v (.string ByteArray.empty)]), [(some (0, 1)), (some (1, 1)), (some (2, 1)), (some (3, 1))], none, none⟩
 .nil) ⟨(some false), (some 1), (some [.v (.nilFunc)]), [], none, none⟩
 (.node .nil ⟨none, none, none, [], none, none⟩
 .nil)) ⟨(some false), (some 1), (some [.v (.nilFunc)]), [], none, none⟩
 (.node (.node .nil ⟨none, none, none, [], none, none⟩
 .nil) ⟨(some false), (some 1), (some [.v (.nilFunc)]), [], none, none⟩
 (.node .nil ⟨none, none, none, [], none, none⟩
 .nil))))) ⟨(some false), (some 1), (some [.v (.int .u8 0)]), [], none, none⟩
 (.node (.node (.node (.node (.node .nil ⟨(some false), (some 1), (some [.v (.nilFunc)]), [], none, none⟩
 .nil) ⟨(some false), (some 1), (some [.v (.tuple #[.slice none 0 0, .slice none 0 0, .int .i64 0, .slice none 0 0, .slice none 0 0])]), [], none, none⟩
 (.node .nil ⟨none, none, none, [], none, none⟩
 .nil)) ⟨(some false), (some 1), (some [.v (.slice none 0 0)]), [], (some (78, 5, 40, [.v (.int .i64 0), .v (.int .i64 0), .v (.int .i64 0), .v (.int .i64 0), .v (.int .i64 0)])), none⟩
 (.node (.node .nil ⟨(some false), (some 1), (some [.v (.int .i32 0)]), [], none, none⟩
 .nil) ⟨(some false), (some 1), (some [.v (.nilFunc)]), [], none, none⟩
 (.node .nil ⟨none, none, none, [], none, none⟩
 .nil))) ⟨(some false), (some 1), (some [.v (.slice none 0 0)]), [], (some (76, 5, 48, [.v (.string ByteArray.empty), .v (.int .i64 0), .v (.int .i64 0), .v (.int .i64 0), .v (.int .i64 0)])), none⟩
 (.node (.node (.node .nil ⟨(some false), (some 1), (some [.v (.nilFunc)]), [], none, none⟩
 .nil) ⟨(some false), (some 1), (some [.v (.nilFunc)]), [], none, none⟩
 (.node .nil ⟨none, none, none, [], none, none⟩
 .nil)) ⟨(some false), (some 1), (some [.v (.tuple #[.bool false, .int .i64 0, .int .i64 0, .int .i64 0])]), [], none, none⟩
 (.node (.node .nil ⟨none, none, none, [], none, none⟩
 .nil) ⟨(some false), (some 1), (some [.v (.nilFunc)]), [], none, none⟩
 (.node .nil ⟨none, none, none, [], none, none⟩
 .nil)))) ⟨(some true), (some 2), (some [.v (.string ByteArray.empty), .v (.int .u64 0)]), [(some (0, 1)), (some (1, 1))], none, none⟩
 (.node (.node (.node (.node .nil ⟨(some false), (some 1), (some [.v (.nilFunc)]), [], none, none⟩
 .nil) ⟨(some true), (some 5), (some [.v (.int .i64 0), .v (.int .i64 0), .v (.int .i64 0), .v (.int .i64 0), .v (.int .i64 0)]), [(some (0, 1)), (some (1, 1)), (some (2, 1)), (some (3, 1)), (some (4, 1))], none, none⟩
 (.node .nil ⟨none, none, none, [], none, none⟩
 .nil)) ⟨(some false), (some 1), (some [.v (.slice none 0 0)]), [], (some (100, 2, 16, [.v (.int .i64 0), .v (.int .i64 0)])), none⟩
 (.node (.node .nil ⟨none, none, none, [], none, none⟩
 .nil) ⟨(some false), (some 1), (some [.v (.slice none 0 0)]), [], (some (9, 1, 16, [.v (.string ByteArray.empty)])), none⟩
 (.node .nil ⟨none, none, none, [], none, none⟩
 .nil))) ⟨(some false), (some 1), (some [.v (.nilFunc)]), [], none, none⟩
 (.node (.node (.node .nil ⟨(some true), (some 0), (some []), [(some (0, 0))], none, none⟩
 .nil) ⟨(some true), (some 4), (some [.v (.slice none 0 0), .v (.int .u8 0), .v (.int .u8 0), .v (.int .u16 0)]), [(some (0, 1)), (some (1, 1)), (some (2, 1)), (some (3, 1))], none, none⟩
 (.node .nil ⟨none, none, none, [], none, none⟩
 .nil)) ⟨(some false), (some 1), (some [.v (.nilFunc)]), [], none, none⟩
 (.node (.node .nil ⟨none, none, none, [], none, none⟩
 .nil) ⟨(some false), (some 1), (some [.v (.nilFunc)]), [], none, none⟩
 (.node .nil ⟨none, none, none, [], none, none⟩
 .nil))))))))
theorem TT_ok [InW] : TabOk Try.prog TT := TabOk.of 8 (by kernel_rfl)
theorem mixed_ok : Try.prog.follows .mixedOrders = true := by kernel_rfl
end Go.Proofs.Ytdokbocmgdhmmaa
namespace Go.Proofs.Ytdokbocmgdhmmaa
open Go.RowKit
set_option linter.unusedVariables false
abbrev res_str (f : ByteArray → Bool) (ds : DS) : DS := match ds with | [[.s s]] => [[.b (f s)]] | _ => []
abbrev pre_str (f : ByteArray → Prop) (ds : DS) : Prop := match ds with | [[.s s]] => f s | _ => False
theorem pureStr {P : Program} {g : Nat} {pre : ByteArray → Prop} {f : ByteArray → Bool} (h : ∀ s w, pre s → Calls P g #[.string s] w fun e w' => e = .returned (.bool (f s)) ∧ Below w.heap.size w w') : PureOk P g [.one .str] [(false, [.bool])] (pre_str pre) (res_str f) := by
  intro W args ds ha hpre d hd
  refine @allAs_spec W [.one .str] (fun args ds => pre_str pre ds → @ACall W P g args [] false (@resAV W d [(false, [.bool])] (res_str f ds)) [] (@resHp W d 0 [(false, [.bool])] (res_str f ds))) _ _ (fun s hp => ?_) ha hpre
  intro φ w0 M R w hnew hS
  refine (h s w hp).mono fun e w' ⟨he, hb⟩ => ⟨φ, fun i _ => rfl, he, ?_⟩
  simpa [updAll, resHp, cellsHp, RTy.hp] using hS.ext hb
theorem okcName : PureOk Try.prog 52 [.one .str] [(false, [.bool])] (pre_str fun _ => True) (res_str Bk.nameOk) := pureStr fun s w _ => cname_any s w
theorem okrName : PureOk Try.prog 94 [.one .str] [(false, [.bool])] (pre_str fun s => s.size ≤ 9223372036854775807) (res_str Bk.nameOk) := pureStr fun s w hs => (rname_any s w hs).mono fun e w' ⟨he, hw⟩ => ⟨he, hw ▸ Below.refl _ _⟩
noncomputable def pc_cName : PC Try.prog := ⟨52, [.one .str], [(false, [.bool])], pre_str fun _ => True, res_str Bk.nameOk, okcName⟩
noncomputable def pc_rName : PC Try.prog := ⟨94, [.one .str], [(false, [.bool])], pre_str fun s => s.size ≤ 9223372036854775807, res_str Bk.nameOk, okrName⟩
end Go.Proofs.Ytdokbocmgdhmmaa
namespace Go.Proofs.Ytdokbocmgdhmmaa
open Go.RowKit
set_option linter.unusedVariables false
theorem notT {b : Bool} (h : (!b) = true) : b = false := by cases b <;> simp_all
theorem notF {b : Bool} (h : (!b) = false) : b = true := by cases b <;> simp_all
theorem vifn [InW] {p : Prop} {_ : Decidable p} {A B : Prop} (h : ¬ p → A) (h2 : p → B) : Vif (!decide p) A B := ⟨fun e => h (of_decide_eq_false (notT e)), fun e => h2 (of_decide_eq_true (notF e))⟩
theorem vifb [InW] {b : Bool} {A B : Prop} (h : b = false → A) (h2 : b = true → B) : Vif (!b) A B := ⟨fun e => h (notT e), fun e => h2 (notF e)⟩
theorem pre_of {p A : Prop} (h : p) (h2 : A) : Pre p A := ⟨h, h2⟩
end Go.Proofs.Ytdokbocmgdhmmaa
namespace Go.Proofs.Ytdokbocmgdhmmaa
open Go.RowKit
set_option linter.unusedVariables false
set_option maxRecDepth 100000
namespace Sp
def inr (n lo hi : Int) : Bool := decide (lo ≤ n) && decide (n ≤ hi)
def Small (n : Int) : Prop := -1000000000000000 ≤ n ∧ n ≤ 1000000000000000
def outs (lo hi : Int) (xs : Dt) : Nat → Nat → Bool
  | _, 0 => false
  | i, n + 1 => !inr (cel xs i 0).int lo hi || outs lo hi xs (i + 1) n
def out (lo hi : Int) (xs : Dt) : Bool := outs lo hi xs 0 xs.length
def outI (lo hi : Int) (xs : Dt) : Nat → Nat → Nat
  | i, 0 => i
  | i, n + 1 => if inr (cel xs i 0).int lo hi = true then outI lo hi xs (i + 1) n else i
def lev (n : Int) : Int := max 0 (min 1000 n)
def spanE (lo hi low high : Int) : Int := if inr lo low high && inr hi low high then (if hi < lo then 2 else 0) else 7
end Sp
noncomputable def T0 : Tab Try.prog := ⟨[], [], []⟩
def VC_in [W : InW] (n lo hi : Int) (Q : DS → Prop) : Prop :=
  Vif (decide (lo ≤ n)) (Q [[Cl.b (decide (n ≤ hi))]]) (Q [[Cl.b false]])
theorem vc_in (W : InW) (n lo hi Q) : bodyK (cxT Try.prog TT T0 1000 50) 1000 58 [.si .i64 n, .si .i64 lo, .si .i64 hi] [] 0 (leafK [(false, [.bool])] Q) (fun _ _ _ _ => Stuck 421) = VC_in n lo hi Q := by kernel_rfl
abbrev ats_in : List AT := [.one (.int .i64), .one (.int .i64), .one (.int .i64)]
theorem ok_in {pre : DS → Prop} {res : DS → DS} (hyp_ : ∀ (W : InW) (n : Int) (lo : Int) (hi : Int), pre [[.i n], [.i lo], [.i hi]] → ∀ Q : DS → Prop, Q (res [[.i n], [.i lo], [.i hi]]) → VC_in n lo hi Q) : PureOk Try.prog 58 ats_in [(false, [.bool])] pre res :=
  PureOk.of' (fun W => @TT W) (fun W => @TT_ok W) mixed_ok T0 1000 50 fun W n lo hi hp =>
    (vc_in W n lo hi (fun o => o = res [[.i n], [.i lo], [.i hi]])).mpr (hyp_ W n lo hi hp _ rfl)
abbrev res_in (ds : DS) : DS := match ds with | [[.i n], [.i lo], [.i hi]] => [[.b (Sp.inr n lo hi)]] | _ => []
theorem okin : PureOk Try.prog 58 ats_in [(false, [.bool])] (fun _ => True) res_in :=
  ok_in fun W n lo hi _ Q h => vif (fun e => by simpa [res_in, Sp.inr, e] using h) fun e => by simpa [res_in, Sp.inr, e] using h
noncomputable def pc_in : PC Try.prog := ⟨58, ats_in, [(false, [.bool])], fun _ => True, res_in, okin⟩
def sp_out [InW] (e : List Ed) (K : Nat → List Ed → Prop) : Prop := match e with
  | [.ro _ xs, .i n, .i i, .i lo, .i hi] => Pre (n = xs.xs.length ∧ 0 ≤ i ∧ i ≤ n) (Vif (Sp.outs lo hi xs.xs i.toNat (xs.xs.length - i.toNat)) (K 1 [.i (Sp.outI lo hi xs.xs i.toNat (xs.xs.length - i.toNat)), .i lo, .i hi]) (K 0 [.i lo, .i hi]))
  | _ => False
noncomputable def lc_out : LC where
  len := 19
  T := [(0, .rs [.int .i64]), (1, (.fn (.func 90) [] [(.ptr 1 0), (.ptr 4 0)])), (7, .int .i64), (8, .int .i64)]
  H := [(1, .blk 3 [.int .i64]), (4, .blk 3 [.int .i64])]
  W := [4, 5, 9, 10, 11, 12, 13, 14, 15, 16, 17, 18]
  outs := [⟨.exit 0, [(1, (.fn (.func 90) [] [(.ptr 1 0), (.ptr 4 0)]))], [(1, .blk 3 [.int .i64]), (4, .blk 3 [.int .i64])], [0, 4, 5, 7, 8, 9, 10, 11, 12, 13, 14, 15, 16, 17, 18]⟩, ⟨.ret, [(1, (.fn (.func 90) [] [(.ptr 1 0), (.ptr 4 0)])), (4, .int .i64)], [(1, .blk 3 [.int .i64]), (4, .blk 3 [.int .i64])], [0, 5, 7, 8, 9, 10, 11, 12, 13, 14, 15, 16, 17, 18]⟩]
  spec := sp_out
def VCL_out [W : InW] (xs : Ro [.int .i64]) (n i lo hi : Int) (A : List Ed → Prop) (K : Nat → List Ed → Prop) : Prop :=
  Vif (decide (i < n)) (Need (decide ((0 : Int) ≤ i) && decide (i < (↑(xs.xs.length) : Int))) (Need (decide (i.toNat < xs.xs.length)) (Vif (decide ((cel xs.xs i.toNat (0 : Nat)).int < lo)) (K (0+1 : Nat) [.i i, .i lo, .i hi]) (Vif (decide (hi < (cel xs.xs i.toNat (0 : Nat)).int)) (K (0+1 : Nat) [.i i, .i lo, .i hi]) (Ar .i64 (i + (1 : Int)) fun z => A [.ro _ xs, .i n, .i z, .i lo, .i hi]))))) (K (0 : Nat) [.i lo, .i hi])
theorem vcl_out (W : InW) (xs n i lo hi A K) : vcTop { cxT Try.prog TT T0 1000 50 with fn := 106 } 1000 (loopAt Try.prog 106 3) (tmOut 19 [(0, .rs _ xs), (1, .fn (.func 90) [] [.ptr 1 0, .ptr 4 0]), (7, .si .i64 n), (8, .si .i64 i)] [4, 5, 9, 10, 11, 12, 13, 14, 15, 16, 17, 18]) [(1, .blk 3 [.si .i64 lo]), (4, .blk 3 [.si .i64 hi])] (roundL lc_out A K) = VCL_out xs n i lo hi A K := by kernel_rfl
def okLt_out : Prop := ∀ (W : InW) (body a : Code), (Try.prog.funcs[106]?).bind (·.body) = some body → a ∈ loopsIn body → keyOf a = 3 → @LoopOk W Try.prog a (@loopRun W lc_out)
theorem okl_out (meas : [InW] → List Ed → Nat) (hyp_ : ∀ (W : InW) (xs : Ro [.int .i64]) (n : Int) (i : Int) (lo : Int) (hi : Int) (K : Nat → List Ed → Prop), sp_out [.ro _ xs, .i n, .i i, .i lo, .i hi] K → ∀ A : List Ed → Prop, (∀ e, meas e < meas [.ro _ xs, .i n, .i i, .i lo, .i hi] → sp_out e K → A e) → VCL_out xs n i lo hi A K) : okLt_out :=
  LE.okOf' (fun W => @TT W) (fun W => @TT_ok W) mixed_ok T0 1000 50 (by kernel_rfl) lc_out (fun W => @meas W) fun W xs n i lo hi K hs =>
    (vcl_out W xs n i lo hi (fun e => meas e < meas [.ro _ xs, .i n, .i i, .i lo, .i hi] ∧ sp_out e K) K).mpr (hyp_ W xs n i lo hi K hs _ fun e h1 h2 => ⟨h1, h2⟩)
theorem okLout : okLt_out := okl_out (fun e => match e with | .ro _ xs :: .i n :: .i i :: _ => (n - i).toNat | _ => 0) fun W xs n i lo hi K hs A hA => by
  obtain ⟨⟨rfl, h0, h1⟩, hk⟩ := hs
  unfold VCL_out
  have hm := xs.len
  simp only [maxLen] at hm
  refine vifd (fun e => ?_) fun e => ?_
  · rw [show xs.xs.length - i.toNat = (xs.xs.length - (i.toNat + 1)) + 1 by omega] at hk
    have hc : (cel xs.xs i.toNat 0).int < lo ∨ hi < (cel xs.xs i.toNat 0).int → K 1 [.i i, .i lo, .i hi] := fun h => by
      have hf : Sp.inr (cel xs.xs i.toNat 0).int lo hi = false := by simp only [Sp.inr, Bool.and_eq_false_iff, decide_eq_false_iff_not]; omega
      have := hk.1 (by simp [Sp.outs, hf])
      unfold Sp.outI at this
      rw [if_neg (by simp [hf]), Int.toNat_of_nonneg h0] at this
      exact this
    refine ned (by simp; omega) (nedd (by omega) (vifd (fun e2 => hc (.inl e2)) fun e2 => vifd (fun e3 => hc (.inr e3)) fun e3 => ar64 (by omega) (hA _ ?_ ?_)))
    · show ((xs.xs.length : Int) - (i + 1)).toNat < ((xs.xs.length : Int) - i).toNat
      omega
    · have hf : Sp.inr (cel xs.xs i.toNat 0).int lo hi = true := by simp only [Sp.inr, Bool.and_eq_true, decide_eq_true_eq]; omega
      refine ⟨⟨rfl, by omega, by omega⟩, ?_⟩
      rw [show (i + 1).toNat = i.toNat + 1 by omega]
      simp only [Sp.outs, hf, Bool.not_true, Bool.false_or, Sp.outI, if_true] at hk
      exact hk
  · rw [show xs.xs.length - i.toNat = 0 by omega] at hk
    exact hk.2 rfl
noncomputable def le_out : LE Try.prog := ⟨106, 3, fun W => @loopRun W lc_out, okLout⟩
noncomputable def T12 : Tab Try.prog := ⟨T0.pcs, [le_out], []⟩
def VC_out [W : InW] (lo hi : Int) (xs : Ro [.int .i64]) (Q : DS → Prop) : Prop :=
  Pre ((↑(xs.xs.length) : Int) = (↑(xs.xs.length) : Int) ∧ (0 : Int) ≤ (0 : Int) ∧ (0 : Int) ≤ (↑(xs.xs.length) : Int)) (Vif (Sp.outs lo hi xs.xs (Int.toNat (0 : Int)) (xs.xs.length - Int.toNat (0 : Int))) (Q [[Cl.b (decide ((0 : Int) ≤ (↑(Sp.outI lo hi xs.xs (Int.toNat (0 : Int)) (xs.xs.length - Int.toNat (0 : Int))) : Int)))]]) (Q [[Cl.b false]]))
theorem vc_out (W : InW) (lo hi xs Q) : bodyK (cxT Try.prog TT T12 1000 50) 1000 51 [.si .i64 lo, .si .i64 hi, .rs _ xs] [] 0 (leafK [(false, [.bool])] Q) (fun _ _ _ _ => Stuck 421) = VC_out lo hi xs Q := by kernel_rfl
abbrev ats_out : List AT := [.one (.int .i64), .one (.int .i64), .one (.sl [.int .i64])]
theorem ok_out {pre : DS → Prop} {res : DS → DS} (hyp_ : ∀ (W : InW) (lo : Int) (hi : Int) (xs : Ro [.int .i64]), pre [[.i lo], [.i hi], [.l xs.xs]] → ∀ Q : DS → Prop, Q (res [[.i lo], [.i hi], [.l xs.xs]]) → VC_out lo hi xs Q) : PureOk Try.prog 51 ats_out [(false, [.bool])] pre res :=
  PureOk.of' (fun W => @TT W) (fun W => @TT_ok W) mixed_ok T12 1000 50 fun W lo hi xs hp =>
    (vc_out W lo hi xs (fun o => o = res [[.i lo], [.i hi], [.l xs.xs]])).mpr (hyp_ W lo hi xs hp _ rfl)
abbrev res_out (ds : DS) : DS := match ds with | [[.i lo], [.i hi], [.l xs]] => [[.b (Sp.out lo hi xs)]] | _ => []
theorem okout : PureOk Try.prog 51 ats_out [(false, [.bool])] (fun _ => True) res_out :=
  ok_out fun W lo hi xs _ Q h => by
    unfold VC_out
    simp only [res_out, Sp.out] at h
    rw [show Int.toNat 0 = 0 from rfl, Nat.sub_zero]
    refine ⟨⟨rfl, by omega, by omega⟩, vif (fun e => ?_) fun e => ?_⟩
    · rw [e] at h
      rw [decide_eq_true (by omega)]
      exact h
    · rw [e] at h
      exact h
theorem out1 (lo hi n : Int) : Sp.out lo hi [[Cl.i n]] = !Sp.inr n lo hi := by simp [Sp.out, Sp.outs, cel, Cl.int]
theorem out2 (lo hi n m : Int) : Sp.out lo hi [[Cl.i n], [Cl.i m]] = (!Sp.inr n lo hi || !Sp.inr m lo hi) := by simp [Sp.out, Sp.outs, cel, Cl.int]
theorem out4 (lo hi n m k l : Int) : Sp.out lo hi [[Cl.i n], [Cl.i m], [Cl.i k], [Cl.i l]] = (!Sp.inr n lo hi || (!Sp.inr m lo hi || (!Sp.inr k lo hi || !Sp.inr l lo hi))) := by simp [Sp.out, Sp.outs, cel, Cl.int]
noncomputable def pc_out : PC Try.prog := ⟨51, ats_out, [(false, [.bool])], fun _ => True, res_out, okout⟩
noncomputable def T1 : Tab Try.prog := ⟨[pc_in, pc_out], [], []⟩
def VC_rspan [W : InW] (s_Lo s_Hi lo hi : Int) (Q : DS → Prop) : Prop :=
  Pre True (Vif (!Sp.inr s_Lo lo hi) (Q [[Cl.i (7 : Int)]]) (Pre True (Vif (!Sp.inr s_Hi lo hi) (Q [[Cl.i (7 : Int)]]) (Vif (decide (s_Hi < s_Lo)) (Q [[Cl.i (2 : Int)]]) (Q [[Cl.i (0 : Int)]])))))
theorem vc_rspan (W : InW) (s_Lo s_Hi lo hi Q) : bodyK (cxT Try.prog TT T1 1000 50) 1000 60 [.agg [.si .i64 s_Lo, .si .i64 s_Hi], .si .i64 lo, .si .i64 hi] [] 0 (leafK [(false, [.int .i64])] Q) (fun _ _ _ _ => Stuck 421) = VC_rspan s_Lo s_Hi lo hi Q := by kernel_rfl
abbrev ats_rspan : List AT := [.agg [.int .i64, .int .i64], .one (.int .i64), .one (.int .i64)]
theorem ok_rspan {pre : DS → Prop} {res : DS → DS} (hyp_ : ∀ (W : InW) (s_Lo : Int) (s_Hi : Int) (lo : Int) (hi : Int), pre [[.i s_Lo, .i s_Hi], [.i lo], [.i hi]] → ∀ Q : DS → Prop, Q (res [[.i s_Lo, .i s_Hi], [.i lo], [.i hi]]) → VC_rspan s_Lo s_Hi lo hi Q) : PureOk Try.prog 60 ats_rspan [(false, [.int .i64])] pre res :=
  PureOk.of' (fun W => @TT W) (fun W => @TT_ok W) mixed_ok T1 1000 50 fun W s_Lo s_Hi lo hi hp =>
    (vc_rspan W s_Lo s_Hi lo hi (fun o => o = res [[.i s_Lo, .i s_Hi], [.i lo], [.i hi]])).mpr (hyp_ W s_Lo s_Hi lo hi hp _ rfl)
def VC_odd [W : InW] (s_Lo s_Hi lo hi : Int) (Q : DS → Prop) : Prop :=
  Pre True (Vif (Sp.out lo hi [[Cl.i s_Lo], [Cl.i s_Hi]]) (Q [[Cl.i (7 : Int)]]) (Vif (decide (s_Hi < s_Lo)) (Q [[Cl.i (2 : Int)]]) (Q [[Cl.i (0 : Int)]])))
theorem vc_odd (W : InW) (s_Lo s_Hi lo hi Q) : bodyK (cxT Try.prog TT T1 1000 50) 1000 57 [.agg [.si .i64 s_Lo, .si .i64 s_Hi], .si .i64 lo, .si .i64 hi] [] 0 (leafK [(false, [.int .i64])] Q) (fun _ _ _ _ => Stuck 421) = VC_odd s_Lo s_Hi lo hi Q := by kernel_rfl
abbrev ats_odd : List AT := [.agg [.int .i64, .int .i64], .one (.int .i64), .one (.int .i64)]
theorem ok_odd {pre : DS → Prop} {res : DS → DS} (hyp_ : ∀ (W : InW) (s_Lo : Int) (s_Hi : Int) (lo : Int) (hi : Int), pre [[.i s_Lo, .i s_Hi], [.i lo], [.i hi]] → ∀ Q : DS → Prop, Q (res [[.i s_Lo, .i s_Hi], [.i lo], [.i hi]]) → VC_odd s_Lo s_Hi lo hi Q) : PureOk Try.prog 57 ats_odd [(false, [.int .i64])] pre res :=
  PureOk.of' (fun W => @TT W) (fun W => @TT_ok W) mixed_ok T1 1000 50 fun W s_Lo s_Hi lo hi hp =>
    (vc_odd W s_Lo s_Hi lo hi (fun o => o = res [[.i s_Lo, .i s_Hi], [.i lo], [.i hi]])).mpr (hyp_ W s_Lo s_Hi lo hi hp _ rfl)
abbrev res_span (ds : DS) : DS := match ds with | [[.i a, .i b], [.i lo], [.i hi]] => [[.i (Sp.spanE a b lo hi)]] | _ => []
theorem okrspan : PureOk Try.prog 60 ats_rspan [(false, [.int .i64])] (fun _ => True) res_span :=
  ok_rspan fun W a b lo hi _ Q h => by
    unfold VC_rspan
    simp only [res_span, Sp.spanE] at h
    refine ⟨trivial, vif (fun e => ?_) fun e => ⟨trivial, vif (fun e2 => ?_) fun e2 => vif (fun e3 => ?_) fun e3 => ?_⟩⟩
    all_goals ((repeat' split at h) <;> first | exact h | omega | (simp_all; done) | (simp_all; omega))
theorem okodd : PureOk Try.prog 57 ats_odd [(false, [.int .i64])] (fun _ => True) res_span :=
  ok_odd fun W a b lo hi _ Q h => by
    unfold VC_odd
    simp only [res_span, Sp.spanE] at h
    simp only [out2]
    refine ⟨trivial, vif (fun e => ?_) fun e => vif (fun e2 => ?_) fun e2 => ?_⟩
    all_goals ((repeat' split at h) <;> first | exact h | omega | (simp_all; done) | (simp_all; omega))
noncomputable def pc_rspan : PC Try.prog := ⟨60, ats_rspan, [(false, [.int .i64])], fun _ => True, res_span, okrspan⟩
noncomputable def pc_odd : PC Try.prog := ⟨57, ats_odd, [(false, [.int .i64])], fun _ => True, res_span, okodd⟩
def VC_lev [W : InW] (n : Int) (Q : DS → Prop) : Prop :=
  Q [[Cl.i (max (0 : Int) (min n (1000 : Int)))]]
theorem vc_lev (W : InW) (n Q) : bodyK (cxT Try.prog TT T1 1000 50) 1000 62 [.si .i64 n] [] 0 (leafK [(false, [.int .i64])] Q) (fun _ _ _ _ => Stuck 421) = VC_lev n Q := by kernel_rfl
abbrev ats_lev : List AT := [.one (.int .i64)]
theorem ok_lev {pre : DS → Prop} {res : DS → DS} (hyp_ : ∀ (W : InW) (n : Int), pre [[.i n]] → ∀ Q : DS → Prop, Q (res [[.i n]]) → VC_lev n Q) : PureOk Try.prog 62 ats_lev [(false, [.int .i64])] pre res :=
  PureOk.of' (fun W => @TT W) (fun W => @TT_ok W) mixed_ok T1 1000 50 fun W n hp =>
    (vc_lev W n (fun o => o = res [[.i n]])).mpr (hyp_ W n hp _ rfl)
def VC_Within [W : InW] (n : Int) (Q : DS → Prop) : Prop :=
  Q [[Cl.i (max (0 : Int) (min (1000 : Int) n))]]
theorem vc_Within (W : InW) (n Q) : bodyK (cxT Try.prog TT T1 1000 50) 1000 46 [.si .i64 n] [] 0 (leafK [(false, [.int .i64])] Q) (fun _ _ _ _ => Stuck 421) = VC_Within n Q := by kernel_rfl
abbrev ats_Within : List AT := [.one (.int .i64)]
theorem ok_Within {pre : DS → Prop} {res : DS → DS} (hyp_ : ∀ (W : InW) (n : Int), pre [[.i n]] → ∀ Q : DS → Prop, Q (res [[.i n]]) → VC_Within n Q) : PureOk Try.prog 46 ats_Within [(false, [.int .i64])] pre res :=
  PureOk.of' (fun W => @TT W) (fun W => @TT_ok W) mixed_ok T1 1000 50 fun W n hp =>
    (vc_Within W n (fun o => o = res [[.i n]])).mpr (hyp_ W n hp _ rfl)
abbrev res_lev (ds : DS) : DS := match ds with | [[.i n]] => [[.i (Sp.lev n)]] | _ => []
theorem oklev : PureOk Try.prog 62 ats_lev [(false, [.int .i64])] (fun _ => True) res_lev :=
  ok_lev fun W n _ Q h => by
    unfold VC_lev
    have e : max 0 (min n 1000) = Sp.lev n := by unfold Sp.lev; omega
    simpa [res_lev, e] using h
theorem okWithin : PureOk Try.prog 46 ats_Within [(false, [.int .i64])] (fun _ => True) res_lev :=
  ok_Within fun W n _ Q h => by
    unfold VC_Within
    have e : max 0 (min 1000 n) = Sp.lev n := by unfold Sp.lev; omega
    simpa [res_lev, e] using h
noncomputable def pc_lev : PC Try.prog := ⟨62, ats_lev, [(false, [.int .i64])], fun _ => True, res_lev, oklev⟩
noncomputable def pc_Within : PC Try.prog := ⟨46, ats_Within, [(false, [.int .i64])], fun _ => True, res_lev, okWithin⟩
noncomputable def T2 : Tab Try.prog := ⟨[pc_in, pc_out, pc_lev, pc_Within], [], []⟩
end Go.Proofs.Ytdokbocmgdhmmaa
namespace Go.Proofs.Ytdokbocmgdhmmaa
open Go.RowKit
set_option linter.unusedVariables false
set_option maxRecDepth 100000
set_option maxHeartbeats 1600000
abbrev tySkill : List Ty := [.str, .int .i64, .int .i64, .int .i64, .int .i64]
abbrev tyInstr : List Ty := [.str, .int .i64, .int .i64]
namespace Sp
def nm (xs : Dt) (i : Nat) : ByteArray := (cel xs i 0).str
def dup (xs : Dt) (name : ByteArray) : Nat → Nat → Bool
  | _, 0 => false
  | k, n + 1 => eqS (nm xs k) name || dup xs name (k + 1) n
def dupI (xs : Dt) (name : ByteArray) : Nat → Nat → Nat
  | k, 0 => k
  | k, n + 1 => if eqS (nm xs k) name = true then k else dupI xs name (k + 1) n
def NamesOk (xs : Dt) : Prop := ∀ i : Nat, (nm xs i).size ≤ 9223372036854775807
def nameErr (xs : Dt) (i : Nat) : Int := if Bk.nameOk (nm xs i) then (if dup xs (nm xs i) 0 i then 5 else 0) else 6
def gLo (sk : Dt) (i : Nat) : Int := (cel sk i 1).int
def gHi (sk : Dt) (i : Nat) : Int := (cel sk i 2).int
def fLo (sk : Dt) (i : Nat) : Int := (cel sk i 3).int
def fHi (sk : Dt) (i : Nat) : Int := (cel sk i 4).int
def bLo (is : Dt) (i : Nat) : Int := (cel is i 1).int
def bHi (is : Dt) (i : Nat) : Int := (cel is i 2).int
def skErr (sk : Dt) (i : Nat) : Int :=
  if nameErr sk i = 0 then
    (if inr (gLo sk i) 0 1000 && (inr (gHi sk i) 0 1000 && (inr (fLo sk i) 0 1000 && inr (fHi sk i) 0 1000)) then (if gHi sk i < gLo sk i ∨ fHi sk i < fLo sk i then 2 else 0) else 7)
  else nameErr sk i
def inErr (is : Dt) (i : Nat) : Int := if nameErr is i = 0 then spanE (bLo is i) (bHi is i) (-300) 300 else nameErr is i
def hasE (f : Nat → Int) : Nat → Nat → Bool
  | _, 0 => false
  | i, n + 1 => !decide (f i = 0) || hasE f (i + 1) n
def idxE (f : Nat → Int) : Nat → Nat → Nat
  | i, 0 => i
  | i, n + 1 => if f i = 0 then idxE f (i + 1) n else i
def check (sk is : Dt) : Int × Int × Int :=
  if !(inr sk.length 1 5) || decide (6 < (is.length : Int)) then (1, 0, 3)
  else if hasE (skErr sk) 0 sk.length then (2, idxE (skErr sk) 0 sk.length, skErr sk (idxE (skErr sk) 0 sk.length))
  else if hasE (inErr is) 0 is.length then (3, idxE (inErr is) 0 is.length, inErr is (idxE (inErr is) 0 is.length))
  else (0, 0, 0)
def chkP (sk is : Dt) : Int := (check sk is).1
def chkI (sk is : Dt) : Int := (check sk is).2.1
def chkE (sk is : Dt) : Int := (check sk is).2.2
def names (xs : Dt) (i : Nat) : Dt := (xs.take i).map fun r => [.s (r.getD 0 .z).str]
end Sp
theorem stepE [InW] {f : Nat → Int} {i n : Nat} {K1 : Nat → Int → Prop} {K0 : Prop} (h : Vif (Sp.hasE f i (n + 1)) (K1 (Sp.idxE f i (n + 1)) (f (Sp.idxE f i (n + 1)))) K0) :
    (f i ≠ 0 → K1 i (f i)) ∧ (f i = 0 → Vif (Sp.hasE f (i + 1) n) (K1 (Sp.idxE f (i + 1) n) (f (Sp.idxE f (i + 1) n))) K0) := by
  simp only [Sp.hasE, Sp.idxE] at h
  refine ⟨fun e => ?_, fun e => ?_⟩
  · have := h.1 (by simp [e])
    simpa [e] using this
  · simpa [e] using h
theorem cel_take {xs : Dt} {i k m : Nat} (h : i < m) : cel (xs.take m) i k = cel xs i k := by
  simp [cel, List.getElem?_take, h]
theorem dup_take {xs : Dt} {name : ByteArray} {m : Nat} : ∀ (n k : Nat), k + n ≤ m → Sp.dup (xs.take m) name k n = Sp.dup xs name k n
  | 0, _, _ => rfl
  | n + 1, k, h => by
    have h1 := @dup_take xs name m n (k + 1) (by omega)
    simp only [Sp.dup, Sp.nm, cel_take (show k < m by omega), h1]
theorem names_len {xs : Dt} {i : Nat} (h : i ≤ xs.length) : (Sp.names xs i).length = i := by simp [Sp.names]; omega
theorem names_succ {xs : Dt} {i : Nat} (h : i < xs.length) : Sp.names xs i ++ [[.s (Sp.nm xs i)]] = Sp.names xs (i + 1) := by
  unfold Sp.names
  rw [List.take_succ_eq_append_getElem h, List.map_append]
  simp only [List.map_cons, List.map_nil, Sp.nm, cel, List.getD_eq_getElem?_getD, List.getElem?_eq_getElem h, Option.getD_some]
theorem nm_names {xs : Dt} {i k : Nat} (h : k < i) (hi : i ≤ xs.length) : Sp.nm (Sp.names xs i) k = Sp.nm xs k := by
  have hk : k < xs.length := by omega
  simp [Sp.nm, Sp.names, cel, List.getElem?_take, h, List.getElem?_eq_getElem hk, Cl.str]
theorem dup_names {xs : Dt} {name : ByteArray} {m : Nat} (hm : m ≤ xs.length) : ∀ (n k : Nat), k + n ≤ m → Sp.dup (Sp.names xs m) name k n = Sp.dup xs name k n
  | 0, _, _ => rfl
  | n + 1, k, h => by
    have h1 := @dup_names xs name m hm n (k + 1) (by omega)
    simp only [Sp.dup, nm_names (show k < m by omega) hm, h1]
noncomputable def T3 : Tab Try.prog := ⟨[pc_in, pc_out, pc_rspan, pc_odd, pc_cName, pc_rName], [], []⟩
def sp_rnm [InW] (e : List Ed) (K : Nat → List Ed → Prop) : Prop := match e with
  | [.s name, .ro _ xs, .i k] => Pre (0 ≤ k ∧ k ≤ xs.xs.length) (Vif (Sp.dup xs.xs name k.toNat (xs.xs.length - k.toNat)) (K 1 []) (K 0 []))
  | _ => False
noncomputable def lc_rnm : LC where
  len := 21
  T := [(0, .str), (1, .rs [.str]), (5, .int .i64)]
  H := []
  W := [4, 9, 10, 11, 12, 13, 14, 15, 16, 17, 18, 19, 20]
  outs := [⟨.exit 0, [], [], [0, 1, 4, 5, 9, 10, 11, 12, 13, 14, 15, 16, 17, 18, 19, 20]⟩, ⟨.ret, [(4, (.lit (.int .i64 5)))], [], [0, 1, 5, 9, 10, 11, 12, 13, 14, 15, 16, 17, 18, 19, 20]⟩]
  spec := sp_rnm
def VCL_rnm [W : InW] (name : ByteArray) (xs : Ro [.str]) (k : Int) (A : List Ed → Prop) (K : Nat → List Ed → Prop) : Prop :=
  Vif (decide (k < (↑(xs.xs.length) : Int))) (Need (decide ((0 : Int) ≤ k) && decide (k < (↑(xs.xs.length) : Int))) (Need (decide (k.toNat < xs.xs.length)) (Vif (eqS (cel xs.xs k.toNat (0 : Nat)).str name) (K (0+1 : Nat) []) (Ar .i64 (k + (1 : Int)) fun z => A [.s name, .ro _ xs, .i z])))) (K (0 : Nat) [])
theorem vcl_rnm (W : InW) (name xs k A K) : vcTop { cxT Try.prog TT T3 1000 50 with fn := 59 } 1000 (loopAt Try.prog 59 5) (tmOut 21 [(0, .ss name), (1, .rs _ xs), (5, .si .i64 k)] [4, 9, 10, 11, 12, 13, 14, 15, 16, 17, 18, 19, 20]) [] (roundL lc_rnm A K) = VCL_rnm name xs k A K := by kernel_rfl
def okLt_rnm : Prop := ∀ (W : InW) (body a : Code), (Try.prog.funcs[59]?).bind (·.body) = some body → a ∈ loopsIn body → keyOf a = 5 → @LoopOk W Try.prog a (@loopRun W lc_rnm)
theorem okl_rnm (meas : [InW] → List Ed → Nat) (hyp_ : ∀ (W : InW) (name : ByteArray) (xs : Ro [.str]) (k : Int) (K : Nat → List Ed → Prop), sp_rnm [.s name, .ro _ xs, .i k] K → ∀ A : List Ed → Prop, (∀ e, meas e < meas [.s name, .ro _ xs, .i k] → sp_rnm e K → A e) → VCL_rnm name xs k A K) : okLt_rnm :=
  LE.okOf' (fun W => @TT W) (fun W => @TT_ok W) mixed_ok T3 1000 50 (by kernel_rfl) lc_rnm (fun W => @meas W) fun W name xs k K hs =>
    (vcl_rnm W name xs k (fun e => meas e < meas [.s name, .ro _ xs, .i k] ∧ sp_rnm e K) K).mpr (hyp_ W name xs k K hs _ fun e h1 h2 => ⟨h1, h2⟩)
theorem okLrnm : okLt_rnm := okl_rnm (fun e => match e with | [_, .ro _ xs, .i k] => (xs.xs.length - k).toNat | _ => 0) fun W name xs k K hs A hA => by
  obtain ⟨⟨h0, h1⟩, hk⟩ := hs
  unfold VCL_rnm
  have hm := xs.len
  simp only [maxLen] at hm
  refine vifd (fun e => ned (by simp; omega) (nedd (by omega) (vif (fun e2 => ?_) fun e2 => ar64 (by omega) (hA _ ?_ ?_)))) fun e => ?_
  · refine hk.1 ?_
    rw [show xs.xs.length - k.toNat = (xs.xs.length - (k.toNat + 1)) + 1 by omega]
    simp only [Sp.dup, Sp.nm, e2, Bool.true_or]
  · show (xs.xs.length - (k + 1)).toNat < (xs.xs.length - k).toNat
    omega
  · refine ⟨⟨by omega, by omega⟩, ?_⟩
    rw [show xs.xs.length - k.toNat = (xs.xs.length - (k.toNat + 1)) + 1 by omega] at hk
    simp only [Sp.dup, Sp.nm, e2, Bool.false_or] at hk
    rw [show (k + 1).toNat = k.toNat + 1 by omega]
    exact hk
  · refine hk.2 ?_
    rw [show xs.xs.length - k.toNat = 0 by omega]
    rfl
noncomputable def le_rnm : LE Try.prog := ⟨59, 5, fun W => @loopRun W lc_rnm, okLrnm⟩
noncomputable def T4 : Tab Try.prog := ⟨T3.pcs, [le_rnm], []⟩
def VC_named [W : InW] (s : ByteArray) (xs : Ro [.str]) (Q : DS → Prop) : Prop :=
  Pre (s.size ≤ (9223372036854775807 : Nat)) (Vif (!Bk.nameOk s) (Q [[Cl.i (6 : Int)]]) (Pre ((0 : Int) ≤ (0 : Int) ∧ (0 : Int) ≤ (↑(xs.xs.length) : Int)) (Vif (Sp.dup xs.xs s (Int.toNat (0 : Int)) (xs.xs.length - Int.toNat (0 : Int))) (Q [[Cl.i (5 : Int)]]) (Q [[Cl.i (0 : Int)]]))))
theorem vc_named (W : InW) (s xs Q) : bodyK (cxT Try.prog TT T4 1000 50) 1000 59 [.ss s, .rs _ xs] [] 0 (leafK [(false, [.int .i64])] Q) (fun _ _ _ _ => Stuck 421) = VC_named s xs Q := by kernel_rfl
abbrev ats_named : List AT := [.one (.str), .one (.sl [.str])]
theorem ok_named {pre : DS → Prop} {res : DS → DS} (hyp_ : ∀ (W : InW) (s : ByteArray) (xs : Ro [.str]), pre [[.s s], [.l xs.xs]] → ∀ Q : DS → Prop, Q (res [[.s s], [.l xs.xs]]) → VC_named s xs Q) : PureOk Try.prog 59 ats_named [(false, [.int .i64])] pre res :=
  PureOk.of' (fun W => @TT W) (fun W => @TT_ok W) mixed_ok T4 1000 50 fun W s xs hp =>
    (vc_named W s xs (fun o => o = res [[.s s], [.l xs.xs]])).mpr (hyp_ W s xs hp _ rfl)
namespace Sp
def namedE (s : ByteArray) (xs : Dt) : Int := if Bk.nameOk s then (if dup xs s 0 xs.length then 5 else 0) else 6
end Sp
abbrev res_named (ds : DS) : DS := match ds with | [[.s s], [.l xs]] => [[.i (Sp.namedE s xs)]] | _ => []
abbrev pre_named (ds : DS) : Prop := match ds with | [[.s s], _] => s.size ≤ 9223372036854775807 | _ => False
theorem oknamed : PureOk Try.prog 59 ats_named [(false, [.int .i64])] pre_named res_named :=
  ok_named fun W s xs hp Q h => by
    unfold VC_named
    simp only [res_named, Sp.namedE] at h
    refine ⟨hp, vif (fun e => ?_) fun e => ⟨by omega, ?_⟩⟩
    · simp_all
    rw [show Int.toNat 0 = 0 from rfl, Nat.sub_zero]
    refine vif (fun e2 => ?_) fun e2 => ?_ <;> simp_all
noncomputable def pc_named : PC Try.prog := ⟨59, ats_named, [(false, [.int .i64])], pre_named, res_named, oknamed⟩
noncomputable def T5 : Tab Try.prog := ⟨pc_named :: T3.pcs, [], []⟩
def sp_rcS [InW] (e : List Ed) (K : Nat → List Ed → Prop) : Prop := match e with
  | [.i i, .ro _ sk, .ro _ is, .l ns] => Pre (0 ≤ i ∧ i ≤ sk.xs.length ∧ sk.xs.length ≤ 5 ∧ Sp.NamesOk sk.xs ∧ ns = Sp.names sk.xs i.toNat) (Vif (Sp.hasE (Sp.skErr sk.xs) i.toNat (sk.xs.length - i.toNat))
      (K 1 [.i (Sp.idxE (Sp.skErr sk.xs) i.toNat (sk.xs.length - i.toNat)), .i (Sp.skErr sk.xs (Sp.idxE (Sp.skErr sk.xs) i.toNat (sk.xs.length - i.toNat)))]) (K 0 [.ro _ sk, .ro _ is]))
  | _ => False
noncomputable def lc_rcS : LC where
  len := 106
  T := [(1, (.ptr 1 0)), (5, (.row 6)), (6, .int .i64)]
  H := [(1, .blk 25 [.rs tySkill, .rs tyInstr]), (6, .arr 9 [.str])]
  W := [2, 3, 4, 7, 8, 9, 10, 25, 26, 27, 28, 29, 30, 31, 32, 33, 34, 35, 36, 37, 38, 39, 40, 41, 42, 43, 44, 45, 46, 47, 48, 49, 50, 51, 52, 53, 54, 55, 56, 57, 58, 59, 60, 61, 62, 63, 64, 65, 66, 67, 68, 69, 70, 71, 72, 73, 74, 75]
  outs := [⟨.exit 0, [(1, (.ptr 1 0))], [(1, .blk 25 [.rs tySkill, .rs tyInstr])], [2, 3, 4, 5, 6, 7, 8, 9, 10, 25, 26, 27, 28, 29, 30, 31, 32, 33, 34, 35, 36, 37, 38, 39, 40, 41, 42, 43, 44, 45, 46, 47, 48, 49, 50, 51, 52, 53, 54, 55, 56, 57, 58, 59, 60, 61, 62, 63, 64, 65, 66, 67, 68, 69, 70, 71, 72, 73, 74, 75]⟩, ⟨.ret, [(2, (.lit (.int .i64 2))), (3, .int .i64), (4, .int .i64)], [], [1, 5, 6, 7, 8, 9, 10, 25, 26, 27, 28, 29, 30, 31, 32, 33, 34, 35, 36, 37, 38, 39, 40, 41, 42, 43, 44, 45, 46, 47, 48, 49, 50, 51, 52, 53, 54, 55, 56, 57, 58, 59, 60, 61, 62, 63, 64, 65, 66, 67, 68, 69, 70, 71, 72, 73, 74, 75]⟩]
  spec := sp_rcS
def VCL_rcS [W : InW] (i : Int) (sk : Ro tySkill) (is : Ro tyInstr) (ns : Dt) (A : List Ed → Prop) (K : Nat → List Ed → Prop) : Prop :=
  Vif (decide (i < (↑(sk.xs.length) : Int))) (Need (decide ((0 : Int) ≤ i) && decide (i < (↑(sk.xs.length) : Int))) (Need (decide (i.toNat < sk.xs.length)) (Pre ((cel sk.xs i.toNat (0 : Nat)).str.size ≤ (9223372036854775807 : Nat)) (Need (decide ((ns.length + [[Cl.s (cel sk.xs i.toNat (0 : Nat)).str]].length) * (16 : Nat) ≤ (140737488355328 : Nat))) (Pre True (Pre True (Vif (decide (Sp.namedE (cel sk.xs i.toNat (0 : Nat)).str ns = (0 : Int))) (Vif (decide (Sp.spanE (cel sk.xs i.toNat (0+1 : Nat)).int (cel sk.xs i.toNat (0+1+1 : Nat)).int (0 : Int) (1000 : Int) = (7 : Int))) (K (0+1 : Nat) [.i i, .i (7 : Int)]) (Vif (decide (Sp.spanE (cel sk.xs i.toNat (0+1+1+1 : Nat)).int (cel sk.xs i.toNat (0+1+1+1+1 : Nat)).int (0 : Int) (1000 : Int) = (7 : Int))) (K (0+1 : Nat) [.i i, .i (7 : Int)]) (Vif (decide (Sp.namedE (cel sk.xs i.toNat (0 : Nat)).str ns = (0 : Int))) (Vif (!decide (Sp.spanE (cel sk.xs i.toNat (0+1 : Nat)).int (cel sk.xs i.toNat (0+1+1 : Nat)).int (0 : Int) (1000 : Int) = (0 : Int))) (K (0+1 : Nat) [.i i, .i (2 : Int)]) (Vif (!decide (Sp.spanE (cel sk.xs i.toNat (0+1+1+1 : Nat)).int (cel sk.xs i.toNat (0+1+1+1+1 : Nat)).int (0 : Int) (1000 : Int) = (0 : Int))) (K (0+1 : Nat) [.i i, .i (2 : Int)]) (Vif (!decide (Sp.namedE (cel sk.xs i.toNat (0 : Nat)).str ns = (0 : Int))) (K (0+1 : Nat) [.i i, .i (Sp.namedE (cel sk.xs i.toNat (0 : Nat)).str ns)]) (Ar .i64 (i + (1 : Int)) fun z => A [.i z, .ro _ sk, .ro _ is, .l (ns ++ [[Cl.s (cel sk.xs i.toNat (0 : Nat)).str]])])))) (Vif (!decide (Sp.namedE (cel sk.xs i.toNat (0 : Nat)).str ns = (0 : Int))) (K (0+1 : Nat) [.i i, .i (Sp.namedE (cel sk.xs i.toNat (0 : Nat)).str ns)]) (Ar .i64 (i + (1 : Int)) fun z => A [.i z, .ro _ sk, .ro _ is, .l (ns ++ [[Cl.s (cel sk.xs i.toNat (0 : Nat)).str]])]))))) (Vif (decide (Sp.namedE (cel sk.xs i.toNat (0 : Nat)).str ns = (0 : Int))) (Vif (!decide (Sp.spanE (cel sk.xs i.toNat (0+1 : Nat)).int (cel sk.xs i.toNat (0+1+1 : Nat)).int (0 : Int) (1000 : Int) = (0 : Int))) (K (0+1 : Nat) [.i i, .i (2 : Int)]) (Vif (!decide (Sp.spanE (cel sk.xs i.toNat (0+1+1+1 : Nat)).int (cel sk.xs i.toNat (0+1+1+1+1 : Nat)).int (0 : Int) (1000 : Int) = (0 : Int))) (K (0+1 : Nat) [.i i, .i (2 : Int)]) (Vif (!decide (Sp.namedE (cel sk.xs i.toNat (0 : Nat)).str ns = (0 : Int))) (K (0+1 : Nat) [.i i, .i (Sp.namedE (cel sk.xs i.toNat (0 : Nat)).str ns)]) (Ar .i64 (i + (1 : Int)) fun z => A [.i z, .ro _ sk, .ro _ is, .l (ns ++ [[Cl.s (cel sk.xs i.toNat (0 : Nat)).str]])])))) (Vif (!decide (Sp.namedE (cel sk.xs i.toNat (0 : Nat)).str ns = (0 : Int))) (K (0+1 : Nat) [.i i, .i (Sp.namedE (cel sk.xs i.toNat (0 : Nat)).str ns)]) (Ar .i64 (i + (1 : Int)) fun z => A [.i z, .ro _ sk, .ro _ is, .l (ns ++ [[Cl.s (cel sk.xs i.toNat (0 : Nat)).str]])])))))))))) (K (0 : Nat) [.ro _ sk, .ro _ is])
theorem vcl_rcS (W : InW) (i sk is ns A K) : vcTop { cxT Try.prog TT T5 1000 50 with fn := 19 } 1000 (loopAt Try.prog 19 6) (tmOut 106 [(1, .ptr 1 0), (5, .rw 6), (6, .si .i64 i)] [2, 3, 4, 7, 8, 9, 10, 25, 26, 27, 28, 29, 30, 31, 32, 33, 34, 35, 36, 37, 38, 39, 40, 41, 42, 43, 44, 45, 46, 47, 48, 49, 50, 51, 52, 53, 54, 55, 56, 57, 58, 59, 60, 61, 62, 63, 64, 65, 66, 67, 68, 69, 70, 71, 72, 73, 74, 75]) [(1, .blk 25 [.rs _ sk, .rs _ is]), (6, .arr 9 [.str] ns)] (roundL lc_rcS A K) = VCL_rcS i sk is ns A K := by kernel_rfl
def okLt_rcS : Prop := ∀ (W : InW) (body a : Code), (Try.prog.funcs[19]?).bind (·.body) = some body → a ∈ loopsIn body → keyOf a = 6 → @LoopOk W Try.prog a (@loopRun W lc_rcS)
theorem okl_rcS (meas : [InW] → List Ed → Nat) (hyp_ : ∀ (W : InW) (i : Int) (sk : Ro tySkill) (is : Ro tyInstr) (ns : Dt) (K : Nat → List Ed → Prop), sp_rcS [.i i, .ro _ sk, .ro _ is, .l ns] K → ∀ A : List Ed → Prop, (∀ e, meas e < meas [.i i, .ro _ sk, .ro _ is, .l ns] → sp_rcS e K → A e) → VCL_rcS i sk is ns A K) : okLt_rcS :=
  LE.okOf' (fun W => @TT W) (fun W => @TT_ok W) mixed_ok T5 1000 50 (by kernel_rfl) lc_rcS (fun W => @meas W) fun W i sk is ns K hs =>
    (vcl_rcS W i sk is ns (fun e => meas e < meas [.i i, .ro _ sk, .ro _ is, .l ns] ∧ sp_rcS e K) K).mpr (hyp_ W i sk is ns K hs _ fun e h1 h2 => ⟨h1, h2⟩)
theorem named_name {xs : Dt} {i : Nat} (hi : i < xs.length) : Sp.namedE (Sp.nm xs i) (Sp.names xs i) = Sp.nameErr xs i := by
  unfold Sp.namedE Sp.nameErr
  rw [names_len (by omega), dup_names (by omega) _ _ (by omega)]
theorem skErr_span (sk : Dt) (i : Nat) : Sp.skErr sk i = if Sp.nameErr sk i = 0 then (if Sp.spanE (cel sk i 1).int (cel sk i 2).int 0 1000 = 7 ∨ Sp.spanE (cel sk i 3).int (cel sk i 4).int 0 1000 = 7 then 7 else if Sp.spanE (cel sk i 1).int (cel sk i 2).int 0 1000 ≠ 0 ∨ Sp.spanE (cel sk i 3).int (cel sk i 4).int 0 1000 ≠ 0 then 2 else 0) else Sp.nameErr sk i := by
  unfold Sp.skErr Sp.gLo Sp.gHi Sp.fLo Sp.fHi
  by_cases hn : Sp.nameErr sk i = 0
  · rw [if_pos hn, if_pos hn]
    unfold Sp.spanE
    generalize Sp.inr (cel sk i 1).int 0 1000 = a
    generalize Sp.inr (cel sk i 2).int 0 1000 = b
    generalize Sp.inr (cel sk i 3).int 0 1000 = c
    generalize Sp.inr (cel sk i 4).int 0 1000 = d
    cases a <;> cases b <;> cases c <;> cases d <;> simp only [Bool.and_true, Bool.and_false, Bool.false_and, Bool.true_and, if_true, if_false, Bool.false_eq_true, true_or, or_true] <;> (repeat' split) <;> first | rfl | omega
  · rw [if_neg hn, if_neg hn]
theorem okLrcS : okLt_rcS := okl_rcS (fun e => match e with | .i i :: .ro _ sk :: _ => (sk.xs.length - i).toNat | _ => 0) fun W i sk is ns K hs A hA => by
  obtain ⟨⟨h0, h1, h5, hn, rfl⟩, hk⟩ := hs
  unfold VCL_rcS
  refine vifd (fun e => ?_) fun e => ?_
  · rw [show sk.xs.length - i.toNat = (sk.xs.length - (i.toNat + 1)) + 1 by omega] at hk
    obtain ⟨g1, g2⟩ := stepE (K1 := fun j e => K 1 [.i j, .i e]) hk
    rw [Int.toNat_of_nonneg h0] at g1
    have ez : (i + 1).toNat = i.toNat + 1 := by omega
    have hE := named_name (xs := sk.xs) (i := i.toNat) (by omega)
    have hA' : Sp.skErr sk.xs i.toNat = 0 → A [.i (i + 1), .ro _ sk, .ro _ is, .l (Sp.names sk.xs i.toNat ++ [[.s (Sp.nm sk.xs i.toNat)]])] := fun f => hA _ (by show ((sk.xs.length : Int) - (i + 1)).toNat < ((sk.xs.length : Int) - i).toNat; omega) ⟨⟨by omega, by omega, h5, hn, by rw [ez]; exact names_succ (by omega)⟩, by rw [ez]; exact g2 f⟩
    have bad : ∀ n, Sp.skErr sk.xs i.toNat = n → n ≠ 0 → K 1 [.i i, .i n] := fun n hn h => by rw [← hn]; exact g1 (by rw [hn]; exact h)
    have hs := hn i.toNat
    have eS := Lib.hid (skErr_span sk.xs i.toNat)
    have hlen := names_len (xs := sk.xs) (i := i.toNat) (by omega)
    clear g1 g2 hk hA hn
    simp only [Nat.zero_add, Nat.reduceAdd, List.length_cons, List.length_nil, hlen]
    simp only [show (cel sk.xs i.toNat 0).str = Sp.nm sk.xs i.toNat from rfl, hE]
    generalize Sp.spanE (cel sk.xs i.toNat 1).int (cel sk.xs i.toNat 2).int 0 1000 = S at *
    generalize Sp.spanE (cel sk.xs i.toNat 3).int (cel sk.xs i.toNat 4).int 0 1000 = T at *
    generalize Sp.nameErr sk.xs i.toNat = E at *
    generalize Sp.skErr sk.xs i.toNat = F at *
    repeat' (first | omega | with_reducible refine vifd (fun _ => ?_) fun _ => ?_ | with_reducible refine vifn (fun _ => ?_) fun _ => ?_ | with_reducible refine vifq (fun _ => ?_) fun _ => ?_ | with_reducible refine vifq0 (fun _ => ?_) fun _ => ?_ | with_reducible refine vifq1 (fun _ => ?_) fun _ => ?_ | with_reducible refine vifb (fun _ => ?_) fun _ => ?_ | with_reducible refine vif (fun _ => ?_) fun _ => ?_ | (with_reducible refine nedd ?_ ?_; omega) | (with_reducible refine ned ?_ ?_; simp only [Bool.and_eq_true, decide_eq_true_eq]; omega) | (with_reducible refine ar64 ?_ ?_; omega) | (with_reducible refine pre_of ?_ ?_; (first | trivial | omega | assumption | (refine ⟨?_, ?_⟩ <;> first | trivial | omega | assumption) | (refine ⟨?_, ?_, ?_⟩ <;> first | trivial | omega | assumption) | (refine ⟨?_, ?_, ?_, ?_⟩ <;> first | trivial | omega | assumption))))
    all_goals first | exact bad _ (by rw [eS.out]; (repeat' split) <;> omega) (by omega) | exact hA' (by rw [eS.out]; (repeat' split) <;> omega)
  · rw [show sk.xs.length - i.toNat = 0 by omega] at hk
    exact hk.2 rfl
noncomputable def le_rcS : LE Try.prog := ⟨19, 6, fun W => @loopRun W lc_rcS, okLrcS⟩
def sp_rcI [InW] (e : List Ed) (K : Nat → List Ed → Prop) : Prop := match e with
  | [.i i, .ro _ sk, .ro _ is, .l ns] => Pre (0 ≤ i ∧ i ≤ is.xs.length ∧ is.xs.length ≤ 6 ∧ Sp.NamesOk is.xs ∧ ns = Sp.names is.xs i.toNat) (Vif (Sp.hasE (Sp.inErr is.xs) i.toNat (is.xs.length - i.toNat))
      (K 1 [.i (Sp.idxE (Sp.inErr is.xs) i.toNat (is.xs.length - i.toNat)), .i (Sp.inErr is.xs (Sp.idxE (Sp.inErr is.xs) i.toNat (is.xs.length - i.toNat)))]) (K 0 []))
  | _ => False
noncomputable def lc_rcI : LC where
  len := 106
  T := [(1, (.ptr 1 0)), (5, (.row 6)), (11, .int .i64)]
  H := [(1, .blk 25 [.rs tySkill, .rs tyInstr]), (6, .arr 9 [.str])]
  W := [2, 3, 4, 12, 13, 76, 77, 78, 79, 80, 81, 82, 83, 84, 85, 86, 87, 88, 89, 90, 91, 92, 93, 94, 95, 96, 97, 98, 99, 100, 101, 102, 103, 104, 105]
  outs := [⟨.exit 2, [], [], [1, 2, 3, 4, 5, 11, 12, 13, 76, 77, 78, 79, 80, 81, 82, 83, 84, 85, 86, 87, 88, 89, 90, 91, 92, 93, 94, 95, 96, 97, 98, 99, 100, 101, 102, 103, 104, 105]⟩, ⟨.ret, [(2, (.lit (.int .i64 3))), (3, .int .i64), (4, .int .i64)], [], [1, 5, 11, 12, 13, 76, 77, 78, 79, 80, 81, 82, 83, 84, 85, 86, 87, 88, 89, 90, 91, 92, 93, 94, 95, 96, 97, 98, 99, 100, 101, 102, 103, 104, 105]⟩]
  spec := sp_rcI
def VCL_rcI [W : InW] (i : Int) (sk : Ro tySkill) (is : Ro tyInstr) (ns : Dt) (A : List Ed → Prop) (K : Nat → List Ed → Prop) : Prop :=
  Vif (decide (i < (↑(is.xs.length) : Int))) (Need (decide ((0 : Int) ≤ i) && decide (i < (↑(is.xs.length) : Int))) (Need (decide (i.toNat < is.xs.length)) (Pre ((cel is.xs i.toNat (0 : Nat)).str.size ≤ (9223372036854775807 : Nat)) (Need (decide ((ns.length + [[Cl.s (cel is.xs i.toNat (0 : Nat)).str]].length) * (16 : Nat) ≤ (140737488355328 : Nat))) (Vif (decide (Sp.namedE (cel is.xs i.toNat (0 : Nat)).str ns = (0 : Int))) (Pre True (Vif (!decide (Sp.spanE (cel is.xs i.toNat (0+1 : Nat)).int (cel is.xs i.toNat (0+1+1 : Nat)).int (-300 : Int) (300 : Int) = (0 : Int))) (K (0+1 : Nat) [.i i, .i (Sp.spanE (cel is.xs i.toNat (0+1 : Nat)).int (cel is.xs i.toNat (0+1+1 : Nat)).int (-300 : Int) (300 : Int))]) (Ar .i64 (i + (1 : Int)) fun z => A [.i z, .ro _ sk, .ro _ is, .l (ns ++ [[Cl.s (cel is.xs i.toNat (0 : Nat)).str]])]))) (Vif (!decide (Sp.namedE (cel is.xs i.toNat (0 : Nat)).str ns = (0 : Int))) (K (0+1 : Nat) [.i i, .i (Sp.namedE (cel is.xs i.toNat (0 : Nat)).str ns)]) (Ar .i64 (i + (1 : Int)) fun z => A [.i z, .ro _ sk, .ro _ is, .l (ns ++ [[Cl.s (cel is.xs i.toNat (0 : Nat)).str]])]))))))) (K (0 : Nat) [])
theorem vcl_rcI (W : InW) (i sk is ns A K) : vcTop { cxT Try.prog TT T5 1000 50 with fn := 19 } 1000 (loopAt Try.prog 19 20) (tmOut 106 [(1, .ptr 1 0), (5, .rw 6), (11, .si .i64 i)] [2, 3, 4, 12, 13, 76, 77, 78, 79, 80, 81, 82, 83, 84, 85, 86, 87, 88, 89, 90, 91, 92, 93, 94, 95, 96, 97, 98, 99, 100, 101, 102, 103, 104, 105]) [(1, .blk 25 [.rs _ sk, .rs _ is]), (6, .arr 9 [.str] ns)] (roundL lc_rcI A K) = VCL_rcI i sk is ns A K := by kernel_rfl
def okLt_rcI : Prop := ∀ (W : InW) (body a : Code), (Try.prog.funcs[19]?).bind (·.body) = some body → a ∈ loopsIn body → keyOf a = 20 → @LoopOk W Try.prog a (@loopRun W lc_rcI)
theorem okl_rcI (meas : [InW] → List Ed → Nat) (hyp_ : ∀ (W : InW) (i : Int) (sk : Ro tySkill) (is : Ro tyInstr) (ns : Dt) (K : Nat → List Ed → Prop), sp_rcI [.i i, .ro _ sk, .ro _ is, .l ns] K → ∀ A : List Ed → Prop, (∀ e, meas e < meas [.i i, .ro _ sk, .ro _ is, .l ns] → sp_rcI e K → A e) → VCL_rcI i sk is ns A K) : okLt_rcI :=
  LE.okOf' (fun W => @TT W) (fun W => @TT_ok W) mixed_ok T5 1000 50 (by kernel_rfl) lc_rcI (fun W => @meas W) fun W i sk is ns K hs =>
    (vcl_rcI W i sk is ns (fun e => meas e < meas [.i i, .ro _ sk, .ro _ is, .l ns] ∧ sp_rcI e K) K).mpr (hyp_ W i sk is ns K hs _ fun e h1 h2 => ⟨h1, h2⟩)
theorem okLrcI : okLt_rcI := okl_rcI (fun e => match e with | .i i :: _ :: .ro _ is :: _ => (is.xs.length - i).toNat | _ => 0) fun W i sk is ns K hs A hA => by
  obtain ⟨⟨h0, h1, h5, hn, rfl⟩, hk⟩ := hs
  unfold VCL_rcI
  refine vifd (fun e => ?_) fun e => ?_
  · rw [show is.xs.length - i.toNat = (is.xs.length - (i.toNat + 1)) + 1 by omega] at hk
    obtain ⟨g1, g2⟩ := stepE (K1 := fun j e => K 1 [.i j, .i e]) hk
    rw [Int.toNat_of_nonneg h0] at g1
    have ez : (i + 1).toNat = i.toNat + 1 := by omega
    have hE := named_name (xs := is.xs) (i := i.toNat) (by omega)
    have hA' : Sp.inErr is.xs i.toNat = 0 → A [.i (i + 1), .ro _ sk, .ro _ is, .l (Sp.names is.xs i.toNat ++ [[.s (Sp.nm is.xs i.toNat)]])] := fun f => hA _ (by show ((is.xs.length : Int) - (i + 1)).toNat < ((is.xs.length : Int) - i).toNat; omega) ⟨⟨by omega, by omega, h5, hn, by rw [ez]; exact names_succ (by omega)⟩, by rw [ez]; exact g2 f⟩
    have bad : ∀ n, Sp.inErr is.xs i.toNat = n → n ≠ 0 → K 1 [.i i, .i n] := fun n hn h => by rw [← hn]; exact g1 (by rw [hn]; exact h)
    have hs := hn i.toNat
    have eS := Lib.hid (show Sp.inErr is.xs i.toNat = if Sp.nameErr is.xs i.toNat = 0 then Sp.spanE (cel is.xs i.toNat 1).int (cel is.xs i.toNat 2).int (-300) 300 else Sp.nameErr is.xs i.toNat from rfl)
    have hlen := names_len (xs := is.xs) (i := i.toNat) (by omega)
    clear g1 g2 hk hA hn
    simp only [Nat.zero_add, Nat.reduceAdd, List.length_cons, List.length_nil, hlen]
    simp only [show (cel is.xs i.toNat 0).str = Sp.nm is.xs i.toNat from rfl, hE]
    generalize Sp.spanE (cel is.xs i.toNat 1).int (cel is.xs i.toNat 2).int (-300) 300 = S at *
    generalize Sp.nameErr is.xs i.toNat = E at *
    generalize Sp.inErr is.xs i.toNat = F at *
    repeat' (first | omega | with_reducible refine vifd (fun _ => ?_) fun _ => ?_ | with_reducible refine vifn (fun _ => ?_) fun _ => ?_ | with_reducible refine vifq (fun _ => ?_) fun _ => ?_ | with_reducible refine vifq0 (fun _ => ?_) fun _ => ?_ | with_reducible refine vifq1 (fun _ => ?_) fun _ => ?_ | with_reducible refine vifb (fun _ => ?_) fun _ => ?_ | with_reducible refine vif (fun _ => ?_) fun _ => ?_ | (with_reducible refine nedd ?_ ?_; omega) | (with_reducible refine ned ?_ ?_; simp only [Bool.and_eq_true, decide_eq_true_eq]; omega) | (with_reducible refine ar64 ?_ ?_; omega) | (with_reducible refine pre_of ?_ ?_; (first | trivial | omega | assumption | (refine ⟨?_, ?_⟩ <;> first | trivial | omega | assumption) | (refine ⟨?_, ?_, ?_⟩ <;> first | trivial | omega | assumption) | (refine ⟨?_, ?_, ?_, ?_⟩ <;> first | trivial | omega | assumption))))
    all_goals first | exact bad _ (by rw [eS.out]; (repeat' split) <;> omega) (by omega) | exact hA' (by rw [eS.out]; (repeat' split) <;> omega)
  · rw [show is.xs.length - i.toNat = 0 by omega] at hk
    exact hk.2 rfl
noncomputable def le_rcI : LE Try.prog := ⟨19, 20, fun W => @loopRun W lc_rcI, okLrcI⟩
noncomputable def T6 : Tab Try.prog := ⟨T5.pcs, [le_rcS, le_rcI], []⟩
def VC_Check [W : InW] (s_Skills : Ro tySkill) (s_Instrs : Ro tyInstr) (Q : DS → Prop) : Prop :=
  Pre True (Vif (!Sp.inr (↑(s_Skills.xs.length) : Int) (1 : Int) (5 : Int)) (Q [[Cl.i (1 : Int)], [Cl.i (0 : Int)], [Cl.i (3 : Int)]]) (Vif (decide ((6 : Int) < (↑(s_Instrs.xs.length) : Int))) (Q [[Cl.i (1 : Int)], [Cl.i (0 : Int)], [Cl.i (3 : Int)]]) (Pre ((0 : Int) ≤ (0 : Int) ∧ (0 : Int) ≤ (↑(s_Skills.xs.length) : Int) ∧ s_Skills.xs.length ≤ (5 : Nat) ∧ Sp.NamesOk s_Skills.xs ∧ [] = Sp.names s_Skills.xs (Int.toNat (0 : Int))) (Vif (Sp.hasE (Sp.skErr s_Skills.xs) (Int.toNat (0 : Int)) (s_Skills.xs.length - Int.toNat (0 : Int))) (Q [[Cl.i (2 : Int)], [Cl.i (↑(Sp.idxE (Sp.skErr s_Skills.xs) (Int.toNat (0 : Int)) (s_Skills.xs.length - Int.toNat (0 : Int))) : Int)], [Cl.i (Sp.skErr s_Skills.xs (Sp.idxE (Sp.skErr s_Skills.xs) (Int.toNat (0 : Int)) (s_Skills.xs.length - Int.toNat (0 : Int))))]]) (Pre ((0 : Int) ≤ (0 : Int) ∧ (0 : Int) ≤ (↑(s_Instrs.xs.length) : Int) ∧ s_Instrs.xs.length ≤ (6 : Nat) ∧ Sp.NamesOk s_Instrs.xs ∧ [] = Sp.names s_Instrs.xs (Int.toNat (0 : Int))) (Vif (Sp.hasE (Sp.inErr s_Instrs.xs) (Int.toNat (0 : Int)) (s_Instrs.xs.length - Int.toNat (0 : Int))) (Q [[Cl.i (3 : Int)], [Cl.i (↑(Sp.idxE (Sp.inErr s_Instrs.xs) (Int.toNat (0 : Int)) (s_Instrs.xs.length - Int.toNat (0 : Int))) : Int)], [Cl.i (Sp.inErr s_Instrs.xs (Sp.idxE (Sp.inErr s_Instrs.xs) (Int.toNat (0 : Int)) (s_Instrs.xs.length - Int.toNat (0 : Int))))]]) (Q [[Cl.i (0 : Int)], [Cl.i (0 : Int)], [Cl.i (0 : Int)]])))))))
theorem vc_Check (W : InW) (s_Skills s_Instrs Q) : bodyK (cxT Try.prog TT T6 1000 50) 1000 19 [.agg [.rs _ s_Skills, .rs _ s_Instrs]] [] 0 (leafK [(false, [.int .i64]), (false, [.int .i64]), (false, [.int .i64])] Q) (fun _ _ _ _ => Stuck 421) = VC_Check s_Skills s_Instrs Q := by kernel_rfl
abbrev ats_Check : List AT := [.agg [.sl tySkill, .sl tyInstr]]
theorem ok_Check {pre : DS → Prop} {res : DS → DS} (hyp_ : ∀ (W : InW) (s_Skills : Ro tySkill) (s_Instrs : Ro tyInstr), pre [[.l s_Skills.xs, .l s_Instrs.xs]] → ∀ Q : DS → Prop, Q (res [[.l s_Skills.xs, .l s_Instrs.xs]]) → VC_Check s_Skills s_Instrs Q) : PureOk Try.prog 19 ats_Check [(false, [.int .i64]), (false, [.int .i64]), (false, [.int .i64])] pre res :=
  PureOk.of' (fun W => @TT W) (fun W => @TT_ok W) mixed_ok T6 1000 50 fun W s_Skills s_Instrs hp =>
    (vc_Check W s_Skills s_Instrs (fun o => o = res [[.l s_Skills.xs, .l s_Instrs.xs]])).mpr (hyp_ W s_Skills s_Instrs hp _ rfl)
abbrev res_Check (ds : DS) : DS := match ds with | [[.l sk, .l is]] => [[.i (Sp.chkP sk is)], [.i (Sp.chkI sk is)], [.i (Sp.chkE sk is)]] | _ => []
abbrev pre_Check (ds : DS) : Prop := match ds with | [[.l sk, .l is]] => Sp.NamesOk sk ∧ Sp.NamesOk is | _ => False
theorem inr_iff {n lo hi : Int} : Sp.inr n lo hi = true ↔ lo ≤ n ∧ n ≤ hi := by simp [Sp.inr]
theorem inr_ff {n lo hi : Int} : Sp.inr n lo hi = false ↔ n < lo ∨ hi < n := by simp [Sp.inr]; omega
theorem okCheck : PureOk Try.prog 19 ats_Check [(false, [.int .i64]), (false, [.int .i64]), (false, [.int .i64])] pre_Check res_Check :=
  ok_Check fun W sk is hp Q h => by
    obtain ⟨h1, h2⟩ := hp
    unfold VC_Check
    simp only [res_Check, Sp.chkP, Sp.chkI, Sp.chkE, Sp.check] at h
    rw [show Int.toNat 0 = 0 from rfl, Nat.sub_zero, Nat.sub_zero]
    refine ⟨trivial, vifb (fun e1 => ?_) fun e1 => vifd (fun e2 => ?_) fun e2 => ?_⟩
    · simp_all
    · simp_all
    · have i1 := inr_iff.1 e1
      refine ⟨⟨by omega, by omega, by omega, h1, rfl⟩, vif (fun e3 => ?_) fun e3 => ⟨⟨by omega, by omega, by omega, h2, rfl⟩, vif (fun e4 => ?_) fun e4 => ?_⟩⟩ <;> clear h1 h2 <;> simp_all
noncomputable def pc_Check : PC Try.prog := ⟨19, ats_Check, [(false, [.int .i64]), (false, [.int .i64]), (false, [.int .i64])], pre_Check, res_Check, okCheck⟩
end Go.Proofs.Ytdokbocmgdhmmaa
namespace Go.Proofs.Ytdokbocmgdhmmaa
open Go.RowKit
set_option linter.unusedVariables false
set_option maxRecDepth 100000
set_option maxHeartbeats 1600000
def sp_nm [InW] (e : List Ed) (K : Nat → List Ed → Prop) : Prop := match e with
  | [.ro _ xs, .i n, .i i, .s last] => Pre (n = (xs.xs.length : Int) ∧ 0 ≤ i ∧ i ≤ n) (Vif (Sp.dup xs.xs last i.toNat (xs.xs.length - i.toNat)) (K 1 [.i (Sp.dupI xs.xs last i.toNat (xs.xs.length - i.toNat)), .s last]) (K 0 [.s last]))
  | _ => False
abbrev sp_nmS [InW] := sp_nm
abbrev sp_nmI [InW] := sp_nm
noncomputable def lc_nmS : LC where
  len := 19
  T := [(0, .rs [.str, .int .i64, .int .i64, .int .i64, .int .i64]), (1, (.fn (.func 54) [] [(.ptr 4 0)])), (7, .int .i64), (8, .int .i64)]
  H := [(4, .blk 76 [.str, (.opq 7), (.opq 10), (.opq 13), (.opq 16)])]
  W := [4, 5, 9, 10, 11, 12, 13, 14, 15, 16, 17, 18]
  outs := [⟨.exit 0, [(1, (.fn (.func 54) [] [(.ptr 4 0)]))], [(4, .blk 76 [.str, (.opq 7), (.opq 10), (.opq 13), (.opq 16)])], [0, 4, 5, 7, 8, 9, 10, 11, 12, 13, 14, 15, 16, 17, 18]⟩, ⟨.ret, [(1, (.fn (.func 54) [] [(.ptr 4 0)])), (4, .int .i64)], [(4, .blk 76 [.str, (.opq 7), (.opq 10), (.opq 13), (.opq 16)])], [0, 5, 7, 8, 9, 10, 11, 12, 13, 14, 15, 16, 17, 18]⟩]
  spec := sp_nmS
def VCL_nmS [W : InW] (xs : Ro [.str, .int .i64, .int .i64, .int .i64, .int .i64]) (n i : Int) (last : ByteArray) (A : List Ed → Prop) (K : Nat → List Ed → Prop) : Prop :=
  Vif (decide (i < n)) (Need (decide ((0 : Int) ≤ i) && decide (i < (↑(xs.xs.length) : Int))) (Need (decide (i.toNat < xs.xs.length)) (Vif (eqS (cel xs.xs i.toNat (0 : Nat)).str last) (K (0+1 : Nat) [.i i, .s last]) (Ar .i64 (i + (1 : Int)) fun z => A [.ro _ xs, .i n, .i z, .s last])))) (K (0 : Nat) [.s last])
theorem vcl_nmS (W : InW) (xs n i last A K) : vcTop { cxT Try.prog TT T3 1000 50 with fn := 92 } 1000 (loopAt Try.prog 92 3) (tmOut 19 [(0, .rs _ xs), (1, .fn (.func 54) [] [.ptr 4 0]), (7, .si .i64 n), (8, .si .i64 i)] [4, 5, 9, 10, 11, 12, 13, 14, 15, 16, 17, 18]) [(4, .blk 76 [.ss last, .opq 7, .opq 10, .opq 13, .opq 16])] (roundL lc_nmS A K) = VCL_nmS xs n i last A K := by kernel_rfl
def okLt_nmS : Prop := ∀ (W : InW) (body a : Code), (Try.prog.funcs[92]?).bind (·.body) = some body → a ∈ loopsIn body → keyOf a = 3 → @LoopOk W Try.prog a (@loopRun W lc_nmS)
theorem okl_nmS (meas : [InW] → List Ed → Nat) (hyp_ : ∀ (W : InW) (xs : Ro [.str, .int .i64, .int .i64, .int .i64, .int .i64]) (n : Int) (i : Int) (last : ByteArray) (K : Nat → List Ed → Prop), sp_nmS [.ro _ xs, .i n, .i i, .s last] K → ∀ A : List Ed → Prop, (∀ e, meas e < meas [.ro _ xs, .i n, .i i, .s last] → sp_nmS e K → A e) → VCL_nmS xs n i last A K) : okLt_nmS :=
  LE.okOf' (fun W => @TT W) (fun W => @TT_ok W) mixed_ok T3 1000 50 (by kernel_rfl) lc_nmS (fun W => @meas W) fun W xs n i last K hs =>
    (vcl_nmS W xs n i last (fun e => meas e < meas [.ro _ xs, .i n, .i i, .s last] ∧ sp_nmS e K) K).mpr (hyp_ W xs n i last K hs _ fun e h1 h2 => ⟨h1, h2⟩)
noncomputable def lc_nmI : LC where
  len := 19
  T := [(0, .rs [.str, .int .i64, .int .i64]), (1, (.fn (.func 56) [] [(.ptr 4 0)])), (7, .int .i64), (8, .int .i64)]
  H := [(4, .blk 81 [.str, (.opq 7), (.opq 10)])]
  W := [4, 5, 9, 10, 11, 12, 13, 14, 15, 16, 17, 18]
  outs := [⟨.exit 0, [(1, (.fn (.func 56) [] [(.ptr 4 0)]))], [(4, .blk 81 [.str, (.opq 7), (.opq 10)])], [0, 4, 5, 7, 8, 9, 10, 11, 12, 13, 14, 15, 16, 17, 18]⟩, ⟨.ret, [(1, (.fn (.func 56) [] [(.ptr 4 0)])), (4, .int .i64)], [(4, .blk 81 [.str, (.opq 7), (.opq 10)])], [0, 5, 7, 8, 9, 10, 11, 12, 13, 14, 15, 16, 17, 18]⟩]
  spec := sp_nmI
def VCL_nmI [W : InW] (xs : Ro [.str, .int .i64, .int .i64]) (n i : Int) (last : ByteArray) (A : List Ed → Prop) (K : Nat → List Ed → Prop) : Prop :=
  Vif (decide (i < n)) (Need (decide ((0 : Int) ≤ i) && decide (i < (↑(xs.xs.length) : Int))) (Need (decide (i.toNat < xs.xs.length)) (Vif (eqS (cel xs.xs i.toNat (0 : Nat)).str last) (K (0+1 : Nat) [.i i, .s last]) (Ar .i64 (i + (1 : Int)) fun z => A [.ro _ xs, .i n, .i z, .s last])))) (K (0 : Nat) [.s last])
theorem vcl_nmI (W : InW) (xs n i last A K) : vcTop { cxT Try.prog TT T3 1000 50 with fn := 93 } 1000 (loopAt Try.prog 93 3) (tmOut 19 [(0, .rs _ xs), (1, .fn (.func 56) [] [.ptr 4 0]), (7, .si .i64 n), (8, .si .i64 i)] [4, 5, 9, 10, 11, 12, 13, 14, 15, 16, 17, 18]) [(4, .blk 81 [.ss last, .opq 7, .opq 10])] (roundL lc_nmI A K) = VCL_nmI xs n i last A K := by kernel_rfl
def okLt_nmI : Prop := ∀ (W : InW) (body a : Code), (Try.prog.funcs[93]?).bind (·.body) = some body → a ∈ loopsIn body → keyOf a = 3 → @LoopOk W Try.prog a (@loopRun W lc_nmI)
theorem okl_nmI (meas : [InW] → List Ed → Nat) (hyp_ : ∀ (W : InW) (xs : Ro [.str, .int .i64, .int .i64]) (n : Int) (i : Int) (last : ByteArray) (K : Nat → List Ed → Prop), sp_nmI [.ro _ xs, .i n, .i i, .s last] K → ∀ A : List Ed → Prop, (∀ e, meas e < meas [.ro _ xs, .i n, .i i, .s last] → sp_nmI e K → A e) → VCL_nmI xs n i last A K) : okLt_nmI :=
  LE.okOf' (fun W => @TT W) (fun W => @TT_ok W) mixed_ok T3 1000 50 (by kernel_rfl) lc_nmI (fun W => @meas W) fun W xs n i last K hs =>
    (vcl_nmI W xs n i last (fun e => meas e < meas [.ro _ xs, .i n, .i i, .s last] ∧ sp_nmI e K) K).mpr (hyp_ W xs n i last K hs _ fun e h1 h2 => ⟨h1, h2⟩)
theorem okLnmS : okLt_nmS := okl_nmS (fun e => match e with | .ro _ xs :: .i n :: .i i :: _ => (n - i).toNat | _ => 0) fun W xs n i last K hs A hA => by
  obtain ⟨⟨rfl, h0, h1⟩, hk⟩ := hs
  unfold VCL_nmS
  have hm := xs.len
  simp only [maxLen] at hm
  refine vifd (fun e => ned (by simp; omega) (nedd (by omega) (vif (fun e2 => ?_) fun e2 => ar64 (by omega) (hA _ ?_ ?_)))) fun e => ?_
  · rw [show xs.xs.length - i.toNat = (xs.xs.length - (i.toNat + 1)) + 1 by omega] at hk
    have := hk.1 (by simp only [Sp.dup, Sp.nm, e2, Bool.true_or])
    unfold Sp.dupI at this
    rw [if_pos (by exact e2), Int.toNat_of_nonneg h0] at this
    exact this
  · show ((xs.xs.length : Int) - (i + 1)).toNat < ((xs.xs.length : Int) - i).toNat
    omega
  · refine ⟨⟨rfl, by omega, by omega⟩, ?_⟩
    rw [show xs.xs.length - i.toNat = (xs.xs.length - (i.toNat + 1)) + 1 by omega] at hk
    simp only [Sp.dup, Sp.nm, e2, Bool.false_or] at hk
    unfold Sp.dupI at hk
    rw [if_neg (by show ¬ eqS (cel xs.xs i.toNat 0).str last = true; rw [e2]; simp)] at hk
    rw [show (i + 1).toNat = i.toNat + 1 by omega]
    exact hk
  · rw [show xs.xs.length - i.toNat = 0 by omega] at hk
    exact hk.2 rfl
theorem okLnmI : okLt_nmI := okl_nmI (fun e => match e with | .ro _ xs :: .i n :: .i i :: _ => (n - i).toNat | _ => 0) fun W xs n i last K hs A hA => by
  obtain ⟨⟨rfl, h0, h1⟩, hk⟩ := hs
  unfold VCL_nmI
  have hm := xs.len
  simp only [maxLen] at hm
  refine vifd (fun e => ned (by simp; omega) (nedd (by omega) (vif (fun e2 => ?_) fun e2 => ar64 (by omega) (hA _ ?_ ?_)))) fun e => ?_
  · rw [show xs.xs.length - i.toNat = (xs.xs.length - (i.toNat + 1)) + 1 by omega] at hk
    have := hk.1 (by simp only [Sp.dup, Sp.nm, e2, Bool.true_or])
    unfold Sp.dupI at this
    rw [if_pos (by exact e2), Int.toNat_of_nonneg h0] at this
    exact this
  · show ((xs.xs.length : Int) - (i + 1)).toNat < ((xs.xs.length : Int) - i).toNat
    omega
  · refine ⟨⟨rfl, by omega, by omega⟩, ?_⟩
    rw [show xs.xs.length - i.toNat = (xs.xs.length - (i.toNat + 1)) + 1 by omega] at hk
    simp only [Sp.dup, Sp.nm, e2, Bool.false_or] at hk
    unfold Sp.dupI at hk
    rw [if_neg (by show ¬ eqS (cel xs.xs i.toNat 0).str last = true; rw [e2]; simp)] at hk
    rw [show (i + 1).toNat = i.toNat + 1 by omega]
    exact hk
  · rw [show xs.xs.length - i.toNat = 0 by omega] at hk
    exact hk.2 rfl
noncomputable def le_nmS : LE Try.prog := ⟨92, 3, fun W => @loopRun W lc_nmS, okLnmS⟩
noncomputable def le_nmI : LE Try.prog := ⟨93, 3, fun W => @loopRun W lc_nmI, okLnmI⟩
noncomputable def T7 : Tab Try.prog := ⟨T3.pcs, [le_nmS, le_nmI], []⟩
def sp_bkS [InW] (e : List Ed) (K : Nat → List Ed → Prop) : Prop := match e with
  | [.ro _ xs, .i n, .i i, .ro _ sk, .ro _ is] => Pre (xs.xs = sk.xs ∧ n = (sk.xs.length : Int) ∧ 0 ≤ i ∧ i ≤ n) (Vif (Sp.hasE (Sp.skErr sk.xs) i.toNat (sk.xs.length - i.toNat))
      (K 1 [.i (Sp.idxE (Sp.skErr sk.xs) i.toNat (sk.xs.length - i.toNat)), .i (Sp.skErr sk.xs (Sp.idxE (Sp.skErr sk.xs) i.toNat (sk.xs.length - i.toNat)))]) (K 0 [.ro _ sk, .ro _ is]))
  | _ => False
noncomputable def lc_bkS : LC where
  len := 107
  T := [(1, (.ptr 1 0)), (21, .rs [.str, .int .i64, .int .i64, .int .i64, .int .i64]), (22, .int .i64), (23, .int .i64)]
  H := [(1, .blk 25 [.rs [.str, .int .i64, .int .i64, .int .i64, .int .i64], .rs [.str, .int .i64, .int .i64]])]
  W := [2, 3, 4, 5, 6, 24, 25, 26, 27, 28, 29, 30, 31, 32, 33, 34, 35, 36, 37, 38, 39, 40, 41, 42, 43, 44, 45, 46, 47, 48, 49, 50, 51, 52, 53, 54, 55, 56, 57, 58, 59, 60, 61, 62, 63, 64, 65, 66, 67, 68, 69, 70, 71, 72, 73, 74, 75, 76]
  outs := [⟨.exit 0, [(1, (.ptr 1 0))], [(1, .blk 25 [.rs [.str, .int .i64, .int .i64, .int .i64, .int .i64], .rs [.str, .int .i64, .int .i64]])], [2, 3, 4, 5, 6, 21, 22, 23, 24, 25, 26, 27, 28, 29, 30, 31, 32, 33, 34, 35, 36, 37, 38, 39, 40, 41, 42, 43, 44, 45, 46, 47, 48, 49, 50, 51, 52, 53, 54, 55, 56, 57, 58, 59, 60, 61, 62, 63, 64, 65, 66, 67, 68, 69, 70, 71, 72, 73, 74, 75, 76]⟩, ⟨.ret, [(2, (.lit (.int .i64 2))), (3, .int .i64), (4, .int .i64)], [], [1, 5, 6, 21, 22, 23, 24, 25, 26, 27, 28, 29, 30, 31, 32, 33, 34, 35, 36, 37, 38, 39, 40, 41, 42, 43, 44, 45, 46, 47, 48, 49, 50, 51, 52, 53, 54, 55, 56, 57, 58, 59, 60, 61, 62, 63, 64, 65, 66, 67, 68, 69, 70, 71, 72, 73, 74, 75, 76]⟩]
  spec := sp_bkS
def VCL_bkS [W : InW] (xs : Ro [.str, .int .i64, .int .i64, .int .i64, .int .i64]) (n i : Int) (sk : Ro [.str, .int .i64, .int .i64, .int .i64, .int .i64]) (is : Ro [.str, .int .i64, .int .i64]) (A : List Ed → Prop) (K : Nat → List Ed → Prop) : Prop :=
  Vif (decide (i < n)) (Need (decide ((0 : Int) ≤ i) && decide (i < (↑(xs.xs.length) : Int))) (Need (decide (i.toNat < xs.xs.length)) (Pre True (Vif (!Bk.nameOk (cel xs.xs i.toNat (0 : Nat)).str) (K (0+1 : Nat) [.i i, .i (6 : Int)]) (Need (decide ((0 : Int) ≤ i)) (Need (decide ((0 : Nat) ≤ i.toNat) && decide (i.toNat ≤ sk.xs.length)) (Pre ((↑(List.drop (0 : Nat) (List.take i.toNat sk.xs)).length : Int) = (↑(List.drop (0 : Nat) (List.take i.toNat sk.xs)).length : Int) ∧ (0 : Int) ≤ (0 : Int) ∧ (0 : Int) ≤ (↑(List.drop (0 : Nat) (List.take i.toNat sk.xs)).length : Int)) (Vif (Sp.dup (List.drop (0 : Nat) (List.take i.toNat sk.xs)) (cel xs.xs i.toNat (0 : Nat)).str (Int.toNat (0 : Int)) ((List.drop (0 : Nat) (List.take i.toNat sk.xs)).length - Int.toNat (0 : Int))) (Vif (decide ((0 : Int) ≤ (↑(Sp.dupI (List.drop (0 : Nat) (List.take i.toNat sk.xs)) (cel xs.xs i.toNat (0 : Nat)).str (Int.toNat (0 : Int)) ((List.drop (0 : Nat) (List.take i.toNat sk.xs)).length - Int.toNat (0 : Int))) : Int))) (K (0+1 : Nat) [.i i, .i (5 : Int)]) (Pre True (Vif (Sp.out (0 : Int) (1000 : Int) [[Cl.i (cel xs.xs i.toNat (0+1 : Nat)).int], [Cl.i (cel xs.xs i.toNat (0+1+1 : Nat)).int], [Cl.i (cel xs.xs i.toNat (0+1+1+1 : Nat)).int], [Cl.i (cel xs.xs i.toNat (0+1+1+1+1 : Nat)).int]]) (K (0+1 : Nat) [.i i, .i (7 : Int)]) (Vif (decide ((cel xs.xs i.toNat (0+1+1 : Nat)).int < (cel xs.xs i.toNat (0+1 : Nat)).int)) (K (0+1 : Nat) [.i i, .i (2 : Int)]) (Vif (decide ((cel xs.xs i.toNat (0+1+1+1+1 : Nat)).int < (cel xs.xs i.toNat (0+1+1+1 : Nat)).int)) (K (0+1 : Nat) [.i i, .i (2 : Int)]) (Ar .i64 (i + (1 : Int)) fun z => A [.ro _ xs, .i n, .i z, .ro _ sk, .ro _ is])))))) (Pre True (Vif (Sp.out (0 : Int) (1000 : Int) [[Cl.i (cel xs.xs i.toNat (0+1 : Nat)).int], [Cl.i (cel xs.xs i.toNat (0+1+1 : Nat)).int], [Cl.i (cel xs.xs i.toNat (0+1+1+1 : Nat)).int], [Cl.i (cel xs.xs i.toNat (0+1+1+1+1 : Nat)).int]]) (K (0+1 : Nat) [.i i, .i (7 : Int)]) (Vif (decide ((cel xs.xs i.toNat (0+1+1 : Nat)).int < (cel xs.xs i.toNat (0+1 : Nat)).int)) (K (0+1 : Nat) [.i i, .i (2 : Int)]) (Vif (decide ((cel xs.xs i.toNat (0+1+1+1+1 : Nat)).int < (cel xs.xs i.toNat (0+1+1+1 : Nat)).int)) (K (0+1 : Nat) [.i i, .i (2 : Int)]) (Ar .i64 (i + (1 : Int)) fun z => A [.ro _ xs, .i n, .i z, .ro _ sk, .ro _ is]))))))))))))) (K (0 : Nat) [.ro _ sk, .ro _ is])
theorem vcl_bkS (W : InW) (xs n i sk is A K) : vcTop { cxT Try.prog TT T7 1000 50 with fn := 18 } 1000 (loopAt Try.prog 18 5) (tmOut 107 [(1, .ptr 1 0), (21, .rs _ xs), (22, .si .i64 n), (23, .si .i64 i)] [2, 3, 4, 5, 6, 24, 25, 26, 27, 28, 29, 30, 31, 32, 33, 34, 35, 36, 37, 38, 39, 40, 41, 42, 43, 44, 45, 46, 47, 48, 49, 50, 51, 52, 53, 54, 55, 56, 57, 58, 59, 60, 61, 62, 63, 64, 65, 66, 67, 68, 69, 70, 71, 72, 73, 74, 75, 76]) [(1, .blk 25 [.rs _ sk, .rs _ is])] (roundL lc_bkS A K) = VCL_bkS xs n i sk is A K := by kernel_rfl
def okLt_bkS : Prop := ∀ (W : InW) (body a : Code), (Try.prog.funcs[18]?).bind (·.body) = some body → a ∈ loopsIn body → keyOf a = 5 → @LoopOk W Try.prog a (@loopRun W lc_bkS)
theorem okl_bkS (meas : [InW] → List Ed → Nat) (hyp_ : ∀ (W : InW) (xs : Ro [.str, .int .i64, .int .i64, .int .i64, .int .i64]) (n : Int) (i : Int) (sk : Ro [.str, .int .i64, .int .i64, .int .i64, .int .i64]) (is : Ro [.str, .int .i64, .int .i64]) (K : Nat → List Ed → Prop), sp_bkS [.ro _ xs, .i n, .i i, .ro _ sk, .ro _ is] K → ∀ A : List Ed → Prop, (∀ e, meas e < meas [.ro _ xs, .i n, .i i, .ro _ sk, .ro _ is] → sp_bkS e K → A e) → VCL_bkS xs n i sk is A K) : okLt_bkS :=
  LE.okOf' (fun W => @TT W) (fun W => @TT_ok W) mixed_ok T7 1000 50 (by kernel_rfl) lc_bkS (fun W => @meas W) fun W xs n i sk is K hs =>
    (vcl_bkS W xs n i sk is (fun e => meas e < meas [.ro _ xs, .i n, .i i, .ro _ sk, .ro _ is] ∧ sp_bkS e K) K).mpr (hyp_ W xs n i sk is K hs _ fun e h1 h2 => ⟨h1, h2⟩)
def sp_bkI [InW] (e : List Ed) (K : Nat → List Ed → Prop) : Prop := match e with
  | [.ro _ xs, .i n, .i i, .ro _ sk, .ro _ is] => Pre (xs.xs = is.xs ∧ n = (is.xs.length : Int) ∧ 0 ≤ i ∧ i ≤ n) (Vif (Sp.hasE (Sp.inErr is.xs) i.toNat (is.xs.length - i.toNat))
      (K 1 [.i (Sp.idxE (Sp.inErr is.xs) i.toNat (is.xs.length - i.toNat)), .i (Sp.inErr is.xs (Sp.idxE (Sp.inErr is.xs) i.toNat (is.xs.length - i.toNat)))]) (K 0 []))
  | _ => False
noncomputable def lc_bkI : LC where
  len := 107
  T := [(1, (.ptr 1 0)), (78, .rs [.str, .int .i64, .int .i64]), (79, .int .i64), (80, .int .i64)]
  H := [(1, .blk 25 [.rs [.str, .int .i64, .int .i64, .int .i64, .int .i64], .rs [.str, .int .i64, .int .i64]])]
  W := [2, 3, 4, 7, 8, 81, 82, 83, 84, 85, 86, 87, 88, 89, 90, 91, 92, 93, 94, 95, 96, 97, 98, 99, 100, 101, 102, 103, 104, 105, 106]
  outs := [⟨.exit 3, [], [], [1, 2, 3, 4, 7, 8, 78, 79, 80, 81, 82, 83, 84, 85, 86, 87, 88, 89, 90, 91, 92, 93, 94, 95, 96, 97, 98, 99, 100, 101, 102, 103, 104, 105, 106]⟩, ⟨.ret, [(2, (.lit (.int .i64 3))), (3, .int .i64), (4, .int .i64)], [], [1, 7, 8, 78, 79, 80, 81, 82, 83, 84, 85, 86, 87, 88, 89, 90, 91, 92, 93, 94, 95, 96, 97, 98, 99, 100, 101, 102, 103, 104, 105, 106]⟩]
  spec := sp_bkI
def VCL_bkI [W : InW] (xs : Ro [.str, .int .i64, .int .i64]) (n i : Int) (sk : Ro [.str, .int .i64, .int .i64, .int .i64, .int .i64]) (is : Ro [.str, .int .i64, .int .i64]) (A : List Ed → Prop) (K : Nat → List Ed → Prop) : Prop :=
  Vif (decide (i < n)) (Need (decide ((0 : Int) ≤ i) && decide (i < (↑(xs.xs.length) : Int))) (Need (decide (i.toNat < xs.xs.length)) (Pre True (Vif (!Bk.nameOk (cel xs.xs i.toNat (0 : Nat)).str) (K (0+1 : Nat) [.i i, .i (6 : Int)]) (Need (decide ((0 : Int) ≤ i)) (Need (decide ((0 : Nat) ≤ i.toNat) && decide (i.toNat ≤ is.xs.length)) (Pre ((↑(List.drop (0 : Nat) (List.take i.toNat is.xs)).length : Int) = (↑(List.drop (0 : Nat) (List.take i.toNat is.xs)).length : Int) ∧ (0 : Int) ≤ (0 : Int) ∧ (0 : Int) ≤ (↑(List.drop (0 : Nat) (List.take i.toNat is.xs)).length : Int)) (Vif (Sp.dup (List.drop (0 : Nat) (List.take i.toNat is.xs)) (cel xs.xs i.toNat (0 : Nat)).str (Int.toNat (0 : Int)) ((List.drop (0 : Nat) (List.take i.toNat is.xs)).length - Int.toNat (0 : Int))) (Vif (decide ((0 : Int) ≤ (↑(Sp.dupI (List.drop (0 : Nat) (List.take i.toNat is.xs)) (cel xs.xs i.toNat (0 : Nat)).str (Int.toNat (0 : Int)) ((List.drop (0 : Nat) (List.take i.toNat is.xs)).length - Int.toNat (0 : Int))) : Int))) (K (0+1 : Nat) [.i i, .i (5 : Int)]) (Pre True (Vif (!decide (Sp.spanE (cel xs.xs i.toNat (0+1 : Nat)).int (cel xs.xs i.toNat (0+1+1 : Nat)).int (-300 : Int) (300 : Int) = (0 : Int))) (K (0+1 : Nat) [.i i, .i (Sp.spanE (cel xs.xs i.toNat (0+1 : Nat)).int (cel xs.xs i.toNat (0+1+1 : Nat)).int (-300 : Int) (300 : Int))]) (Ar .i64 (i + (1 : Int)) fun z => A [.ro _ xs, .i n, .i z, .ro _ sk, .ro _ is])))) (Pre True (Vif (!decide (Sp.spanE (cel xs.xs i.toNat (0+1 : Nat)).int (cel xs.xs i.toNat (0+1+1 : Nat)).int (-300 : Int) (300 : Int) = (0 : Int))) (K (0+1 : Nat) [.i i, .i (Sp.spanE (cel xs.xs i.toNat (0+1 : Nat)).int (cel xs.xs i.toNat (0+1+1 : Nat)).int (-300 : Int) (300 : Int))]) (Ar .i64 (i + (1 : Int)) fun z => A [.ro _ xs, .i n, .i z, .ro _ sk, .ro _ is]))))))))))) (K (0 : Nat) [])
theorem vcl_bkI (W : InW) (xs n i sk is A K) : vcTop { cxT Try.prog TT T7 1000 50 with fn := 18 } 1000 (loopAt Try.prog 18 17) (tmOut 107 [(1, .ptr 1 0), (78, .rs _ xs), (79, .si .i64 n), (80, .si .i64 i)] [2, 3, 4, 7, 8, 81, 82, 83, 84, 85, 86, 87, 88, 89, 90, 91, 92, 93, 94, 95, 96, 97, 98, 99, 100, 101, 102, 103, 104, 105, 106]) [(1, .blk 25 [.rs _ sk, .rs _ is])] (roundL lc_bkI A K) = VCL_bkI xs n i sk is A K := by kernel_rfl
def okLt_bkI : Prop := ∀ (W : InW) (body a : Code), (Try.prog.funcs[18]?).bind (·.body) = some body → a ∈ loopsIn body → keyOf a = 17 → @LoopOk W Try.prog a (@loopRun W lc_bkI)
theorem okl_bkI (meas : [InW] → List Ed → Nat) (hyp_ : ∀ (W : InW) (xs : Ro [.str, .int .i64, .int .i64]) (n : Int) (i : Int) (sk : Ro [.str, .int .i64, .int .i64, .int .i64, .int .i64]) (is : Ro [.str, .int .i64, .int .i64]) (K : Nat → List Ed → Prop), sp_bkI [.ro _ xs, .i n, .i i, .ro _ sk, .ro _ is] K → ∀ A : List Ed → Prop, (∀ e, meas e < meas [.ro _ xs, .i n, .i i, .ro _ sk, .ro _ is] → sp_bkI e K → A e) → VCL_bkI xs n i sk is A K) : okLt_bkI :=
  LE.okOf' (fun W => @TT W) (fun W => @TT_ok W) mixed_ok T7 1000 50 (by kernel_rfl) lc_bkI (fun W => @meas W) fun W xs n i sk is K hs =>
    (vcl_bkI W xs n i sk is (fun e => meas e < meas [.ro _ xs, .i n, .i i, .ro _ sk, .ro _ is] ∧ sp_bkI e K) K).mpr (hyp_ W xs n i sk is K hs _ fun e h1 h2 => ⟨h1, h2⟩)
theorem okLbkS : okLt_bkS := okl_bkS (fun e => match e with | _ :: .i n :: .i i :: _ => (n - i).toNat | _ => 0) fun W xs n i sk is K hs A hA => by
  obtain ⟨⟨hcs, rfl, h0, h1⟩, hk⟩ := hs
  unfold VCL_bkS
  have hm := sk.len
  simp only [maxLen] at hm
  simp only [List.drop_zero, hcs, Nat.zero_add, Nat.reduceAdd, out4]
  refine vifd (fun e => ?_) fun e => ?_
  · rw [show sk.xs.length - i.toNat = (sk.xs.length - (i.toNat + 1)) + 1 by omega] at hk
    obtain ⟨g1, g2⟩ := stepE (K1 := fun j e => K 1 [.i j, .i e]) hk
    rw [Int.toNat_of_nonneg h0] at g1
    have ez : (i + 1).toNat = i.toNat + 1 := by omega
    have hA' : Sp.skErr sk.xs i.toNat = 0 → A [.ro _ xs, .i sk.xs.length, .i (i + 1), .ro _ sk, .ro _ is] := fun f => hA _ (by show ((sk.xs.length : Int) - (i + 1)).toNat < ((sk.xs.length : Int) - i).toNat; omega) ⟨⟨hcs, rfl, by omega, by omega⟩, by rw [ez]; exact g2 f⟩
    have bad : ∀ n, Sp.skErr sk.xs i.toNat = n → n ≠ 0 → K 1 [.i i, .i n] := fun n hn h => by rw [← hn]; exact g1 (by rw [hn]; exact h)
    have htl : (sk.xs.take i.toNat).length = i.toNat := by rw [List.length_take]; omega
    have hdt := dup_take (xs := sk.xs) (name := (cel sk.xs i.toNat 0).str) (m := i.toNat) i.toNat 0 (by omega)
    have eN : Sp.nameErr sk.xs i.toNat = if Bk.nameOk (cel sk.xs i.toNat 0).str then (if Sp.dup sk.xs (cel sk.xs i.toNat 0).str 0 i.toNat then 5 else 0) else 6 := rfl
    have eS := Lib.hid (show Sp.skErr sk.xs i.toNat = if Sp.nameErr sk.xs i.toNat = 0 then (if Sp.inr (cel sk.xs i.toNat 1).int 0 1000 && (Sp.inr (cel sk.xs i.toNat 2).int 0 1000 && (Sp.inr (cel sk.xs i.toNat 3).int 0 1000 && Sp.inr (cel sk.xs i.toNat 4).int 0 1000)) then (if (cel sk.xs i.toNat 2).int < (cel sk.xs i.toNat 1).int ∨ (cel sk.xs i.toNat 4).int < (cel sk.xs i.toNat 3).int then 2 else 0) else 7) else Sp.nameErr sk.xs i.toNat from rfl)
    rw [eN] at eS
    clear g1 g2 hk hA eN
    rw [htl, show Int.toNat 0 = 0 from rfl, Nat.sub_zero, hdt]
    clear htl hdt
    generalize Bk.nameOk (cel sk.xs i.toNat 0).str = a at *
    generalize Sp.dup sk.xs (cel sk.xs i.toNat 0).str 0 i.toNat = b at *
    generalize Sp.skErr sk.xs i.toNat = F at *
    generalize Sp.inr (cel sk.xs i.toNat 1).int 0 1000 = c1 at *
    generalize Sp.inr (cel sk.xs i.toNat 2).int 0 1000 = c2 at *
    generalize Sp.inr (cel sk.xs i.toNat 3).int 0 1000 = c3 at *
    generalize Sp.inr (cel sk.xs i.toNat 4).int 0 1000 = c4 at *
    generalize (cel sk.xs i.toNat 1).int = d1 at *
    generalize (cel sk.xs i.toNat 2).int = d2 at *
    generalize (cel sk.xs i.toNat 3).int = d3 at *
    generalize (cel sk.xs i.toNat 4).int = d4 at *
    repeat' (first | omega | with_reducible refine vifd (fun _ => ?_) fun _ => ?_ | with_reducible refine vifn (fun _ => ?_) fun _ => ?_ | with_reducible refine vifq (fun _ => ?_) fun _ => ?_ | with_reducible refine vifq0 (fun _ => ?_) fun _ => ?_ | with_reducible refine vifq1 (fun _ => ?_) fun _ => ?_ | with_reducible refine vifb (fun _ => ?_) fun _ => ?_ | with_reducible refine vif (fun _ => ?_) fun _ => ?_ | (with_reducible refine nedd ?_ ?_; omega) | (with_reducible refine ned ?_ ?_; simp only [Bool.and_eq_true, decide_eq_true_eq]; omega) | (with_reducible refine ar64 ?_ ?_; omega) | (with_reducible refine pre_of ?_ ?_; (first | trivial | omega | assumption | (refine ⟨?_, ?_⟩ <;> first | trivial | omega | assumption) | (refine ⟨?_, ?_, ?_⟩ <;> first | trivial | omega | assumption) | (refine ⟨?_, ?_, ?_, ?_⟩ <;> first | trivial | omega | assumption))))
    all_goals first | exact bad _ (by rw [eS.out]; (repeat' split) <;> first | omega | simp_all) (by omega) | exact hA' (by rw [eS.out]; (repeat' split) <;> first | omega | simp_all)
  · rw [show sk.xs.length - i.toNat = 0 by omega] at hk
    exact hk.2 rfl
theorem okLbkI : okLt_bkI := okl_bkI (fun e => match e with | _ :: .i n :: .i i :: _ => (n - i).toNat | _ => 0) fun W xs n i sk is K hs A hA => by
  obtain ⟨⟨hcs, rfl, h0, h1⟩, hk⟩ := hs
  unfold VCL_bkI
  have hm := is.len
  simp only [maxLen] at hm
  simp only [List.drop_zero, hcs, Nat.zero_add, Nat.reduceAdd, out4]
  refine vifd (fun e => ?_) fun e => ?_
  · rw [show is.xs.length - i.toNat = (is.xs.length - (i.toNat + 1)) + 1 by omega] at hk
    obtain ⟨g1, g2⟩ := stepE (K1 := fun j e => K 1 [.i j, .i e]) hk
    rw [Int.toNat_of_nonneg h0] at g1
    have ez : (i + 1).toNat = i.toNat + 1 := by omega
    have hA' : Sp.inErr is.xs i.toNat = 0 → A [.ro _ xs, .i is.xs.length, .i (i + 1), .ro _ sk, .ro _ is] := fun f => hA _ (by show ((is.xs.length : Int) - (i + 1)).toNat < ((is.xs.length : Int) - i).toNat; omega) ⟨⟨hcs, rfl, by omega, by omega⟩, by rw [ez]; exact g2 f⟩
    have bad : ∀ n, Sp.inErr is.xs i.toNat = n → n ≠ 0 → K 1 [.i i, .i n] := fun n hn h => by rw [← hn]; exact g1 (by rw [hn]; exact h)
    have htl : (is.xs.take i.toNat).length = i.toNat := by rw [List.length_take]; omega
    have hdt := dup_take (xs := is.xs) (name := (cel is.xs i.toNat 0).str) (m := i.toNat) i.toNat 0 (by omega)
    have eN : Sp.nameErr is.xs i.toNat = if Bk.nameOk (cel is.xs i.toNat 0).str then (if Sp.dup is.xs (cel is.xs i.toNat 0).str 0 i.toNat then 5 else 0) else 6 := rfl
    have eS := Lib.hid (show Sp.inErr is.xs i.toNat = if Sp.nameErr is.xs i.toNat = 0 then Sp.spanE (cel is.xs i.toNat 1).int (cel is.xs i.toNat 2).int (-300) 300 else Sp.nameErr is.xs i.toNat from rfl)
    rw [eN] at eS
    clear g1 g2 hk hA eN
    rw [htl, show Int.toNat 0 = 0 from rfl, Nat.sub_zero, hdt]
    clear htl hdt
    generalize Bk.nameOk (cel is.xs i.toNat 0).str = a at *
    generalize Sp.dup is.xs (cel is.xs i.toNat 0).str 0 i.toNat = b at *
    generalize Sp.inErr is.xs i.toNat = F at *
    generalize Sp.spanE (cel is.xs i.toNat 1).int (cel is.xs i.toNat 2).int (-300) 300 = S at *
    repeat' (first | omega | with_reducible refine vifd (fun _ => ?_) fun _ => ?_ | with_reducible refine vifn (fun _ => ?_) fun _ => ?_ | with_reducible refine vifq (fun _ => ?_) fun _ => ?_ | with_reducible refine vifq0 (fun _ => ?_) fun _ => ?_ | with_reducible refine vifq1 (fun _ => ?_) fun _ => ?_ | with_reducible refine vifb (fun _ => ?_) fun _ => ?_ | with_reducible refine vif (fun _ => ?_) fun _ => ?_ | (with_reducible refine nedd ?_ ?_; omega) | (with_reducible refine ned ?_ ?_; simp only [Bool.and_eq_true, decide_eq_true_eq]; omega) | (with_reducible refine ar64 ?_ ?_; omega) | (with_reducible refine pre_of ?_ ?_; (first | trivial | omega | assumption | (refine ⟨?_, ?_⟩ <;> first | trivial | omega | assumption) | (refine ⟨?_, ?_, ?_⟩ <;> first | trivial | omega | assumption) | (refine ⟨?_, ?_, ?_, ?_⟩ <;> first | trivial | omega | assumption))))
    all_goals first | exact bad _ (by rw [eS.out]; (repeat' split) <;> first | omega | simp_all) (by omega) | exact hA' (by rw [eS.out]; (repeat' split) <;> first | omega | simp_all)
  · rw [show is.xs.length - i.toNat = 0 by omega] at hk
    exact hk.2 rfl
noncomputable def le_bkS : LE Try.prog := ⟨18, 5, fun W => @loopRun W lc_bkS, okLbkS⟩
noncomputable def le_bkI : LE Try.prog := ⟨18, 17, fun W => @loopRun W lc_bkI, okLbkI⟩
noncomputable def T8 : Tab Try.prog := ⟨T3.pcs, [le_bkS, le_bkI], []⟩
def VC_bCheck [W : InW] (s_Skills : Ro [.str, .int .i64, .int .i64, .int .i64, .int .i64]) (s_Instrs : Ro [.str, .int .i64, .int .i64]) (Q : DS → Prop) : Prop :=
  Pre True (Vif (Sp.out (1 : Int) (5 : Int) [[Cl.i (↑(s_Skills.xs.length) : Int)]]) (Q [[Cl.i (1 : Int)], [Cl.i (0 : Int)], [Cl.i (3 : Int)]]) (Vif (decide ((6 : Int) < (↑(s_Instrs.xs.length) : Int))) (Q [[Cl.i (1 : Int)], [Cl.i (0 : Int)], [Cl.i (3 : Int)]]) (Pre (s_Skills.xs = s_Skills.xs ∧ (↑(s_Skills.xs.length) : Int) = (↑(s_Skills.xs.length) : Int) ∧ (0 : Int) ≤ (0 : Int) ∧ (0 : Int) ≤ (↑(s_Skills.xs.length) : Int)) (Vif (Sp.hasE (Sp.skErr s_Skills.xs) (Int.toNat (0 : Int)) (s_Skills.xs.length - Int.toNat (0 : Int))) (Q [[Cl.i (2 : Int)], [Cl.i (↑(Sp.idxE (Sp.skErr s_Skills.xs) (Int.toNat (0 : Int)) (s_Skills.xs.length - Int.toNat (0 : Int))) : Int)], [Cl.i (Sp.skErr s_Skills.xs (Sp.idxE (Sp.skErr s_Skills.xs) (Int.toNat (0 : Int)) (s_Skills.xs.length - Int.toNat (0 : Int))))]]) (Pre (s_Instrs.xs = s_Instrs.xs ∧ (↑(s_Instrs.xs.length) : Int) = (↑(s_Instrs.xs.length) : Int) ∧ (0 : Int) ≤ (0 : Int) ∧ (0 : Int) ≤ (↑(s_Instrs.xs.length) : Int)) (Vif (Sp.hasE (Sp.inErr s_Instrs.xs) (Int.toNat (0 : Int)) (s_Instrs.xs.length - Int.toNat (0 : Int))) (Q [[Cl.i (3 : Int)], [Cl.i (↑(Sp.idxE (Sp.inErr s_Instrs.xs) (Int.toNat (0 : Int)) (s_Instrs.xs.length - Int.toNat (0 : Int))) : Int)], [Cl.i (Sp.inErr s_Instrs.xs (Sp.idxE (Sp.inErr s_Instrs.xs) (Int.toNat (0 : Int)) (s_Instrs.xs.length - Int.toNat (0 : Int))))]]) (Q [[Cl.i (0 : Int)], [Cl.i (0 : Int)], [Cl.i (0 : Int)]])))))))
theorem vc_bCheck (W : InW) (s_Skills s_Instrs Q) : bodyK (cxT Try.prog TT T8 1000 50) 1000 18 [.agg [.rs _ s_Skills, .rs _ s_Instrs]] [] 0 (leafK [(false, [.int .i64]), (false, [.int .i64]), (false, [.int .i64])] Q) (fun _ _ _ _ => Stuck 421) = VC_bCheck s_Skills s_Instrs Q := by kernel_rfl
abbrev ats_bCheck : List AT := [.agg [.sl [.str, .int .i64, .int .i64, .int .i64, .int .i64], .sl [.str, .int .i64, .int .i64]]]
theorem ok_bCheck {pre : DS → Prop} {res : DS → DS} (hyp_ : ∀ (W : InW) (s_Skills : Ro [.str, .int .i64, .int .i64, .int .i64, .int .i64]) (s_Instrs : Ro [.str, .int .i64, .int .i64]), pre [[.l s_Skills.xs, .l s_Instrs.xs]] → ∀ Q : DS → Prop, Q (res [[.l s_Skills.xs, .l s_Instrs.xs]]) → VC_bCheck s_Skills s_Instrs Q) : PureOk Try.prog 18 ats_bCheck [(false, [.int .i64]), (false, [.int .i64]), (false, [.int .i64])] pre res :=
  PureOk.of' (fun W => @TT W) (fun W => @TT_ok W) mixed_ok T8 1000 50 fun W s_Skills s_Instrs hp =>
    (vc_bCheck W s_Skills s_Instrs (fun o => o = res [[.l s_Skills.xs, .l s_Instrs.xs]])).mpr (hyp_ W s_Skills s_Instrs hp _ rfl)
theorem okbCheck : PureOk Try.prog 18 ats_bCheck [(false, [.int .i64]), (false, [.int .i64]), (false, [.int .i64])] (fun _ => True) res_Check :=
  ok_bCheck fun W sk is _ Q h => by
    unfold VC_bCheck
    simp only [res_Check, Sp.chkP, Sp.chkI, Sp.chkE, Sp.check] at h
    simp only [out1]
    rw [show Int.toNat 0 = 0 from rfl, Nat.sub_zero, Nat.sub_zero]
    refine ⟨trivial, vifb (fun e1 => ?_) fun e1 => vifd (fun e2 => ?_) fun e2 => ?_⟩
    · simp_all
    · simp_all
    · have i1 := inr_iff.1 e1
      refine ⟨⟨trivial, trivial, by omega, by omega⟩, vif (fun e3 => ?_) fun e3 => ⟨⟨trivial, trivial, by omega, by omega⟩, vif (fun e4 => ?_) fun e4 => ?_⟩⟩ <;> simp_all
noncomputable def pc_bCheck : PC Try.prog := ⟨18, ats_bCheck, [(false, [.int .i64]), (false, [.int .i64]), (false, [.int .i64])], fun _ => True, res_Check, okbCheck⟩
end Go.Proofs.Ytdokbocmgdhmmaa
namespace Go.Proofs.Ytdokbocmgdhmmaa
open Go.RowKit
set_option linter.unusedVariables false
set_option maxRecDepth 100000
set_option maxHeartbeats 1600000
namespace Sp
structure SchOk (sk is : Dt) : Prop where
  n1 : 1 ≤ sk.length
  n5 : sk.length ≤ 5
  i6 : is.length ≤ 6
  skN : ∀ i, i < sk.length → nameErr sk i = 0
  skG : ∀ i, i < sk.length → 0 ≤ gLo sk i ∧ gLo sk i ≤ gHi sk i ∧ gHi sk i ≤ 1000
  skF : ∀ i, i < sk.length → 0 ≤ fLo sk i ∧ fLo sk i ≤ fHi sk i ∧ fHi sk i ≤ 1000
  isN : ∀ i, i < is.length → nameErr is i = 0
  isB : ∀ i, i < is.length → -300 ≤ bLo is i ∧ bLo is i ≤ bHi is i ∧ bHi is i ≤ 300
end Sp
theorem hasE_no {f : Nat → Int} : ∀ {n i : Nat}, Sp.hasE f i n = false → ∀ k, i ≤ k → k < i + n → f k = 0
  | 0, i, _, k, h1, h2 => by omega
  | n + 1, i, h, k, h1, h2 => by
    simp only [Sp.hasE, Bool.or_eq_false_iff, Bool.not_eq_false', decide_eq_true_eq] at h
    rcases Nat.eq_or_lt_of_le h1 with e | e
    · rw [← e]; exact h.1
    · exact hasE_no h.2 k (by omega) (by omega)
theorem hasE_of {f : Nat → Int} : ∀ {n i : Nat}, (∀ k, i ≤ k → k < i + n → f k = 0) → Sp.hasE f i n = false
  | 0, _, _ => rfl
  | n + 1, i, h => by
    simp only [Sp.hasE, Bool.or_eq_false_iff, Bool.not_eq_false', decide_eq_true_eq]
    exact ⟨h i (by omega) (by omega), hasE_of fun k h1 h2 => h k (by omega) (by omega)⟩
theorem hasE_at {f : Nat → Int} : ∀ {n i : Nat}, Sp.hasE f i n = true → f (Sp.idxE f i n) ≠ 0
  | 0, _, h => by simp [Sp.hasE] at h
  | n + 1, i, h => by
    simp only [Sp.hasE, Sp.idxE] at h ⊢
    by_cases e : f i = 0
    · rw [if_pos e]; exact hasE_at (by simpa [e] using h)
    · rw [if_neg e]; exact e
theorem skErr_iff {sk : Dt} {i : Nat} : Sp.skErr sk i = 0 ↔ Sp.nameErr sk i = 0 ∧ (0 ≤ Sp.gLo sk i ∧ Sp.gLo sk i ≤ Sp.gHi sk i ∧ Sp.gHi sk i ≤ 1000) ∧ (0 ≤ Sp.fLo sk i ∧ Sp.fLo sk i ≤ Sp.fHi sk i ∧ Sp.fHi sk i ≤ 1000) := by
  unfold Sp.skErr
  by_cases hn : Sp.nameErr sk i = 0
  · rw [if_pos hn]
    by_cases hi : (Sp.inr (Sp.gLo sk i) 0 1000 && (Sp.inr (Sp.gHi sk i) 0 1000 && (Sp.inr (Sp.fLo sk i) 0 1000 && Sp.inr (Sp.fHi sk i) 0 1000))) = true
    · rw [if_pos hi]
      simp only [Bool.and_eq_true, inr_iff] at hi
      split <;> omega
    · rw [if_neg hi]
      simp only [Bool.and_eq_true, inr_iff] at hi
      omega
  · rw [if_neg hn]; simp [hn]
theorem inErr_iff {is : Dt} {i : Nat} : Sp.inErr is i = 0 ↔ Sp.nameErr is i = 0 ∧ (-300 ≤ Sp.bLo is i ∧ Sp.bLo is i ≤ Sp.bHi is i ∧ Sp.bHi is i ≤ 300) := by
  unfold Sp.inErr Sp.spanE
  by_cases hn : Sp.nameErr is i = 0
  · rw [if_pos hn]
    by_cases hi : (Sp.inr (Sp.bLo is i) (-300) 300 && Sp.inr (Sp.bHi is i) (-300) 300) = true
    · rw [if_pos hi]
      simp only [Bool.and_eq_true, inr_iff] at hi
      split <;> omega
    · rw [if_neg hi]
      simp only [Bool.and_eq_true, inr_iff] at hi
      omega
  · rw [if_neg hn]; simp [hn]
theorem chk_iff {sk is : Dt} : Sp.chkE sk is = 0 ↔ Sp.SchOk sk is := by
  unfold Sp.chkE Sp.check
  by_cases h1 : (!(Sp.inr sk.length 1 5) || decide (6 < (is.length : Int))) = true
  · rw [if_pos h1]
    refine ⟨fun h => by simp at h, fun h => ?_⟩
    have := h.n1; have := h.n5; have := h.i6
    simp [Sp.inr] at h1; omega
  · rw [if_neg h1]
    simp only [Bool.or_eq_true, Bool.not_eq_true', decide_eq_true_eq, not_or, inr_ff] at h1
    by_cases h2 : Sp.hasE (Sp.skErr sk) 0 sk.length = true
    · rw [if_pos h2]
      refine ⟨fun h => absurd h (hasE_at h2), fun h => ?_⟩
      rw [hasE_of fun k _ hk => skErr_iff.2 ⟨h.skN k (by omega), h.skG k (by omega), h.skF k (by omega)⟩] at h2
      cases h2
    · rw [if_neg h2]
      by_cases h3 : Sp.hasE (Sp.inErr is) 0 is.length = true
      · rw [if_pos h3]
        refine ⟨fun h => absurd h (hasE_at h3), fun h => ?_⟩
        rw [hasE_of fun k _ hk => inErr_iff.2 ⟨h.isN k (by omega), h.isB k (by omega)⟩] at h3
        cases h3
      · rw [if_neg h3]
        have a2 := fun k (hk : k < sk.length) => skErr_iff.1 (hasE_no (Bool.not_eq_true _ ▸ h2) k (by omega) (by omega))
        have a3 := fun k (hk : k < is.length) => inErr_iff.1 (hasE_no (Bool.not_eq_true _ ▸ h3) k (by omega) (by omega))
        exact ⟨fun _ => ⟨by omega, by omega, by omega, fun k hk => (a2 k hk).1, fun k hk => (a2 k hk).2.1, fun k hk => (a2 k hk).2.2, fun k hk => (a3 k hk).1, fun k hk => (a3 k hk).2⟩, fun _ => rfl⟩
end Go.Proofs.Ytdokbocmgdhmmaa
