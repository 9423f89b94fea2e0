/-
  'BookFirsts': for every input the law returns true, and what is handed in reads as before. No condition.
-/
import Derived.Test.YtiiicnhjjfmpkaaQd
import Derived.Test.YtiiicnhjjfmpkaaProg
import Derived.IntWalk
set_option linter.unusedVariables false
set_option linter.unusedSectionVars false
set_option linter.unusedSimpArgs false
namespace Go.Proofs.Ytiiicnhjjfmpkaa.Bk
structure Car where
  name : ByteArray
  km : Int
  every : Int
  never : Int
structure Term where
  before : Int
  fee : Int
structure School where
  learners : List ByteArray
  cars : List Car
  price : Int
  excess : Int
  lo : Int
  hi : Int
  terms : List Term
def oob (lo hi n : Int) : Bool := decide (n < lo) || decide (hi < n)
def alpha (b : UInt8) : Bool := 97 <= b && b <= 122
def digit (b : UInt8) : Bool := 48 <= b && b <= 57
def nameFrom : List UInt8 -> Nat -> Bool
  | [], _ => true
  | b :: l, i => (alpha b || (i != 0 && digit b)) && nameFrom l (i + 1)
def nameOk (s : ByteArray) : Bool := nameFrom s.data.toList 0 && !oob 1 16 s.size
def idxFrom {α : Type} (p : α -> Bool) : List α -> Nat -> Int
  | [], _ => -1
  | x :: xs, i => if p x then (i : Int) else idxFrom p xs (i + 1)
theorem idxFrom_drop {α : Type} (p : α -> Bool) (xs : List α) (k : Nat) (h : k < xs.length) :
    idxFrom p (xs.drop k) k = if p xs[k] then (k : Int) else idxFrom p (xs.drop (k + 1)) (k + 1) := by
  rw [List.drop_eq_getElem_cons h]; rfl
theorem idxFrom_ge {α : Type} (p : α -> Bool) (xs : List α) (k : Nat) : 0 <= idxFrom p xs k ↔ xs.any p = true := by
  induction xs generalizing k with
  | nil => simp [idxFrom]
  | cons x xs ih =>
    simp only [idxFrom, List.any_cons, Bool.or_eq_true]
    by_cases h : p x = true
    · simp [h]
    · simp only [Bool.not_eq_true] at h;simp [h, ih]
def namedErr (names : List ByteArray) (i : Nat) : Int :=
  if !nameOk (names.getD i ByteArray.empty) then 6
  else if (names.take i).any (fun x => x.data.toList == (names.getD i ByteArray.empty).data.toList) then 5 else 0
def carErr (s : School) (i : Nat) (c : Car) : Int :=
  let e := namedErr (s.cars.map Car.name) i
  if e ≠ 0 then e
  else if oob 0 1000000 c.km || oob 1 1000000 c.every || oob 0 255 c.never then 7 else 0
def termErr (s : School) (i : Nat) (t : Term) : Int :=
  if oob 0 240 t.before || oob 0 1000 t.fee then 7
  else if decide (0 < i) && (decide ((s.terms.getD (i - 1) ⟨0, 0⟩).before <= t.before) || decide (t.fee < (s.terms.getD (i - 1) ⟨0, 0⟩).fee)) then 2 else 0
def firstErr {α : Type} (f : Nat -> α -> Int) : List α -> Nat -> Option (Int × Int)
  | [], _ => none
  | x :: xs, i => if f i x = 0 then firstErr f xs (i + 1) else some ((i : Int), f i x)
def pre (s : School) : Int :=
  if oob 1 8 (s.learners.length : Int) || oob 1 5 (s.cars.length : Int) || decide (4 < (s.terms.length : Int)) then 3
  else if oob 1 10000 s.price || oob 0 10000000 s.excess || oob 0 24 s.lo || oob 0 24 s.hi then 7
  else if decide (s.hi <= s.lo) then 2 else 0
def checkTerms (s : School) : Int × Int × Int :=
  match firstErr (termErr s) s.terms 0 with
  | some (i, e) => (4, i, e)
  | none => (0, 0, 0)
def checkCars (s : School) : Int × Int × Int :=
  match firstErr (carErr s) s.cars 0 with
  | some (i, e) => (3, i, e)
  | none => checkTerms s
def checkNames (s : School) : Int × Int × Int :=
  match firstErr (fun i _ => namedErr s.learners i) s.learners 0 with
  | some (i, e) => (2, i, e)
  | none => checkCars s
def check (s : School) : Int × Int × Int := if pre s ≠ 0 then (1, 0, pre s) else checkNames s
def part (s : School) (before : Int) : Int :=
  match s.terms.find? (fun t => decide (t.before <= before)) with
  | some t => t.fee
  | none => 1000
def feeOf (s : School) (hours before : Int) : Int := (hours * s.price * part s before + 999) / 1000
end Go.Proofs.Ytiiicnhjjfmpkaa.Bk
namespace Go.Proofs.Ytiiicnhjjfmpkaa
abbrev Iv11 : List Ty := [.int .i64, .int .i64, .int .i64, .int .i64, .int .i64, .int .i64, .int .i64, .int .i64, .int .i64, .int .i64, .int .i64]
abbrev Iv5 : List Ty := [.int .i64, .int .i64, .int .i64, .int .i64, .int .i64]
abbrev Iv4 : List Ty := [.int .i64, .int .i64, .int .i64, .int .i64]
abbrev Ivs : List Ty := [.str, .int .i64, .int .i64, .int .i64]
open Go.RowKit Bk
theorem cout1_any (n lo hi : Int) (b c : Nat) (w : World) (hb : w.cell? ⟨b, 0, none⟩ = some (.int .i64 lo)) (hc : w.cell? ⟨c, 0, none⟩ = some (.int .i64 hi)) :
    Calls Try.prog 89 #[.int .i64 n, .pointer (some ⟨b, 0, none⟩), .pointer (some ⟨c, 0, none⟩)] w fun e w' => e = .returned (.bool (oob lo hi n)) /\ w = w' := by
  go_enter Try.func89, Try.ntmps89
  go_wp2
  all_goals go_ret
  all_goals exact ⟨by simp [oob, *], rfl⟩
theorem indexFunc_int (g : Nat) (lb : Array Value) (p : Int -> Bool) (xs : List Int) (B : Nat) (v : Value) (w : World)
    (eg : ∀ args w, (callFunc g args).run Try.prog w = .ok (.enter g args) w)
    (hv : Ones w B v (xs.map (Value.int .i64)))
    (hp : ∀ x, Calls Try.prog g (#[.int .i64 x] ++ lb) w fun e w' => e = .returned (.bool (p x)) /\ w = w') :
    Calls Try.prog 77 #[v, .func (.func g) #[] lb] w fun e w' => e = .returned (.int .i64 (idxFrom p xs 0)) /\ w = w' := by
  obtain ⟨A, c, rfl, hcap, hbig⟩ := hv.form;simp only [List.length_map] at hbig hcap hv ⊢
  go_enter Try.func77, Try.ntmps77
  go_wp2
  go_loopg [5, 8] xs.length (fun gg _ s8 wr => ∃ kk : Nat, kk <= xs.length /\ xs.length - kk <= gg /\ s8 = .int .i64 kk /\ w = wr /\ Hid (idxFrom p (xs.drop kk) kk = idxFrom p xs 0))
  case atStart => exact ⟨0, Nat.zero_le _, by omega, rfl, rfl, rfl⟩
  case round =>
    obtain ⟨kk, hkk, hg, rfl, rfl, A⟩ := hrel
    by_cases hlt : kk < xs.length
    · have hltz : (kk : Int) < (xs.length : Int) := by omega
      obtain ⟨b, off, c', e, hcap', hb, hcell⟩ := hv.at_ (k := kk) (by simpa using hlt);rw [List.length_map] at e; cases e;simp only [List.getElem_map] at hcell;have hcall := hp xs[kk];have B := Lib.hid (idxFrom_drop p xs kk hlt);clear hp hv;generalize xs[kk] = y at hcell hcall B;cases hq : p y with
      | true =>
        rw [hq] at hcall;have Hq := Lib.hid hq;clear hq
        go_wp2_with (go_at_fn g; refine hcall.mono ?_; rintro e w' ⟨rfl, rfl⟩)
        go_ret
        refine ⟨?_, rfl⟩;rw [<- A.out, B.out, Hq.out]; rfl
      | false =>
        rw [hq] at hcall;have Hq := Lib.hid hq;clear hq
        go_wp2_with (go_at_fn g; refine hcall.mono ?_; rintro e w' ⟨rfl, rfl⟩)
        go_roundg (xs.length - (kk + 1))
        case measure => omega
        case rel =>
          refine ⟨kk + 1, by omega, by omega, by go_num, rfl, ?_⟩;rw [<- A.out, B.out, Hq.out]; rfl
    · have hltz : ¬ (kk : Int) < (xs.length : Int) := by omega
      have : kk = xs.length := by omega
      subst this
      go_wp2
      go_ret
      refine ⟨?_, rfl⟩;rw [<- A.out]; simp [idxFrom]
theorem containsFunc_int (g : Nat) (lb : Array Value) (p : Int -> Bool) (xs : List Int) (B : Nat) (v : Value) (w : World)
    (eg : ∀ args w, (callFunc g args).run Try.prog w = .ok (.enter g args) w)
    (hv : Ones w B v (xs.map (Value.int .i64)))
    (hp : ∀ x, Calls Try.prog g (#[.int .i64 x] ++ lb) w fun e w' => e = .returned (.bool (p x)) /\ w = w') :
    Calls Try.prog 57 #[v, .func (.func g) #[] lb] w fun e w' => e = .returned (.bool (xs.any p)) /\ w = w' := by
  have hi := indexFunc_int g lb p xs B v w eg hv hp;have he := idxFrom_ge p xs 0;clear hp hv eg;have He := Lib.hid he;clear he
  go_enter Try.func57, Try.ntmps57
  go_wp2_with (go_at_call 77; refine hi.mono ?_; rintro e w' ⟨rfl, rfl⟩)
  go_ret
  refine ⟨ret_bool ?_, rfl⟩;rw [Bool.eq_iff_iff, <- He.out]; simp
end Go.Proofs.Ytiiicnhjjfmpkaa
namespace Go.Proofs.Ytiiicnhjjfmpkaa
open Go.RowKit Bk
theorem Ones.mk1 {w : World} {B b : Nat} {x : Value} (hb : b < B) (h : w.cell? ⟨b, 0, none⟩ = some x) : Ones w B (.slice (some ⟨b, 0, none⟩) 1 1) [x] := by
  refine ⟨_, 1, rfl, by simp, by simp, fun _ => ⟨b, 0, rfl, hb, fun k r hk j u hj => ?_⟩⟩
  match k, hk with
  | 0, hk =>
    simp at hk; subst hk
    match j, hj with
    | 0, hj => simp at hj; subst hj; simpa using h
theorem cout_n1 (lo hi x : Int) (b : Nat) (w : World) (hb : b = w.heap.size) :
    Calls Try.prog 78 #[.int .i64 lo, .int .i64 hi, .slice (some ⟨b, 0, none⟩) 1 1] (w.alloc (.cells #[.int .i64 x] 3)) fun e w' => e = .returned (.bool (oob lo hi x)) /\ Below w.heap.size w w' := by
  subst hb;have hv : Ones (w.alloc (.cells #[.int .i64 x] 3)) (w.heap.size + 1) (.slice (some ⟨w.heap.size, 0, none⟩) 1 1) (([x] : List Int).map (Value.int .i64)) := Ones.mk1 (by omega) (by simp [go_sem]);have hbl : Below (w.heap.size + 1) (w.alloc (.cells #[.int .i64 x] 3)) (((w.alloc (.cells #[.int .i64 x] 3)).alloc (.cells #[.int .i64 lo] 3)).alloc (.cells #[.int .i64 hi] 3)) := ((Below.refl _ _).alloc (by simp) _).alloc (by simp) _;have hcall := containsFunc_int 89 #[.pointer (some ⟨w.heap.size + 1, 0, none⟩), .pointer (some ⟨w.heap.size + 2, 0, none⟩)] (oob lo hi) [x] _ _ _ (enters_of Try.func89 (by kernel_rfl) rfl) (hv.below hbl)
    (fun x => cout1_any x lo hi (w.heap.size + 1) (w.heap.size + 2) _ (by simp [go_sem]) (by simp [go_sem]))
  clear hv;simp only [List.any_cons, List.any_nil, Bool.or_false] at hcall
  go_enter Try.func78, Try.ntmps78
  go_wp2_with (go_at_call 57; refine hcall.mono ?_; rintro e w' ⟨rfl, rfl⟩)
  go_ret
  exact ⟨rfl, ((Below.refl _ _).alloc (Nat.le_refl _) _).trans (hbl.mono (by omega))⟩
theorem nameFrom_drop (l : List UInt8) (k : Nat) (h : k < l.length) : nameFrom (l.drop k) k = ((alpha l[k] || (k != 0 && digit l[k])) && nameFrom (l.drop (k + 1)) (k + 1)) := by
  rw [List.drop_eq_getElem_cons h]; rfl
theorem name_ok (b : UInt8) (k : Nat) : (alpha b || (k != 0 && digit b)) = true ↔ ((97 <= (b.toNat : Int) /\ (b.toNat : Int) <= 122) \/ (k ≠ 0 /\ 48 <= (b.toNat : Int) /\ (b.toNat : Int) <= 57)) := by
  simp only [alpha, digit, Bool.or_eq_true, Bool.and_eq_true, decide_eq_true_eq, bne_iff_ne, UInt8.le_iff_toNat_le];have : (97 : UInt8).toNat = 97 := rfl;have : (122 : UInt8).toNat = 122 := rfl;have : (48 : UInt8).toNat = 48 := rfl;have : (57 : UInt8).toNat = 57 := rfl;omega
theorem bl_iter (w : World) (s : ByteArray) (pos : Nat) : Below w.heap.size w (w.iter s pos) := (Below.refl _ _).alloc (Nat.le_refl _) _
theorem rune_cases (s : ByteArray) (pos : Nat) (h : pos < s.size) :
    (∃ b : UInt8, s.data.toList[pos]? = some b /\ (Utf8.decode s pos).1 = b.toNat /\ (Utf8.decode s pos).2 = 1 /\ b.toNat < 128) \/
    (∃ b : UInt8, s.data.toList[pos]? = some b /\ 128 <= b.toNat /\ 128 <= (Utf8.decode s pos).1) := by
  have hl : pos < s.data.toList.length := by simpa using h
  have hg : s.data.toList[pos]? = some (s[pos]'h) := by rw [List.getElem?_eq_getElem hl]; simp; rfl
  by_cases ha : (s[pos]'h).toNat < 128
  · exact .inl ⟨_, hg, by rw [decode_ascii s pos h ha], by rw [decode_ascii s pos h ha], ha⟩
  · exact .inr ⟨_, hg, by omega, (decode_high s pos h (by omega)).1⟩
theorem nameFrom_at (l : List UInt8) (k : Nat) (b : UInt8) (h : l[k]? = some b) : nameFrom (l.drop k) k = ((alpha b || (k != 0 && digit b)) && nameFrom (l.drop (k + 1)) (k + 1)) := by
  obtain ⟨hk, rfl⟩ := List.getElem?_eq_some_iff.1 h;exact nameFrom_drop l k hk
def goodRune (c : Int) (k : Nat) : Bool := decide (97 <= c /\ c <= 122) || (decide (k ≠ 0) && decide (48 <= c /\ c <= 57))
theorem rune_step (s : ByteArray) (pos : Nat) (h : pos < s.size) :
    (goodRune (Utf8.decode s pos).1 pos = true /\ (Utf8.decode s pos).2 = 1 /\ nameFrom (s.data.toList.drop pos) pos = nameFrom (s.data.toList.drop (pos + 1)) (pos + 1)) \/
    (goodRune (Utf8.decode s pos).1 pos = false /\ nameFrom (s.data.toList.drop pos) pos = false) := by
  have hn := fun b => name_ok b pos;rcases rune_cases s pos h with ⟨b, hb, e1, e2, hlt⟩ | ⟨b, hb, hlt, hge⟩
  · rw [nameFrom_at _ _ _ hb, e1];have hb' := hn b
    by_cases hg : goodRune b.toNat pos = true
    · refine .inl ⟨hg, e2, ?_⟩;have : (alpha b || (pos != 0 && digit b)) = true := by rw [hb']; simpa [goodRune] using hg
      rw [this]; rfl
    · refine .inr ⟨by simpa using hg, ?_⟩;have : (alpha b || (pos != 0 && digit b)) = false := by rw [Bool.eq_false_iff, Ne, hb']; simpa [goodRune] using hg
      rw [this]; rfl
  · refine .inr ⟨?_, ?_⟩
    · simp only [goodRune, Bool.or_eq_false_iff, Bool.and_eq_false_iff, decide_eq_false_iff_not]; omega
    · rw [nameFrom_at _ _ _ hb];have : (alpha b || (pos != 0 && digit b)) = false := by
        rw [Bool.eq_false_iff, Ne, hn b]; omega
      rw [this]; rfl
theorem cname_any (s : ByteArray) (w : World) :
    Calls Try.prog 59 #[.string s] w fun e w' => e = .returned (.bool (nameOk s)) /\ Below w.heap.size w w' := by
  go_enter Try.func59, Try.ntmps59
  go_wp2
  go_loopw [3, 4] (fun _ _ w' => ∃ pos : Nat, w' = w.iter s pos /\ Hid (nameFrom (s.data.toList.drop pos) pos = nameFrom s.data.toList 0)) (fun _ _ w' => s.size - w'.iterPos w.heap.size)
  case atStart => exact ⟨0, rfl, rfl⟩
  case round =>
    obtain ⟨pos, rfl, A⟩ := hrel
    by_cases hp : pos < s.size
    · have hnx : ∀ ty, (Instr.next (.pointer (some ⟨w.heap.size, 0, none⟩)) true ty).run Try.prog (w.iter s pos) = _ := fun ty => run_next_any w s pos ty hp;rcases rune_step s pos hp with ⟨hg, h1, hn⟩ | ⟨hg, hn⟩
      · rw [h1] at hnx;generalize (Utf8.decode s pos).1 = c at hg hnx;have N := Lib.hid hn;clear hn h1;have hg' : (97 <= (c : Int) /\ (c : Int) <= 122) \/ (pos ≠ 0 /\ 48 <= (c : Int) /\ (c : Int) <= 57) := by simpa [goodRune] using hg
        clear hg
        by_cases h1 : 97 <= (c : Int) /\ (c : Int) <= 122
        · obtain ⟨ha, hb⟩ := h1;clear hg'
          go_wp2
          go_roundw
          case rel => exact ⟨pos + 1, rfl, (N.out.symm.trans A.out)⟩
          case measure => simp; omega
        · have hg2 : pos ≠ 0 /\ 48 <= (c : Int) /\ (c : Int) <= 57 := by omega
          obtain ⟨hp0, ha, hb⟩ := hg2;have hp1 : ((pos : Int) == 0) = false := by rw [beq_eq_false_iff_ne]; omega
          have hp2 : 0 < (pos : Int) := by omega
          clear hg' h1 hp0
          go_wp2
          all_goals go_roundw
          case rel => exact ⟨pos + 1, rfl, (N.out.symm.trans A.out)⟩
          case measure => simp; omega
      · generalize (Utf8.decode s pos).1 = c at hg hnx;have N := Lib.hid hn;clear hn;have hg' : ¬ ((97 <= (c : Int) /\ (c : Int) <= 122) \/ (pos ≠ 0 /\ 48 <= (c : Int) /\ (c : Int) <= 57)) := by simpa [goodRune] using hg
        clear hg;have hfin : nameOk s = false := by unfold nameOk; rw [<- A.out, N.out]; rfl
        have F := Lib.hid hfin;clear hfin A N;rcases (by omega : (c : Int) < 97 \/ 122 < (c : Int)) with h1 | h1
        all_goals
          by_cases hp0 : pos = 0
          · subst hp0;clear hg'
            go_wp2
            go_ret
            exact ⟨ret_bool F.out.symm, bl_iter _ _ _⟩
          · have hp1 : ((pos : Int) == 0) = false := by rw [beq_eq_false_iff_ne]; omega
            have hp2 : 0 < (pos : Int) := by omega
            rcases (by omega : (c : Int) < 48 \/ 57 < (c : Int)) with h2 | h2
            all_goals
              clear hg' hp0
              go_wp2
              all_goals go_ret
              all_goals exact ⟨ret_bool F.out.symm, bl_iter _ _ _⟩
    · have hnx : ∀ ty, (Instr.next (.pointer (some ⟨w.heap.size, 0, none⟩)) true ty).run Try.prog (w.iter s pos) = _ := fun ty => run_next_end w s pos ty hp;have hfin : nameFrom s.data.toList 0 = true := by
        rw [<- A.out, List.drop_eq_nil_of_le (by simp; omega)]; rfl
      have F := Lib.hid hfin;clear hfin A
      go_wp2_with (go_at_call 78; refine (cout_n1 _ _ _ _ _ rfl).mono ?_; rintro e w' ⟨rfl, hb⟩)
      go_ret
      refine ⟨ret_bool ?_, ((bl_iter _ _ _).trans (hb.mono (by simp [World.iter])))⟩;unfold nameOk;rw [F.out]; simp
end Go.Proofs.Ytiiicnhjjfmpkaa
namespace Go.Proofs.Ytiiicnhjjfmpkaa
open Go.RowKit Bk
theorem alpha_iff (b : UInt8) : alpha b = true ↔ (97 <= (b.toNat : Int) /\ (b.toNat : Int) <= 122) := by
  have := name_ok b 0;simp at this;exact this
theorem digit_iff (b : UInt8) : digit b = true ↔ (48 <= (b.toNat : Int) /\ (b.toNat : Int) <= 57) := by
  simp only [digit, Bool.and_eq_true, decide_eq_true_eq, UInt8.le_iff_toNat_le];have : (48 : UInt8).toNat = 48 := rfl;have : (57 : UInt8).toNat = 57 := rfl;omega
theorem oob_alpha (b : UInt8) : oob 97 122 b.toNat = !alpha b := by
  rw [Bool.eq_iff_iff]; simp only [oob, Bool.or_eq_true, decide_eq_true_eq, Bool.not_eq_true', Bool.eq_false_iff, Ne, alpha_iff]; omega
theorem oob_digit (b : UInt8) : oob 48 57 b.toNat = !digit b := by
  rw [Bool.eq_iff_iff]; simp only [oob, Bool.or_eq_true, decide_eq_true_eq, Bool.not_eq_true', Bool.eq_false_iff, Ne, digit_iff]; omega
theorem in1_any (n lo hi : Int) (w : World) : Calls Try.prog 64 #[.int .i64 n, .int .i64 lo, .int .i64 hi] w fun e w' => e = .returned (.bool (!oob lo hi n)) /\ w = w' := by
  go_enter Try.func64, Try.ntmps64
  go_wp2
  all_goals go_ret
  all_goals exact ⟨ret_bool (by simp only [oob]; rw [Bool.eq_iff_iff]; simp; omega), rfl⟩
theorem in1_alpha (b : UInt8) (w : World) : Calls Try.prog 64 #[.int .i64 (b.toNat : Int), .int .i64 97, .int .i64 122] w fun e w' => e = .returned (.bool (alpha b)) /\ w = w' := by
  have h := in1_any b.toNat 97 122 w;rw [oob_alpha, Bool.not_not] at h; exact h
theorem in1_digit (b : UInt8) (w : World) : Calls Try.prog 64 #[.int .i64 (b.toNat : Int), .int .i64 48, .int .i64 57] w fun e w' => e = .returned (.bool (digit b)) /\ w = w' := by
  have h := in1_any b.toNat 48 57 w;rw [oob_digit, Bool.not_not] at h; exact h
set_option maxHeartbeats 1000000 in
theorem rname_any (s : ByteArray) (w : World) (hs : s.size <= 9223372036854775807) :
    Calls Try.prog 44 #[.string s] w fun e w' => e = .returned (.bool (nameOk s)) /\ w = w' := by
  have h16 := in1_any s.size 1 16 w
  by_cases hl : oob 1 16 s.size = true
  · have hfin : nameOk s = false := by simp only [nameOk, hl]; simp
    rw [hl] at h16;have F := Lib.hid hfin;clear hfin hl
    go_enter Try.func44, Try.ntmps44
    go_wp2_with (go_at_call 64; refine h16.mono ?_; rintro e w' ⟨rfl, rfl⟩)
    go_ret
    exact ⟨ret_bool F.out.symm, rfl⟩
  · simp only [Bool.not_eq_true] at hl;rw [hl] at h16;have hb : 1 <= s.size /\ s.size <= 16 := by simp only [oob, Bool.or_eq_false_iff, decide_eq_false_iff_not] at hl; omega
    obtain ⟨hb1, hb2⟩ := hb;have hpos : 0 < s.size := by omega
    have hN : nameOk s = nameFrom s.data.toList 0 := by simp [nameOk, hl]
    have HN := Lib.hid hN;clear hN hl;have h0 : nameFrom s.data.toList 0 = (alpha s[0] && nameFrom (s.data.toList.drop 1) 1) := by
      have := nameFrom_drop s.data.toList 0 (by simpa using hpos);simp only [List.drop_zero] at this;rw [this];have e : s.data.toList[0]'(by simpa using hpos) = s[0] := by simp; rfl
      rw [e]; simp
    have hget : ∀ k (h : k < s.size), s.data.toList[k]'(by simpa using h) = s[k] := fun k h => by simp; rfl
    have hc0 := in1_alpha s[0] w;have hby : (s[0].toNat : Int) <= 255 := by have := s[0].toNat_lt; omega
    cases ha : alpha s[0] with
    | false =>
      rw [ha] at h0 hc0;have F := Lib.hid (HN.out.trans h0);clear h0 hget;have Ha := Lib.hid ha;clear ha
      go_enter Try.func44, Try.ntmps44
      go_wp2_with (first | (go_at_call 64; ((with_reducible refine h16.mono ?_); rintro e w' ⟨rfl, rfl⟩)) | (go_at_call 64; ((with_reducible refine hc0.mono ?_); rintro e w' ⟨rfl, rfl⟩)))
      go_ret
      exact ⟨ret_bool F.out.symm, rfl⟩
    | true =>
      rw [ha] at h0 hc0;have H0 := Lib.hid ha;have HG := Lib.hid hget;clear h0 hget ha
      go_enter Try.func44, Try.ntmps44
      go_wp2_with (first | (go_at_call 64; ((with_reducible refine h16.mono ?_); rintro e w' ⟨rfl, rfl⟩)) | (go_at_call 64; ((with_reducible refine hc0.mono ?_); rintro e w' ⟨rfl, rfl⟩)))
      clear hc0 h16 hby
      go_loop [3] (fun i => ∃ k : Nat, k <= s.size /\ i = .int .i64 k /\ Hid (nameFrom (s.data.toList.drop k) k = nameFrom s.data.toList 0)) (fun i => s.size - (intOf i).toNat)
      case atStart => exact ⟨0, Nat.zero_le _, rfl, rfl⟩
      case round =>
        obtain ⟨k, hk, rfl, A⟩ := hrel
        by_cases hlt : k < s.size
        · have hltz : (k : Int) < (s.size : Int) := by omega
          have hd := nameFrom_drop s.data.toList k (by simpa using hlt);rw [HG.out k hlt] at hd;have h1 := in1_alpha s[k] w;have h2 := in1_digit s[k] w;have hby : (s[k].toNat : Int) <= 255 := by have := s[k].toNat_lt; omega
          have H00 : Hid (k = 0 -> alpha s[k] = true) := fun e => by subst e; exact H0.out
          cases ha : alpha s[k] with
          | true =>
            rw [ha] at hd h1;simp only [Bool.true_or, Bool.true_and] at hd;have D := Lib.hid hd;clear hd ha h2 H00
            go_wp2_with (go_at_call 64; ((with_reducible refine h1.mono ?_); rintro e w' ⟨rfl, rfl⟩))
            go_round
            case rel => exact ⟨k + 1, by omega, by go_num, D.out.symm.trans A.out⟩
            case measure => simp [intOf]; omega
          | false =>
            rw [ha] at hd h1;have hk0 : k ≠ 0 := fun e => by have := H00.out e; rw [ha] at this; cases this
            clear H00;cases hg : digit s[k] with
            | true =>
              rw [hg] at hd h2;simp only [Bool.false_or, Bool.and_true, bne_iff_ne.2 hk0, Bool.true_and] at hd;have D := Lib.hid hd;clear hd ha hg hk0
              go_wp2_with (first | (go_at_call 64; ((with_reducible refine h1.mono ?_); rintro e w' ⟨rfl, rfl⟩)) | (go_at_call 64; ((with_reducible refine h2.mono ?_); rintro e w' ⟨rfl, rfl⟩)))
              go_round
              case rel => exact ⟨k + 1, by omega, by go_num, D.out.symm.trans A.out⟩
              case measure => simp [intOf]; omega
            | false =>
              rw [hg] at hd h2;simp only [Bool.false_or, Bool.and_false, Bool.false_and] at hd;have D := Lib.hid hd;clear hd ha hg hk0
              go_wp2_with (first | (go_at_call 64; ((with_reducible refine h1.mono ?_); rintro e w' ⟨rfl, rfl⟩)) | (go_at_call 64; ((with_reducible refine h2.mono ?_); rintro e w' ⟨rfl, rfl⟩)))
              go_ret
              exact ⟨ret_bool (by rw [HN.out, <- A.out, D.out]), rfl⟩
        · go_wp2
          go_ret
          refine ⟨ret_bool ?_, rfl⟩;rw [HN.out, <- A.out, List.drop_eq_nil_of_le (by simp; omega)]; rfl
end Go.Proofs.Ytiiicnhjjfmpkaa
namespace Go.Proofs.Ytiiicnhjjfmpkaa
set_option maxRecDepth 100000
def TT [InW] : Tr TI :=
  (.node (.node (.node (.node (.node (.node (.node (.node .nil ⟨(some true), (some 7), (some [.v (.nilFunc), .v (.nilFunc), .v (.nilFunc), .v (.nilFunc), .v (.nilFunc), .v (.nilFunc), .v (.nilFunc)]), [], none, (some (7, 1, false))⟩
 .nil) ⟨(some true), (some 5), (some [.v (.int .i64 0), .v (.int .i64 0), .v (.int .i64 0), .v (.int .i64 0), .v (.int .i64 0)]), [(some (0, 1)), (some (1, 1)), (some (2, 1)), (some (3, 1)), (some (4, 1))], none, none⟩
 (.node .nil ⟨none, none, none, [], none, none⟩
 .nil)) ⟨(some false), (some 1), (some [.v (.tuple #[.int .i64 0, .int .i64 0, .int .i64 0])]), [], none, none⟩
 (.node (.node .nil ⟨(some true), (some 11), (some [.v (.int .u64 0), .v (.int .u64 0), .v (.int .u32 0), .v (.int .u8 0), .v (.int .u8 0), .v (.int .u8 0), .v (.int .u8 0), .v (.nilFunc), .v (.pointer none), .v (.int .i32 0), .v (.int .i32 0)]), [(some (0, 1)), (some (1, 1)), (some (2, 1)), (some (3, 1)), (some (4, 1)), (some (5, 1)), (some (6, 1)), (some (7, 1)), (some (8, 1)), (some (9, 1)), (some (10, 1))], none, none⟩
 .nil) ⟨(some true), (some 15), (some [.v (.slice none 0 0), .v (.slice none 0 0), .v (.int .i64 0), .v (.int .i64 0), .v (.int .i64 0), .v (.int .i64 0), .v (.slice none 0 0), .v (.slice none 0 0), .v (.slice none 0 0), .v (.slice none 0 0), .v (.slice none 0 0), .v (.map none), .v (.slice none 0 0), .v (.int .i64 0), .v (.int .i64 0)]), [(some (0, 7)), (some (7, 4)), (some (11, 1)), (some (12, 1)), (some (13, 1)), (some (14, 1))], none, none⟩
 (.node .nil ⟨none, none, none, [], none, none⟩
 .nil))) ⟨(some false), (some 1), (some [.v (.pointer none)]), [], none, none⟩
 (.node (.node (.node .nil ⟨(some false), (some 1), (some [.v (.nilFunc)]), [], none, none⟩
 .nil) ⟨(some false), (some 1), (some [.v (.nilFunc)]), [], none, none⟩
 (.node .nil ⟨none, none, none, [], none, none⟩
 .nil)) ⟨(some false), (some 1), (some [.v (.slice none 0 0)]), [], (some (61, 4, 32, [.v (.int .i64 0), .v (.int .i64 0), .v (.int .i64 0), .v (.int .i64 0)])), none⟩
 (.node (.node .nil ⟨none, none, none, [], none, none⟩
 .nil) ⟨(some false), (some 1), (some [.v (.nilFunc)]), [], none, none⟩
 (.node .nil ⟨none, none, none, [], none, none⟩
 .nil)))) ⟨(some true), (some 4), (some [.v (.int .i64 0), .v (.int .i64 0), .v (.bool false), .v (.int .u8 0)]), [(some (0, 1)), (some (1, 1)), (some (2, 1)), (some (3, 1))], none, none⟩
 (.node (.node (.node (.node .nil ⟨(some false), (some 1), (some [.v (.nilFunc)]), [], none, none⟩
 .nil) ⟨(some false), (some 1), (some [.v (.nilFunc)]), [], none, none⟩
 (.node .nil ⟨none, none, none, [], none, none⟩
 .nil)) ⟨(some false), (some 1), (some [.v (.slice none 0 0)]), [], (some (63, 5, 40, [.v (.int .i64 0), .v (.int .i64 0), .v (.int .i64 0), .v (.int .i64 0), .v (.int .i64 0)])), none⟩
 (.node (.node .nil ⟨none, none, none, [], none, none⟩
 .nil) ⟨(some false), (some 1), (some [.v (.nilFunc)]), [], none, none⟩
 (.node .nil ⟨none, none, none, [], none, none⟩
 .nil))) ⟨(some false), (some 1), (some [.v (.slice none 0 0)]), [], (some (67, 4, 40, [.v (.string ByteArray.empty), .v (.int .i64 0), .v (.int .i64 0), .v (.int .i64 0)])), none⟩
 (.node (.node (.node .nil ⟨(some false), (some 1), (some [.v (.int .u32 0)]), [], none, none⟩
 .nil) ⟨(some false), (some 1), (some [.v (.nilFunc)]), [], none, none⟩
 (.node .nil ⟨none, none, none, [], none, none⟩
 .nil)) ⟨(some false), (some 1), (some [.v (.nilFunc)]), [], none, none⟩
 (.node (.node .nil ⟨none, none, none, [], none, none⟩
 .nil) ⟨(some false), (some 1), (some [.v (.nilFunc)]), [], none, none⟩
 (.node .nil ⟨none, none, none, [], none, none⟩
 .nil))))) ⟨(some false), (some 1), (some [.v (.int .i64 0)]), [], none, none⟩
 (.node (.node (.node (.node (.node .nil ⟨(some false), (some 1), (some [.v (.nilFunc)]), [], none, none⟩
 .nil) ⟨(some true), (some 4), (some [.v (.string ByteArray.empty), .v (.int .i64 0), .v (.int .i64 0), .v (.int .i64 0)]), [(some (0, 1)), (some (1, 1)), (some (2, 1)), (some (3, 1))], none, none⟩
 (.node .nil ⟨none, none, none, [], none, none⟩
 .nil)) ⟨(some false), (some 1), (some [.v (.nilFunc)]), [], none, none⟩
 (.node (.node .nil ⟨none, none, none, [], none, none⟩
 .nil) ⟨(some false), (some 1), (some [.v (.tuple #[.agg #[.slice none 0 0, .slice none 0 0, .slice none 0 0, .slice none 0 0, .slice none 0 0, .slice none 0 0, .int .i64 0], .slice none 0 0, .int .i64 0])]), [], none, none⟩
 (.node .nil ⟨none, none, none, [], none, none⟩
 .nil))) ⟨(some true), (some 1), (some [.v (.pointer none)]), [(some (0, 1))], none, none⟩
 (.node (.node (.node .nil ⟨(some true), (some 4), (some [.v (.pointer none), .v (.pointer none), .v (.pointer none), .v (.string ByteArray.empty)]), [(some (0, 1)), (some (1, 1)), (some (2, 1)), (some (3, 1))], none, none⟩
 .nil) ⟨(some false), (some 1), (some [.v (.nilFunc)]), [], none, none⟩
 (.node .nil ⟨none, none, none, [], none, none⟩
 .nil)) ⟨(some false), (some 1), (some [.v (.nilFunc)]), [], none, none⟩
 (.node (.node .nil ⟨none, none, none, [], none, none⟩
 .nil) ⟨(some false), (some 1), (some [.v (.nilFunc)]), [], none, none⟩
 (.node .nil ⟨none, none, none, [], none, none⟩
 .nil)))) ⟨(some false), (some 1), (some [.v (.string ByteArray.empty)]), [], none, none⟩
 (.node (.node (.node (.node .nil ⟨(some false), (some 1), (some [.v (.nilFunc)]), [], none, none⟩
 .nil) ⟨(some true), (some 2), (some [.v (.int .u8 0), .v (.int .u8 0)]), [], none, (some (2, 1, false))⟩
 (.node .nil ⟨none, none, none, [], none, none⟩
 .nil)) ⟨(some false), (some 1), (some [.v (.tuple #[.slice none 0 0, .agg #[.slice none 0 0, .slice none 0 0, .slice none 0 0, .slice none 0 0], .int .i64 0])]), [], none, none⟩
 (.node (.node .nil ⟨none, none, none, [], none, none⟩
 .nil) ⟨(some false), (some 1), (some [.v (.nilFunc)]), [], none, none⟩
 (.node .nil ⟨none, none, none, [], none, none⟩
 .nil))) ⟨(some true), (some 7), (some [.v (.slice none 0 0), .v (.slice none 0 0), .v (.int .i64 0), .v (.int .i64 0), .v (.int .i64 0), .v (.int .i64 0), .v (.slice none 0 0)]), [(some (0, 1)), (some (1, 1)), (some (2, 1)), (some (3, 1)), (some (4, 2)), (some (6, 1))], none, none⟩
 (.node (.node (.node .nil ⟨(some false), (some 1), (some [.v (.pointer none)]), [], none, none⟩
 .nil) ⟨(some false), (some 1), (some [.v (.tuple #[.pointer none, .slice none 0 0, .int .i64 0])]), [], none, none⟩
 (.node .nil ⟨none, none, none, [], none, none⟩
 .nil)) ⟨(some false), (some 1), (some [.v (.nilFunc)]), [], none, none⟩
 (.node (.node .nil ⟨none, none, none, [], none, none⟩
 .nil) ⟨(some false), (some 1), (some [.v (.nilFunc)]), [], none, none⟩
 (.node .nil ⟨none, none, none, [], none, none⟩
 .nil)))))) ⟨(some false), (some 1), (some [.v (.nilFunc)]), [], none, none⟩
 (.node (.node (.node (.node (.node (.node .nil ⟨(some false), (some 1), (some [.v (.nilFunc)]), [], none, none⟩
 .nil) ⟨(some true), (some 11), (some [.v (.int .i64 0), .v (.int .i64 0), .v (.int .i64 0), .v (.int .i64 0), .v (.int .i64 0), .v (.int .i64 0), .v (.int .i64 0), .v (.int .i64 0), .v (.int .i64 0), .v (.int .i64 0), .v (.int .i64 0)]), [(some (0, 1)), (some (1, 1)), (some (2, 1)), (some (3, 1)), (some (4, 1)), (some (5, 1)), (some (6, 1)), (some (7, 1)), (some (8, 1)), (some (9, 1)), (some (10, 1))], none, none⟩
 (.node .nil ⟨none, none, none, [], none, none⟩
 .nil)) ⟨(some false), (some 1), (some [.v (.tuple #[.int .i64 0, .int .i64 0])]), [], none, none⟩
 (.node (.node .nil ⟨none, none, none, [], none, none⟩
 .nil) ⟨(some true), (some 7), (some [.v (.slice none 0 0), .v (.slice none 0 0), .v (.slice none 0 0), .v (.slice none 0 0), .v (.slice none 0 0), .v (.slice none 0 0), .v (.int .i64 0)]), [(some (0, 4)), (some (4, 1)), (some (5, 1)), (some (6, 1))], none, none⟩
 (.node .nil ⟨none, none, none, [], none, none⟩
 .nil))) ⟨(some false), (some 1), (some [.v (.pointer none)]), [], none, none⟩
 (.node (.node (.node .nil ⟨(some false), (some 1), (some [.v (.nilFunc)]), [], none, none⟩
 .nil) ⟨(some false), (some 1), (some [.v (.nilFunc)]), [], none, none⟩
 (.node .nil ⟨none, none, none, [], none, none⟩
 .nil)) ⟨(some false), (some 1), (some [.v (.nilFunc)]), [], none, none⟩
 (.node (.node .nil ⟨none, none, none, [], none, none⟩
 .nil) ⟨(some false), (some 1), (some [.v (.nilFunc)]), [], none, none⟩
 (.node .nil ⟨none, none, none, [], none, none⟩
 .nil)))) ⟨(some false), (some 1), (some [.v (.string ByteArray.empty)]), [], none, none⟩
 (.node (.node (.node (.node .nil ⟨(some false), (some 1), (some [.v (.nilFunc)]), [], none, none⟩
 .nil) ⟨(some true), (some 3), (some [.v (.int .u16 0), .v (.int .u16 0), .v (.int .u16 0)]), [], none, (some (3, 1, false))⟩
 (.node .nil ⟨none, none, none, [], none, none⟩
 .nil)) ⟨(some true), (some 4), (some [.v (.slice none 0 0), .v (.slice none 0 0), .v (.slice none 0 0), .v (.slice none 0 0)]), [(some (0, 1)), (some (1, 1)), (some (2, 1)), (some (3, 1))], none, none⟩
 (.node (.node .nil ⟨none, none, none, [], none, none⟩
 .nil) ⟨(some false), (some 1), (some [.v (.nilFunc)]), [], none, none⟩
 (.node .nil ⟨none, none, none, [], none, none⟩
 .nil))) ⟨(some true), (some 2), (some [.v (.int .i64 0), .v (.int .i64 0)]), [(some (0, 1)), (some (1, 1))], none, none⟩
 (.node (.node (.node .nil ⟨(some false), (some 1), (some [.v (.int .u8 0)]), [], none, none⟩
 .nil) ⟨(some false), (some 1), (some [.v (.nilFunc)]), [], none, none⟩
 (.node .nil ⟨none, none, none, [], none, none⟩
 .nil)) ⟨(some false), (some 1), (some [.v (.nilFunc)]), [], none, none⟩
 (.node (.node .nil ⟨none, none, none, [], none, none⟩
 .nil) ⟨(some false), (some 1), (some [.v (.nilFunc)]), [], none, none⟩
 (.node .nil ⟨none, none, none, [], none, none⟩
 .nil))))) ⟨(some false), (some 1), (some [.v (.int .u8 0)]), [], none, none⟩
 (.node (.node (.node (.node (.node .nil ⟨(some true), (some 2), (some [.v (.int .i64 0), .v (.int .i64 0)]), [(some (0, 1)), (some (1, 1))], none, none⟩
 .nil) ⟨(some false), (some 1), (some [.v (.nilFunc)]), [], none, none⟩
 (.node .nil ⟨none, none, none, [], none, none⟩
 .nil)) ⟨(some false), (some 1), (some [.v (.slice none 0 0)]), [], (some (65, 11, 88, [.v (.int .i64 0), .v (.int .i64 0), .v (.int .i64 0), .v (.int .i64 0), .v (.int .i64 0), .v (.int .i64 0), .v (.int .i64 0), .v (.int .i64 0), .v (.int .i64 0), .v (.int .i64 0), .v (.int .i64 0)])), none⟩
 (.node (.node .nil ⟨none, none, none, [], none, none⟩
 .nil) ⟨(some false), (some 1), (some [.v (.nilFunc)]), [], none, none⟩
 (.node .nil ⟨none, none, none, [], none, none⟩
 .nil))) ⟨(some false), (some 1), (some [.v (.int .i32 0)]), [], none, none⟩
 (.node (.node (.node .nil ⟨(some true), (some 0), (some []), [(some (0, 0))], none, none⟩
 .nil) ⟨(some true), (some 2), (some [.v (.int .i64 0), .v (.int .i64 0)]), [(some (0, 1)), (some (1, 1))], none, none⟩
 (.node .nil ⟨none, none, none, [], none, none⟩
 .nil)) ⟨(some false), (some 1), (some [.v (.nilFunc)]), [], none, none⟩
 (.node (.node .nil ⟨none, none, none, [], none, none⟩
 .nil) ⟨(some false), (some 1), (some [.v (.nilFunc)]), [], none, none⟩
 (.node .nil ⟨none, none, none, [], none, none⟩
 .nil)))) ⟨(some true), (some 2), (some [.v (.string ByteArray.empty), .v (.int .u64 0)]), [(some (0, 1)), (some (1, 1))], none, none⟩
 (.node (.node (.node (.node .nil ⟨(some false), (some 1), (some [.v (.nilFunc)]), [], none, none⟩
 .nil) ⟨(some true), (some 5), (some [.v (.int .u16 0), .v (.int .u16 0), .v (.int .u16 0), .v (.int .u16 0), .v (.int .u16 0)]), [], none, (some (5, 1, false))⟩
 (.node .nil ⟨none, none, none, [], none, none⟩
 .nil)) ⟨(some false), (some 1), (some [.v (.nilFunc)]), [], none, none⟩
 (.node (.node .nil ⟨none, none, none, [], none, none⟩
 .nil) ⟨(some false), (some 1), (some [.v (.nilFunc)]), [], none, none⟩
 (.node .nil ⟨none, none, none, [], none, none⟩
 .nil))) ⟨(some true), (some 2), (some [.v (.int .i64 0), .v (.int .i64 0)]), [], none, (some (2, 1, false))⟩
 (.node (.node (.node .nil ⟨(some false), (some 1), (some [.v (.int .i32 0)]), [], none, none⟩
 .nil) ⟨(some false), (some 1), (some [.v (.map none)]), [], none, none⟩
 (.node .nil ⟨none, none, none, [], none, none⟩
 .nil)) ⟨(some true), (some 4), (some [.v (.int .i64 0), .v (.int .i64 0), .v (.int .i64 0), .v (.int .i64 0)]), [(some (0, 1)), (some (1, 1)), (some (2, 1)), (some (3, 1))], none, none⟩
 (.node (.node .nil ⟨none, none, none, [], none, none⟩
 .nil) ⟨(some false), (some 1), (some [.v (.nilFunc)]), [], none, none⟩
 (.node .nil ⟨none, none, none, [], none, none⟩
 .nil))))))) ⟨(some false), (some 1), (some [.v (.tuple #[])]), [], none, none⟩
 (.node (.node (.node (.node (.node (.node (.node .nil ⟨(some false), (some 1), (some [.v (.nilFunc)]), [], none, none⟩
 .nil) ⟨(some true), (some 11), (some [.v (.int .i64 0), .v (.int .i64 0), .v (.int .i64 0), .v (.int .i64 0), .v (.int .i64 0), .v (.int .i64 0), .v (.int .i64 0), .v (.int .i64 0), .v (.int .i64 0), .v (.int .i64 0), .v (.int .i64 0)]), [(some (0, 1)), (some (1, 1)), (some (2, 1)), (some (3, 1)), (some (4, 1)), (some (5, 1)), (some (6, 1)), (some (7, 1)), (some (8, 1)), (some (9, 1)), (some (10, 1))], none, none⟩
 (.node .nil ⟨none, none, none, [], none, none⟩
 .nil)) ⟨(some false), (some 1), (some [.v (.nilFunc)]), [], none, none⟩
 (.node (.node .nil ⟨(some false), (some 1), (some [.v (.pointer none)]), [], none, none⟩
 .nil) ⟨(some false), (some 1), (some [.v (.slice none 0 0)]), [], (some (133, 2, 16, [.v (.int .i64 0), .v (.int .i64 0)])), none⟩
 (.node .nil ⟨none, none, none, [], none, none⟩
 .nil))) ⟨(some false), (some 1), (some [.v (.pointer none)]), [], none, none⟩
 (.node (.node (.node .nil ⟨(some false), (some 1), (some [.v (.nilFunc)]), [], none, none⟩
 .nil) ⟨(some false), (some 1), (some [.v (.nilFunc)]), [], none, none⟩
 (.node .nil ⟨none, none, none, [], none, none⟩
 .nil)) ⟨(some false), (some 1), (some [.v (.tuple #[.slice none 0 0, .int .i64 0])]), [], none, none⟩
 (.node (.node .nil ⟨none, none, none, [], none, none⟩
 .nil) ⟨(some false), (some 1), (some [.v (.tuple #[.pointer none, .int .i64 0])]), [], none, none⟩
 (.node .nil ⟨none, none, none, [], none, none⟩
 .nil)))) ⟨(some true), (some 4), (some [.v (.int .i64 0), .v (.int .i64 0), .v (.bool false), .v (.int .u8 0)]), [(some (0, 1)), (some (1, 1)), (some (2, 1)), (some (3, 1))], none, none⟩
 (.node (.node (.node (.node .nil ⟨(some false), (some 1), (some [.v (.nilFunc)]), [], none, none⟩
 .nil) ⟨(some false), (some 1), (some [.v (.int .u16 0)]), [], none, none⟩
 (.node .nil ⟨none, none, none, [], none, none⟩
 .nil)) ⟨(some false), (some 1), (some [.v (.slice none 0 0)]), [], (some (3, 1, 8, [.v (.int .i64 0)])), none⟩
 (.node (.node .nil ⟨none, none, none, [], none, none⟩
 .nil) ⟨(some false), (some 1), (some [.v (.nilFunc)]), [], none, none⟩
 (.node .nil ⟨none, none, none, [], none, none⟩
 .nil))) ⟨(some true), (some 2), (some [.v (.int .i64 0), .v (.int .i64 0)]), [(some (0, 1)), (some (1, 1))], none, none⟩
 (.node (.node (.node .nil ⟨(some false), (some 1), (some [.v (.int .u8 0)]), [], none, none⟩
 .nil) ⟨(some false), (some 1), (some [.v (.nilFunc)]), [], none, none⟩
 (.node .nil ⟨none, none, none, [], none, none⟩
 .nil)) ⟨(some false), (some 1), (some [.v (.nilFunc)]), [], none, none⟩
 (.node (.node .nil ⟨none, none, none, [], none, none⟩
 .nil) ⟨(some false), (some 1), (some [.v (.nilFunc)]), [], none, none⟩
 (.node .nil ⟨none, none, none, [], none, none⟩
 .nil))))) ⟨(some false), (some 1), (some [.v (.bool false)]), [], none, none⟩
 (.node (.node (.node (.node (.node .nil ⟨(some true), (some 2), (some [.v (.int .i64 0), .v (.int .i64 0)]), [(some (0, 1)), (some (1, 1))], none, none⟩
 .nil) ⟨(some false), (some 1), (some [.v (.nilFunc)]), [], none, none⟩
 (.node .nil ⟨none, none, none, [], none, none⟩
 .nil)) ⟨(some false), (some 1), (some [.v (.nilFunc)]), [], none, none⟩
 (.node (.node .nil ⟨none, none, none, [], none, none⟩
 .nil) ⟨(some false), (some 1), (some [.v (.nilFunc)]), [], none, none⟩
 (.node .nil ⟨none, none, none, [], none, none⟩
 .nil))) ⟨(some false), (some 1), (some [.v (.nilIface)]), [], none, none⟩
 (.node (.node (.node .nil ⟨(some true), (some 0), (some []), [], none, (some (0, 1, false))⟩
 .nil) ⟨(some true), (some 2), (some [.v (.int .i64 0), .v (.int .i64 0)]), [(some (0, 1)), (some (1, 1))], none, none⟩
 (.node .nil ⟨none, none, none, [], none, none⟩
 .nil)) ⟨(some true), (some 4), (some [.v (.int .i64 0), .v (.int .i64 0), .v (.int .i64 0), .v (.int .i64 0)]), [], none, (some (4, 1, false))⟩
 (.node (.node .nil ⟨none, none, none, [], none, none⟩
 .nil) ⟨(some false), (some 1), (some [.v (.tuple #[.agg #[.slice none 0 0, .slice none 0 0, .slice none 0 0, .slice none 0 0, .slice none 0 0, .slice none 0 0, .int .i64 0], .int .i64 0])]), [], none, none⟩
 (.node .nil ⟨none, none, none, [], none, none⟩
 .nil)))) ⟨(some false), (some 1), (some [.v (.int .u64 0)]), [], none, none⟩
 (.node (.node (.node (.node .nil ⟨(some false), (some 1), (some [.v (.pointer none)]), [], none, none⟩
 .nil) ⟨(some false), (some 1), (some [.v (.nilFunc)]), [], none, none⟩
 (.node .nil ⟨none, none, none, [], none, none⟩
 .nil)) ⟨(some false), (some 1), (some [.v (.nilFunc)]), [], none, none⟩
 (.node (.node .nil ⟨none, none, none, [], none, none⟩
 .nil) ⟨(some false), (some 1), (some [.v (.nilFunc)]), [], none, none⟩
 (.node .nil ⟨none, none, none, [], none, none⟩
 .nil))) ⟨(some true), (some 7), (some [.v (.slice none 0 0), .v (.slice none 0 0), .v (.int .i64 0), .v (.int .i64 0), .v (.int .i64 0), .v (.int .i64 0), .v (.slice none 0 0)]), [(some (0, 1)), (some (1, 1)), (some (2, 1)), (some (3, 1)), (some (4, 2)), (some (6, 1))], none, none⟩
 (.node (.node (.node .nil ⟨(some false), (some 1), (some [.v (.int .i32 0)]), [], none, none⟩
 .nil) ⟨(some false), (some 1), (some [.v (.nilFunc)]), [], none, none⟩
 (.node .nil ⟨none, none, none, [], none, none⟩
 .nil)) ⟨(some true), (some 4), (some [.v (.int .i64 0), .v (.int .i64 0), .v (.int .i64 0), .v (.int .i64 0)]), [(some (0, 1)), (some (1, 1)), (some (2, 1)), (some (3, 1))], none, none⟩
 (.node (.node .nil ⟨none, none, none, [], none, none⟩
 .nil) ⟨(some false), (some 1), (some [.v (.nilFunc)]), [], none, none⟩
 (.node .nil ⟨none, none, none, [], none, none⟩
 .nil)))))) ⟨(some false), (some 1), (some [.v (.int .i64 0)]), [], none, none⟩
 (.node (.node (.node (.node (.node (.node .nil ⟨(some false), (some 1), (some [.v (.nilFunc)]), [], none, none⟩
 .nil) ⟨(some true), (some 4), (some [.v (.string ByteArray.empty), .v (.int .i64 0), .v (.int .i64 0), .v (.int .i64 0)]), [(some (0, 1)), (some (1, 1)), (some (2, 1)), (some (3, 1))], none, none⟩
 (.node .nil ⟨none, none, none, [], none, none⟩
 .nil)) ⟨(some false), (some 1), (some [.v (.nilFunc)]), [], none, none⟩
 (.node (.node .nil ⟨none, none, none, [], none, none⟩
 .nil) ⟨(some true), (some 7), (some [.v (.slice none 0 0), .v (.slice none 0 0), .v (.slice none 0 0), .v (.slice none 0 0), .v (.slice none 0 0), .v (.slice none 0 0), .v (.int .i64 0)]), [(some (0, 4)), (some (4, 1)), (some (5, 1)), (some (6, 1))], none, none⟩
 (.node .nil ⟨none, none, none, [], none, none⟩
 .nil))) ⟨(some true), (some 1), (some [.v (.pointer none)]), [(some (0, 1))], none, none⟩
 (.node (.node (.node .nil ⟨(some true), (some 4), (some [.v (.pointer none), .v (.pointer none), .v (.pointer none), .v (.string ByteArray.empty)]), [(some (0, 1)), (some (1, 1)), (some (2, 1)), (some (3, 1))], none, none⟩
 .nil) ⟨(some false), (some 1), (some [.v (.nilFunc)]), [], none, none⟩
 (.node .nil ⟨none, none, none, [], none, none⟩
 .nil)) ⟨(some false), (some 1), (some [.v (.nilFunc)]), [], none, none⟩
 (.node (.node .nil ⟨none, none, none, [], none, none⟩
 .nil) ⟨(some false), (some 1), (some [.v (.nilFunc)]), [], none, none⟩
 (.node .nil ⟨none, none, none, [], none, none⟩
 .nil)))) ⟨(some false), (some 1), (some [.v (.string ByteArray.empty)]), [], none, none⟩
 (.node (.node (.node (.node .nil ⟨(some false), (some 1), (some [.v (.nilFunc)]), [], none, none⟩
 .nil) ⟨(some false), (some 1), (some [.v (.nilFunc)]), [], none, none⟩
 (.node .nil ⟨none, none, none, [], none, none⟩
 .nil)) ⟨(some true), (some 4), (some [.v (.slice none 0 0), .v (.slice none 0 0), .v (.slice none 0 0), .v (.slice none 0 0)]), [(some (0, 1)), (some (1, 1)), (some (2, 1)), (some (3, 1))], none, none⟩
 (.node (.node .nil ⟨none, none, none, [], none, none⟩
 .nil) ⟨(some false), (some 1), (some [.v (.nilFunc)]), [], none, none⟩
 (.node .nil ⟨none, none, none, [], none, none⟩
 .nil))) ⟨(some false), (some 1), (some [.v (.slice none 0 0)]), [], (some (85, 2, 16, [.v (.int .i64 0), .v (.int .i64 0)])), none⟩
 (.node (.node (.node .nil ⟨(some false), (some 1), (some [.v (.nilFunc)]), [], none, none⟩
 .nil) ⟨(some false), (some 1), (some [.v (.pointer none)]), [], none, none⟩
 (.node .nil ⟨none, none, none, [], none, none⟩
 .nil)) ⟨(some false), (some 1), (some [.v (.nilFunc)]), [], none, none⟩
 (.node (.node .nil ⟨none, none, none, [], none, none⟩
 .nil) ⟨(some false), (some 1), (some [.v (.nilFunc)]), [], none, none⟩
 (.node .nil ⟨none, none, none, [], none, none⟩
 .nil))))) ⟨(some false), (some 1), (some [.v (.int .u8 0)]), [], none, none⟩
 (.node (.node (.node (.node (.node .nil ⟨(some false), (some 1), (some [.v (.nilFunc)]), [], none, none⟩
 .nil) ⟨(some true), (some 3), (some [.v (.int .i64 0), .v (.int .i64 0), .v (.int .i64 0)]), [], none, (some (3, 1, false))⟩
 (.node .nil ⟨none, none, none, [], none, none⟩
 .nil)) ⟨(some false), (some 1), (some [.v (.slice none 0 0)]), [], (some (30, 1, 8, [.v (.int .i64 0)])), none⟩
 (.node (.node .nil ⟨none, none, none, [], none, none⟩
 .nil) ⟨(some false), (some 1), (some [.v (.nilFunc)]), [], none, none⟩
 (.node .nil ⟨none, none, none, [], none, none⟩
 .nil))) ⟨(some false), (some 1), (some [.v (.slice none 0 0)]), [], (some (9, 1, 16, [.v (.string ByteArray.empty)])), none⟩
 (.node (.node (.node .nil ⟨(some true), (some 0), (some []), [(some (0, 0))], none, none⟩
 .nil) ⟨(some false), (some 1), (some [.v (.nilFunc)]), [], none, none⟩
 (.node .nil ⟨none, none, none, [], none, none⟩
 .nil)) ⟨(some false), (some 1), (some [.v (.nilFunc)]), [], none, none⟩
 (.node (.node .nil ⟨none, none, none, [], none, none⟩
 .nil) ⟨(some false), (some 1), (some [.v (.nilFunc)]), [], none, none⟩
 (.node .nil ⟨none, none, none, [], none, none⟩
 .nil)))) ⟨(some true), (some 2), (some [.v (.string ByteArray.empty), .v (.int .u64 0)]), [(some (0, 1)), (some (1, 1))], none, none⟩
 (.node (.node (.node (.node .nil ⟨(some false), (some 1), (some [.v (.nilFunc)]), [], none, none⟩
 .nil) ⟨(some false), (some 1), (some [.v (.nilFunc)]), [], none, none⟩
 (.node .nil ⟨none, none, none, [], none, none⟩
 .nil)) ⟨(some false), (some 1), (some [.v (.nilFunc)]), [], none, none⟩
 (.node (.node .nil ⟨none, none, none, [], none, none⟩
 .nil) ⟨(some false), (some 1), (some [.v (.nilFunc)]), [], none, none⟩
 (.node .nil ⟨none, none, none, [], none, none⟩
 .nil))) ⟨(some false), (some 1), (some [.v (.int .i64 0)]), [], none, none⟩
 (.node (.node (.node .nil ⟨(some true), (some 11), (some [.v (.int .u64 0), .v (.int .u64 0), .v (.int .u32 0), .v (.int .u8 0), .v (.int .u8 0), .v (.int .u8 0), .v (.int .u8 0), .v (.nilFunc), .v (.pointer none), .v (.int .i32 0), .v (.int .i32 0)]), [(some (0, 1)), (some (1, 1)), (some (2, 1)), (some (3, 1)), (some (4, 1)), (some (5, 1)), (some (6, 1)), (some (7, 1)), (some (8, 1)), (some (9, 1)), (some (10, 1))], none, none⟩
 .nil) ⟨(some true), (some 15), (some [.v (.slice none 0 0), .v (.slice none 0 0), .v (.int .i64 0), .v (.int .i64 0), .v (.int .i64 0), .v (.int .i64 0), .v (.slice none 0 0), .v (.slice none 0 0), .v (.slice none 0 0), .v (.slice none 0 0), .v (.slice none 0 0), .v (.map none), .v (.slice none 0 0), .v (.int .i64 0), .v (.int .i64 0)]), [(some (0, 7)), (some (7, 4)), (some (11, 1)), (some (12, 1)), (some (13, 1)), (some (14, 1))], none, none⟩
 (.node .nil ⟨none, none, none, [], none, none⟩
 .nil)) ⟨(some true), (some 5), (some [.v (.int .i64 0), .v (.int .i64 0), .v (.int .i64 0), .v (.int .i64 0), .v (.int .i64 0)]), [(some (0, 1)), (some (1, 1)), (some (2, 1)), (some (3, 1)), (some (4, 1))], none, none⟩
 (.node (.node .nil ⟨none, none, none, [], none, none⟩
 .nil) ⟨(some false), (some 1), (some [.v (.nilFunc)]), [], none, none⟩
 (.node .nil ⟨none, none, none, [], none, none⟩
 .nil))))))))
theorem TT_ok [InW] : TabOk Try.prog TT := TabOk.of 8 (by kernel_rfl)
theorem mixed_ok : Try.prog.follows .mixedOrders = true := by kernel_rfl
open Go.RowKit
theorem vif [InW] {b : Bool} {A B : Prop} (h : b = true -> A) (h2 : b = false -> B) : Vif b A B := ⟨h, h2⟩
theorem vifd [InW] {p : Prop} {_ : Decidable p} {A B : Prop} (h : p -> A) (h2 : ¬ p -> B) : Vif (decide p) A B := ⟨fun e => h (of_decide_eq_true e), fun e => h2 (of_decide_eq_false e)⟩
theorem ned [InW] {b : Bool} {A : Prop} (h : b = true) (h2 : A) : Need b A := ⟨h, h2⟩
theorem nedd [InW] {p : Prop} {_ : Decidable p} {A : Prop} (h : p) (h2 : A) : Need (decide p) A := ⟨decide_eq_true h, h2⟩
theorem ar64 [InW] {n : Int} {K : Int -> Prop} (h : -9223372036854775808 <= n /\ n <= 9223372036854775807) (k : K n) : Ar .i64 n K := ⟨by rw [IntWalk.i64_in n h]; exact k⟩
theorem tm24 (n : Int) : -24 < n.tmod 24 /\ n.tmod 24 < 24 := ⟨Int.lt_tmod_of_pos n (by decide), Int.tmod_lt_of_pos n (by decide)⟩
theorem td2 {n : Int} (h : -9223372036854775808 <= n /\ n <= 9223372036854775807) : -9223372036854775808 <= n.tdiv 2 /\ n.tdiv 2 <= 9223372036854775807 := by
  rcases Int.le_total 0 n with h1 | h1
  · rw [Int.tdiv_eq_ediv_of_nonneg h1]; omega
  · obtain ⟨m, rfl⟩ : ∃ m, n = -m := ⟨-n, by omega⟩;rw [Int.neg_tdiv, Int.tdiv_eq_ediv_of_nonneg (by omega)]; omega
open Go.RowKit
set_option maxRecDepth 100000
abbrev tyCar : List Ty := [.str, .int .i64, .int .i64, .int .i64]
abbrev tyTerm : List Ty := [.int .i64, .int .i64]
namespace Sp
def inr (n lo hi : Int) : Bool := decide (lo <= n) && decide (n <= hi)
def halve : Nat -> Int -> Int
  | 0, n => n
  | k + 1, n => halve k (n.tdiv 2)
def drives (never : Int) (w : Int) : Bool := decide ((halve w.toNat never).tmod 2 = 0)
def fits (lo hi start hours : Int) : Bool := decide (lo <= start.tmod 24) && decide (start.tmod 24 + hours <= hi)
def apart (s1 h1 s2 h2 : Int) : Bool := decide (s1 + h1 <= s2) || decide (s2 + h2 <= s1)
def I64 (n : Int) : Prop := -9223372036854775808 <= n /\ n <= 9223372036854775807
def Small (n : Int) : Prop := -1000000000000000 <= n /\ n <= 1000000000000000
end Sp
noncomputable def T0 : Tab Try.prog := ⟨[], [], []⟩
def VC_in [W : InW] (n lo hi : Int) (Q : DS -> Prop) : Prop :=
  Vif (decide (lo <= n)) (Q [[Cl.b (decide (n <= hi))]]) (Q [[Cl.b false]])
theorem vc_in (W : InW) (n lo hi Q) : bodyK (cxT Try.prog TT T0 1000 50) 1000 43 [.si .i64 n, .si .i64 lo, .si .i64 hi] [] 0 (leafK [(false, [.bool])] Q) (fun _ _ _ _ => Stuck 421) = VC_in n lo hi Q := by kernel_rfl
abbrev ats_in : List AT := [.one (.int .i64), .one (.int .i64), .one (.int .i64)]
theorem ok_in {pre : DS -> Prop} {res : DS -> DS} (h : ∀ (W : InW) (n : Int) (lo : Int) (hi : Int), pre [[.i n], [.i lo], [.i hi]] -> ∀ Q : DS -> Prop, Q (res [[.i n], [.i lo], [.i hi]]) -> VC_in n lo hi Q) : PureOk Try.prog 43 ats_in [(false, [.bool])] pre res :=
  PureOk.of' (fun W => @TT W) (fun W => @TT_ok W) mixed_ok T0 1000 50 fun W n lo hi hp =>
    (vc_in W n lo hi (fun o => o = res [[.i n], [.i lo], [.i hi]])).mpr (h W n lo hi hp _ rfl)
abbrev res_in (ds : DS) : DS := match ds with | [[.i n], [.i lo], [.i hi]] => [[.b (Sp.inr n lo hi)]] | _ => []
theorem okin : PureOk Try.prog 43 ats_in [(false, [.bool])] (fun _ => True) res_in :=
  ok_in fun W n lo hi _ Q h => vif (fun e => by simpa [res_in, Sp.inr, e] using h) fun e => by simpa [res_in, Sp.inr, e] using h
noncomputable def pc_in : PC Try.prog := ⟨43, ats_in, [(false, [.bool])], fun _ => True, res_in, okin⟩
def VC_Fits [W : InW] (s_Learners : Ro [.str]) (s_Cars : Ro tyCar) (s_Price s_Excess s_Lo s_Hi : Int) (s_Terms : Ro tyTerm) (start hours : Int) (Q : DS -> Prop) : Prop :=
  Vif (decide (s_Lo <= start.tmod (24 : Int))) (Ar .i64 (start.tmod (24 : Int) + hours) fun z => Q [[Cl.b (decide (z <= s_Hi))]]) (Q [[Cl.b false]])
theorem vc_Fits (W : InW) (s_Learners s_Cars s_Price s_Excess s_Lo s_Hi s_Terms start hours Q) : bodyK (cxT Try.prog TT T0 1000 50) 1000 35 [.agg [.rs _ s_Learners, .rs _ s_Cars, .si .i64 s_Price, .si .i64 s_Excess, .si .i64 s_Lo, .si .i64 s_Hi, .rs _ s_Terms], .si .i64 start, .si .i64 hours] [] 0 (leafK [(false, [.bool])] Q) (fun _ _ _ _ => Stuck 421) = VC_Fits s_Learners s_Cars s_Price s_Excess s_Lo s_Hi s_Terms start hours Q := by kernel_rfl
abbrev ats_Fits : List AT := [.agg [.sl [.str], .sl tyCar, .int .i64, .int .i64, .int .i64, .int .i64, .sl tyTerm], .one (.int .i64), .one (.int .i64)]
theorem ok_Fits {pre : DS -> Prop} {res : DS -> DS} (h : ∀ (W : InW) (s_Learners : Ro [.str]) (s_Cars : Ro tyCar) (s_Price : Int) (s_Excess : Int) (s_Lo : Int) (s_Hi : Int) (s_Terms : Ro tyTerm) (start : Int) (hours : Int), pre [[.l s_Learners.xs, .l s_Cars.xs, .i s_Price, .i s_Excess, .i s_Lo, .i s_Hi, .l s_Terms.xs], [.i start], [.i hours]] -> ∀ Q : DS -> Prop, Q (res [[.l s_Learners.xs, .l s_Cars.xs, .i s_Price, .i s_Excess, .i s_Lo, .i s_Hi, .l s_Terms.xs], [.i start], [.i hours]]) -> VC_Fits s_Learners s_Cars s_Price s_Excess s_Lo s_Hi s_Terms start hours Q) : PureOk Try.prog 35 ats_Fits [(false, [.bool])] pre res :=
  PureOk.of' (fun W => @TT W) (fun W => @TT_ok W) mixed_ok T0 1000 50 fun W s_Learners s_Cars s_Price s_Excess s_Lo s_Hi s_Terms start hours hp =>
    (vc_Fits W s_Learners s_Cars s_Price s_Excess s_Lo s_Hi s_Terms start hours (fun o => o = res [[.l s_Learners.xs, .l s_Cars.xs, .i s_Price, .i s_Excess, .i s_Lo, .i s_Hi, .l s_Terms.xs], [.i start], [.i hours]])).mpr (h W s_Learners s_Cars s_Price s_Excess s_Lo s_Hi s_Terms start hours hp _ rfl)
abbrev res_Fits (ds : DS) : DS := match ds with | [[_, _, _, _, .i lo, .i hi, _], [.i start], [.i hours]] => [[.b (Sp.fits lo hi start hours)]] | _ => []
abbrev pre_Fits (ds : DS) : Prop := match ds with | [_, _, [.i hours]] => Sp.Small hours | _ => False
theorem okFits : PureOk Try.prog 35 ats_Fits [(false, [.bool])] pre_Fits res_Fits :=
  ok_Fits fun W _ _ _ _ lo hi _ start hours hp Q h => by
    unfold VC_Fits;have h1 := tm24 start;simp only [pre_Fits, Sp.Small] at hp;refine vif (fun e => ar64 (by omega) ?_) fun e => ?_ <;> simpa [res_Fits, Sp.fits, e] using h
noncomputable def pc_Fits : PC Try.prog := ⟨35, ats_Fits, [(false, [.bool])], pre_Fits, res_Fits, okFits⟩
def VC_Apart [W : InW] (a_Learner a_Car a_Start a_Hours a_State b_Learner b_Car b_Start b_Hours b_State : Int) (Q : DS -> Prop) : Prop :=
  Ar .i64 (a_Start + a_Hours) fun z => Vif (decide (z <= b_Start)) (Q [[Cl.b true]]) (Ar .i64 (b_Start + b_Hours) fun z => Q [[Cl.b (decide (z <= a_Start))]])
theorem vc_Apart (W : InW) (a_Learner a_Car a_Start a_Hours a_State b_Learner b_Car b_Start b_Hours b_State Q) : bodyK (cxT Try.prog TT T0 1000 50) 1000 36 [.agg [.si .i64 a_Learner, .si .i64 a_Car, .si .i64 a_Start, .si .i64 a_Hours, .si .i64 a_State], .agg [.si .i64 b_Learner, .si .i64 b_Car, .si .i64 b_Start, .si .i64 b_Hours, .si .i64 b_State]] [] 0 (leafK [(false, [.bool])] Q) (fun _ _ _ _ => Stuck 421) = VC_Apart a_Learner a_Car a_Start a_Hours a_State b_Learner b_Car b_Start b_Hours b_State Q := by kernel_rfl
abbrev ats_Apart : List AT := [.agg [.int .i64, .int .i64, .int .i64, .int .i64, .int .i64], .agg [.int .i64, .int .i64, .int .i64, .int .i64, .int .i64]]
theorem ok_Apart {pre : DS -> Prop} {res : DS -> DS} (h : ∀ (W : InW) (a_Learner : Int) (a_Car : Int) (a_Start : Int) (a_Hours : Int) (a_State : Int) (b_Learner : Int) (b_Car : Int) (b_Start : Int) (b_Hours : Int) (b_State : Int), pre [[.i a_Learner, .i a_Car, .i a_Start, .i a_Hours, .i a_State], [.i b_Learner, .i b_Car, .i b_Start, .i b_Hours, .i b_State]] -> ∀ Q : DS -> Prop, Q (res [[.i a_Learner, .i a_Car, .i a_Start, .i a_Hours, .i a_State], [.i b_Learner, .i b_Car, .i b_Start, .i b_Hours, .i b_State]]) -> VC_Apart a_Learner a_Car a_Start a_Hours a_State b_Learner b_Car b_Start b_Hours b_State Q) : PureOk Try.prog 36 ats_Apart [(false, [.bool])] pre res :=
  PureOk.of' (fun W => @TT W) (fun W => @TT_ok W) mixed_ok T0 1000 50 fun W a_Learner a_Car a_Start a_Hours a_State b_Learner b_Car b_Start b_Hours b_State hp =>
    (vc_Apart W a_Learner a_Car a_Start a_Hours a_State b_Learner b_Car b_Start b_Hours b_State (fun o => o = res [[.i a_Learner, .i a_Car, .i a_Start, .i a_Hours, .i a_State], [.i b_Learner, .i b_Car, .i b_Start, .i b_Hours, .i b_State]])).mpr (h W a_Learner a_Car a_Start a_Hours a_State b_Learner b_Car b_Start b_Hours b_State hp _ rfl)
abbrev res_Apart (ds : DS) : DS := match ds with | [[_, _, .i s1, .i h1, _], [_, _, .i s2, .i h2, _]] => [[.b (Sp.apart s1 h1 s2 h2)]] | _ => []
abbrev pre_Apart (ds : DS) : Prop := match ds with | [[_, _, .i s1, .i h1, _], [_, _, .i s2, .i h2, _]] => Sp.Small s1 /\ Sp.Small h1 /\ Sp.Small s2 /\ Sp.Small h2 | _ => False
theorem okApart : PureOk Try.prog 36 ats_Apart [(false, [.bool])] pre_Apart res_Apart :=
  ok_Apart fun W _ _ s1 h1 _ _ _ s2 h2 _ hp Q h => by
    unfold VC_Apart;simp only [pre_Apart, Sp.Small] at hp;refine ar64 (by omega) (vif (fun e => ?_) fun e => ar64 (by omega) ?_) <;> simpa [res_Apart, Sp.apart, e] using h
noncomputable def pc_Apart : PC Try.prog := ⟨36, ats_Apart, [(false, [.bool])], pre_Apart, res_Apart, okApart⟩
def sp_Drives [InW] (e : List Ed) (K : Nat -> List Ed -> Prop) : Prop := match e with
  | [.i w, .i n, .i i] => Pre (Sp.I64 n /\ 0 <= i /\ Sp.Small w) (K 0 [.i w, .i (Sp.halve (w - i).toNat n)])
  | _ => False
def lc_Drives : LC where
  len := 25
  T := [(2, .int .i64), (7, .int .i64), (8, .int .i64)]
  H := []
  W := [15, 16, 17, 18, 19, 20, 21]
  outs := [⟨.exit 0, [(2, .int .i64), (7, .int .i64)], [], [8, 15, 16, 17, 18, 19, 20, 21]⟩]
  spec := sp_Drives
def VCL_Drives [W : InW] (w n i : Int) (A : List Ed -> Prop) (K : Nat -> List Ed -> Prop) : Prop :=
  Vif (decide (i < w)) (Ar .i64 (n.tdiv (2 : Int)) fun z => Ar .i64 (i + (1 : Int)) fun z_1 => A [.i w, .i z, .i z_1]) (K (0 : Nat) [.i w, .i n])
theorem vcl_Drives (W : InW) (w n i A K) : vcTop { cxT Try.prog TT T0 1000 50 with fn := 37 } 1000 (loopAt Try.prog 37 4) (tmOut 25 [(2, .si .i64 w), (7, .si .i64 n), (8, .si .i64 i)] [15, 16, 17, 18, 19, 20, 21]) [] (roundL lc_Drives A K) = VCL_Drives w n i A K := by kernel_rfl
def okLt_Drives : Prop := ∀ (W : InW) (body a : Code), (Try.prog.funcs[37]?).bind (·.body) = some body -> a ∈ loopsIn body -> keyOf a = 4 -> @LoopOk W Try.prog a (@loopRun W lc_Drives)
theorem okl_Drives (meas : [InW] -> List Ed -> Nat) (h : ∀ (W : InW) (w : Int) (n : Int) (i : Int) (K : Nat -> List Ed -> Prop), sp_Drives [.i w, .i n, .i i] K -> ∀ A : List Ed -> Prop, (∀ e, meas e < meas [.i w, .i n, .i i] -> sp_Drives e K -> A e) -> VCL_Drives w n i A K) : okLt_Drives :=
  LE.okOf' (fun W => @TT W) (fun W => @TT_ok W) mixed_ok T0 1000 50 (by kernel_rfl) lc_Drives (fun W => @meas W) fun W w n i K hs =>
    (vcl_Drives W w n i (fun e => meas e < meas [.i w, .i n, .i i] /\ sp_Drives e K) K).mpr (h W w n i K hs _ fun e h1 h2 => ⟨h1, h2⟩)
theorem okLDrives : okLt_Drives := okl_Drives (fun e => match e with | [.i w, _, .i i] => (w - i).toNat | _ => 0) fun W w n i K hs A hA => by
  obtain ⟨⟨hn, hi, hw⟩, hk⟩ := hs;unfold VCL_Drives;simp only [Sp.Small, Sp.I64] at hw hn;have h2 := td2 hn;refine vif (fun e => ar64 h2 (ar64 (by have := of_decide_eq_true e; omega) (hA _ ?_ ?_))) fun e => ?_
  · have := of_decide_eq_true e
    show (w - (i + 1)).toNat < (w - i).toNat
    omega
  · have := of_decide_eq_true e;refine ⟨⟨h2, by omega, hw⟩, ?_⟩;rw [show (w - i).toNat = (w - (i + 1)).toNat + 1 by omega] at hk;exact hk
  · have := of_decide_eq_false e;rw [show (w - i).toNat = 0 by omega] at hk;exact hk
noncomputable def le_Drives : LE Try.prog := ⟨37, 4, fun W => @loopRun W lc_Drives, okLDrives⟩
noncomputable def T1 : Tab Try.prog := ⟨[pc_in, pc_Fits, pc_Apart], [le_Drives], []⟩
def VC_Drives [W : InW] (s_Learners : Ro [.str]) (s_Cars : Ro tyCar) (s_Price s_Excess s_Lo s_Hi : Int) (s_Terms : Ro tyTerm) (car weather : Int) (Q : DS -> Prop) : Prop :=
  Need (decide ((0 : Int) <= car) && decide (car < ↑(s_Cars.xs.length))) (Need (decide (car.toNat < s_Cars.xs.length)) (Pre (Sp.I64 (cel s_Cars.xs car.toNat (nat_lit 2 + (1 : Nat))).int /\ (0 : Int) <= (0 : Int) /\ Sp.Small weather) (Q [[Cl.b (decide ((Sp.halve (weather - (0 : Int)).toNat (cel s_Cars.xs car.toNat (nat_lit 2 + (1 : Nat))).int).tmod (2 : Int) = (0 : Int)))]])))
theorem vc_Drives (W : InW) (s_Learners s_Cars s_Price s_Excess s_Lo s_Hi s_Terms car weather Q) : bodyK (cxT Try.prog TT T1 1000 50) 1000 37 [.agg [.rs _ s_Learners, .rs _ s_Cars, .si .i64 s_Price, .si .i64 s_Excess, .si .i64 s_Lo, .si .i64 s_Hi, .rs _ s_Terms], .si .i64 car, .si .i64 weather] [] 0 (leafK [(false, [.bool])] Q) (fun _ _ _ _ => Stuck 421) = VC_Drives s_Learners s_Cars s_Price s_Excess s_Lo s_Hi s_Terms car weather Q := by kernel_rfl
abbrev ats_Drives : List AT := [.agg [.sl [.str], .sl tyCar, .int .i64, .int .i64, .int .i64, .int .i64, .sl tyTerm], .one (.int .i64), .one (.int .i64)]
theorem ok_Drives {pre : DS -> Prop} {res : DS -> DS} (h : ∀ (W : InW) (s_Learners : Ro [.str]) (s_Cars : Ro tyCar) (s_Price : Int) (s_Excess : Int) (s_Lo : Int) (s_Hi : Int) (s_Terms : Ro tyTerm) (car : Int) (weather : Int), pre [[.l s_Learners.xs, .l s_Cars.xs, .i s_Price, .i s_Excess, .i s_Lo, .i s_Hi, .l s_Terms.xs], [.i car], [.i weather]] -> ∀ Q : DS -> Prop, Q (res [[.l s_Learners.xs, .l s_Cars.xs, .i s_Price, .i s_Excess, .i s_Lo, .i s_Hi, .l s_Terms.xs], [.i car], [.i weather]]) -> VC_Drives s_Learners s_Cars s_Price s_Excess s_Lo s_Hi s_Terms car weather Q) : PureOk Try.prog 37 ats_Drives [(false, [.bool])] pre res :=
  PureOk.of' (fun W => @TT W) (fun W => @TT_ok W) mixed_ok T1 1000 50 fun W s_Learners s_Cars s_Price s_Excess s_Lo s_Hi s_Terms car weather hp =>
    (vc_Drives W s_Learners s_Cars s_Price s_Excess s_Lo s_Hi s_Terms car weather (fun o => o = res [[.l s_Learners.xs, .l s_Cars.xs, .i s_Price, .i s_Excess, .i s_Lo, .i s_Hi, .l s_Terms.xs], [.i car], [.i weather]])).mpr (h W s_Learners s_Cars s_Price s_Excess s_Lo s_Hi s_Terms car weather hp _ rfl)
abbrev res_Drives (ds : DS) : DS := match ds with | [[_, .l cars, _, _, _, _, _], [.i car], [.i weather]] => [[.b (Sp.drives (cel cars car.toNat 3).int weather)]] | _ => []
abbrev pre_Drives (ds : DS) : Prop := match ds with | [[_, .l cars, _, _, _, _, _], [.i car], [.i weather]] => 0 <= car /\ car < cars.length /\ Sp.I64 (cel cars car.toNat 3).int /\ Sp.Small weather | _ => False
theorem okDrives : PureOk Try.prog 37 ats_Drives [(false, [.bool])] pre_Drives res_Drives :=
  ok_Drives fun W _ cars _ _ _ _ _ car weather hp Q h => by
    obtain ⟨h1, h2, h3, h4⟩ := hp;unfold VC_Drives;refine ned (by simp [h1, h2]) (nedd (by omega) ⟨⟨h3, by omega, h4⟩, ?_⟩);simpa [res_Drives, Sp.drives] using h
noncomputable def pc_Drives : PC Try.prog := ⟨37, ats_Drives, [(false, [.bool])], pre_Drives, res_Drives, okDrives⟩
open Go.RowKit
abbrev res_str (f : ByteArray -> Bool) (ds : DS) : DS := match ds with | [[.s s]] => [[.b (f s)]] | _ => []
abbrev pre_str (f : ByteArray -> Prop) (ds : DS) : Prop := match ds with | [[.s s]] => f s | _ => False
theorem pureStr {P : Program} {g : Nat} {pre : ByteArray -> Prop} {f : ByteArray -> Bool} (h : ∀ s w, pre s -> Calls P g #[.string s] w fun e w' => e = .returned (.bool (f s)) /\ Below w.heap.size w w') : PureOk P g [.one .str] [(false, [.bool])] (pre_str pre) (res_str f) := by
  intro W args ds ha hpre d hd;refine @allAs_spec W [.one .str] (fun args ds => pre_str pre ds -> @ACall W P g args [] false (@resAV W d [(false, [.bool])] (res_str f ds)) [] (@resHp W d 0 [(false, [.bool])] (res_str f ds))) _ _ (fun s hp => ?_) ha hpre;intro φ w0 M R w hnew hS;refine (h s w hp).mono fun e w' ⟨he, hb⟩ => ⟨φ, fun i _ => rfl, he, ?_⟩;simpa [updAll, resHp, cellsHp, RTy.hp] using hS.ext hb
theorem okcName : PureOk Try.prog 59 [.one .str] [(false, [.bool])] (pre_str fun _ => True) (res_str Bk.nameOk) := pureStr fun s w _ => cname_any s w
theorem okrName : PureOk Try.prog 44 [.one .str] [(false, [.bool])] (pre_str fun s => s.size <= 9223372036854775807) (res_str Bk.nameOk) := pureStr fun s w hs => (rname_any s w hs).mono fun e w' ⟨he, hw⟩ => ⟨he, hw ▸ Below.refl _ _⟩
noncomputable def pc_cName : PC Try.prog := ⟨59, [.one .str], [(false, [.bool])], pre_str fun _ => True, res_str Bk.nameOk, okcName⟩
noncomputable def pc_rName : PC Try.prog := ⟨44, [.one .str], [(false, [.bool])], pre_str fun s => s.size <= 9223372036854775807, res_str Bk.nameOk, okrName⟩
open Go.RowKit
set_option maxRecDepth 100000
abbrev tyCar0 : List Ty := [.str, .int .i64, .int .i64, .int .i64]
abbrev tyTerm0 : List Ty := [.int .i64, .int .i64]
namespace Sp
def nm (xs : Dt) (i : Nat) : ByteArray := (cel xs i 0).str
def dup (xs : Dt) (name : ByteArray) : Nat -> Nat -> Bool
  | _, 0 => false
  | k, n + 1 => eqS (nm xs k) name || dup xs name (k + 1) n
end Sp
noncomputable def T3 : Tab Try.prog := ⟨[pc_in, pc_Fits, pc_Apart, pc_Drives, pc_cName, pc_rName], [], []⟩
def sp_car [InW] (e : List Ed) (K : Nat -> List Ed -> Prop) : Prop := match e with
  | [.i i, .i k, .ro _ cars, .s name] => Pre (0 <= k /\ k <= i /\ i < cars.xs.length) (Vif (Sp.dup cars.xs name k.toNat (i - k).toNat) (K 1 []) (K 0 [.i i, .ro _ cars, .s name]))
  | _ => False
def lc_car : LC where
  len := 46
  T := [(1, .int .i64), (2, (.ptr 1 0)), (5, (.ptr 4 0)), (6, .int .i64)]
  H := [(1, .blk 28 [(.opq 7), .rs tyCar0, (.opq 10), (.opq 13), (.opq 16), (.opq 19), (.opq 22)]), (4, .blk 67 [.str, (.opq 25), (.opq 28), (.opq 31)])]
  W := [16, 17, 18, 19, 20, 21, 22, 23, 24, 25, 26, 27, 28, 29]
  outs := [⟨.exit 0, [(1, .int .i64), (2, (.ptr 1 0)), (5, (.ptr 4 0))], [(1, .blk 28 [(.opq 7), .rs tyCar0, (.opq 10), (.opq 13), (.opq 16), (.opq 19), (.opq 22)]), (4, .blk 67 [.str, (.opq 25), (.opq 28), (.opq 31)])], [6, 16, 17, 18, 19, 20, 21, 22, 23, 24, 25, 26, 27, 28, 29]⟩, ⟨.ret, [(4, (.lit (.int .i64 5)))], [], [1, 2, 5, 6, 16, 17, 18, 19, 20, 21, 22, 23, 24, 25, 26, 27, 28, 29]⟩]
  spec := sp_car
def VCL_car [W : InW] (i k : Int) (cars : Ro tyCar0) (name : ByteArray) (A : List Ed -> Prop) (K : Nat -> List Ed -> Prop) : Prop :=
  Vif (decide (k < i)) (Need (decide ((0 : Int) <= k) && decide (k < ↑(cars.xs.length))) (Need (decide (k.toNat < cars.xs.length)) (Vif (eqS (cel cars.xs k.toNat (0 : Nat)).str name) (K (0+1 : Nat) []) (Ar .i64 (k + (1 : Int)) fun z => A [.i i, .i z, .ro _ cars, .s name])))) (K (0 : Nat) [.i i, .ro _ cars, .s name])
theorem vcl_car (W : InW) (i k cars name A K) : vcTop { cxT Try.prog TT T3 1000 50 with fn := 45 } 1000 (loopAt Try.prog 45 6) (tmOut 46 [(1, .si .i64 i), (2, .ptr 1 0), (5, .ptr 4 0), (6, .si .i64 k)] [16, 17, 18, 19, 20, 21, 22, 23, 24, 25, 26, 27, 28, 29]) [(1, .blk 28 [.opq 7, .rs _ cars, .opq 10, .opq 13, .opq 16, .opq 19, .opq 22]), (4, .blk 67 [.ss name, .opq 25, .opq 28, .opq 31])] (roundL lc_car A K) = VCL_car i k cars name A K := by kernel_rfl
def okLt_car : Prop := ∀ (W : InW) (body a : Code), (Try.prog.funcs[45]?).bind (·.body) = some body -> a ∈ loopsIn body -> keyOf a = 6 -> @LoopOk W Try.prog a (@loopRun W lc_car)
theorem okl_car (meas : [InW] -> List Ed -> Nat) (h : ∀ (W : InW) (i : Int) (k : Int) (cars : Ro tyCar0) (name : ByteArray) (K : Nat -> List Ed -> Prop), sp_car [.i i, .i k, .ro _ cars, .s name] K -> ∀ A : List Ed -> Prop, (∀ e, meas e < meas [.i i, .i k, .ro _ cars, .s name] -> sp_car e K -> A e) -> VCL_car i k cars name A K) : okLt_car :=
  LE.okOf' (fun W => @TT W) (fun W => @TT_ok W) mixed_ok T3 1000 50 (by kernel_rfl) lc_car (fun W => @meas W) fun W i k cars name K hs =>
    (vcl_car W i k cars name (fun e => meas e < meas [.i i, .i k, .ro _ cars, .s name] /\ sp_car e K) K).mpr (h W i k cars name K hs _ fun e h1 h2 => ⟨h1, h2⟩)
theorem okLcar : okLt_car := okl_car (fun e => match e with | [.i i, .i k, _, _] => (i - k).toNat | _ => 0) fun W i k cars name K hs A hA => by
  obtain ⟨⟨h0, h1, h2⟩, hk⟩ := hs;unfold VCL_car;have hm := cars.len;refine vifd (fun e => ned (by simp; omega) (nedd (by omega) (vif (fun e2 => ?_) fun e2 => ar64 (by simp only [maxLen] at hm; omega) (hA _ ?_ ?_)))) fun e => ?_
  · refine hk.1 ?_;rw [show (i - k).toNat = (i - (k + 1)).toNat + 1 by omega];simp only [Sp.dup, Sp.nm, e2, Bool.true_or]
  · show (i - (k + 1)).toNat < (i - k).toNat
    omega
  · refine ⟨⟨by omega, by omega, h2⟩, ?_⟩;rw [show (i - k).toNat = (i - (k + 1)).toNat + 1 by omega] at hk;simp only [Sp.dup, Sp.nm, e2, Bool.false_or] at hk;rw [show (k + 1).toNat = k.toNat + 1 by omega];exact hk
  · refine hk.2 ?_;rw [show (i - k).toNat = 0 by omega];rfl
noncomputable def le_car : LE Try.prog := ⟨45, 6, fun W => @loopRun W lc_car, okLcar⟩
noncomputable def T4 : Tab Try.prog := ⟨T3.pcs, [le_car], []⟩
def VC_car [W : InW] (s_Learners : Ro [.str]) (s_Cars : Ro tyCar0) (s_Price s_Excess s_Lo s_Hi : Int) (s_Terms : Ro tyTerm0) (i : Int) (Q : DS -> Prop) : Prop :=
  Need (decide ((0 : Int) <= i) && decide (i < ↑(s_Cars.xs.length))) (Need (decide (i.toNat < s_Cars.xs.length)) (Pre ((cel s_Cars.xs i.toNat (0 : Nat)).str.size <= (9223372036854775807 : Nat)) (Vif (!Bk.nameOk (cel s_Cars.xs i.toNat (0 : Nat)).str) (Q [[Cl.i (6 : Int)]]) (Pre ((0 : Int) <= (0 : Int) /\ (0 : Int) <= i /\ i < ↑(s_Cars.xs.length)) (Vif (Sp.dup s_Cars.xs (cel s_Cars.xs i.toNat (0 : Nat)).str (Int.toNat (0 : Int)) (i - (0 : Int)).toNat) (Q [[Cl.i (5 : Int)]]) (Pre True (Vif (!Sp.inr (cel s_Cars.xs i.toNat (0+1 : Nat)).int (0 : Int) (1000000 : Int)) (Q [[Cl.i (7 : Int)]]) (Pre True (Vif (!Sp.inr (cel s_Cars.xs i.toNat (0+1+1 : Nat)).int (1 : Int) (1000000 : Int)) (Q [[Cl.i (7 : Int)]]) (Pre True (Vif (!Sp.inr (cel s_Cars.xs i.toNat (0+1+1+1 : Nat)).int (0 : Int) (255 : Int)) (Q [[Cl.i (7 : Int)]]) (Q [[Cl.i (0 : Int)]]))))))))))))
theorem vc_car (W : InW) (s_Learners s_Cars s_Price s_Excess s_Lo s_Hi s_Terms i Q) : bodyK (cxT Try.prog TT T4 1000 50) 1000 45 [.agg [.rs _ s_Learners, .rs _ s_Cars, .si .i64 s_Price, .si .i64 s_Excess, .si .i64 s_Lo, .si .i64 s_Hi, .rs _ s_Terms], .si .i64 i] [] 0 (leafK [(false, [.int .i64])] Q) (fun _ _ _ _ => Stuck 421) = VC_car s_Learners s_Cars s_Price s_Excess s_Lo s_Hi s_Terms i Q := by kernel_rfl
abbrev ats_car : List AT := [.agg [.sl [.str], .sl tyCar0, .int .i64, .int .i64, .int .i64, .int .i64, .sl tyTerm0], .one (.int .i64)]
theorem ok_car {pre : DS -> Prop} {res : DS -> DS} (h : ∀ (W : InW) (s_Learners : Ro [.str]) (s_Cars : Ro tyCar0) (s_Price : Int) (s_Excess : Int) (s_Lo : Int) (s_Hi : Int) (s_Terms : Ro tyTerm0) (i : Int), pre [[.l s_Learners.xs, .l s_Cars.xs, .i s_Price, .i s_Excess, .i s_Lo, .i s_Hi, .l s_Terms.xs], [.i i]] -> ∀ Q : DS -> Prop, Q (res [[.l s_Learners.xs, .l s_Cars.xs, .i s_Price, .i s_Excess, .i s_Lo, .i s_Hi, .l s_Terms.xs], [.i i]]) -> VC_car s_Learners s_Cars s_Price s_Excess s_Lo s_Hi s_Terms i Q) : PureOk Try.prog 45 ats_car [(false, [.int .i64])] pre res :=
  PureOk.of' (fun W => @TT W) (fun W => @TT_ok W) mixed_ok T4 1000 50 fun W s_Learners s_Cars s_Price s_Excess s_Lo s_Hi s_Terms i hp =>
    (vc_car W s_Learners s_Cars s_Price s_Excess s_Lo s_Hi s_Terms i (fun o => o = res [[.l s_Learners.xs, .l s_Cars.xs, .i s_Price, .i s_Excess, .i s_Lo, .i s_Hi, .l s_Terms.xs], [.i i]])).mpr (h W s_Learners s_Cars s_Price s_Excess s_Lo s_Hi s_Terms i hp _ rfl)
namespace Sp
def carErr (cars : Dt) (i : Nat) : Int :=
  if Bk.nameOk (nm cars i) then (if dup cars (nm cars i) 0 i then 5 else if inr (cel cars i 1).int 0 1000000 && inr (cel cars i 2).int 1 1000000 && inr (cel cars i 3).int 0 255 then 0 else 7) else 6
def NamesOk (xs : Dt) : Prop := ∀ i : Nat, (nm xs i).size <= 9223372036854775807
end Sp
abbrev res_car (ds : DS) : DS := match ds with | [[_, .l cars, _, _, _, _, _], [.i i]] => [[.i (Sp.carErr cars i.toNat)]] | _ => []
abbrev pre_car (ds : DS) : Prop := match ds with | [[_, .l cars, _, _, _, _, _], [.i i]] => 0 <= i /\ i < cars.length /\ Sp.NamesOk cars | _ => False
theorem okcar : PureOk Try.prog 45 ats_car [(false, [.int .i64])] pre_car res_car :=
  ok_car fun W _ cars _ _ _ _ _ i hp Q h => by
    obtain ⟨h1, h2, h3⟩ := hp;unfold VC_car;have hn := h3 i.toNat;simp only [res_car, Sp.carErr] at h;simp only [Sp.nm] at hn h;refine ned (by simp [h1, h2]) (nedd (by omega) ⟨hn, vif (fun e => ?_) fun e => ⟨by omega, ?_⟩⟩)
    · simp_all
    rw [show (i - 0).toNat = i.toNat by omega, show Int.toNat 0 = 0 from rfl];refine vif (fun e2 => ?_) fun e2 => ⟨trivial, vif (fun e3 => ?_) fun e3 => ⟨trivial, vif (fun e4 => ?_) fun e4 => ⟨trivial, vif (fun e5 => ?_) fun e5 => ?_⟩⟩⟩ <;> simp_all
noncomputable def pc_car : PC Try.prog := ⟨45, ats_car, [(false, [.int .i64])], pre_car, res_car, okcar⟩
open Go.RowKit
set_option maxRecDepth 100000
namespace Sp
def nameErr (xs : Dt) (i : Nat) : Int := if Bk.nameOk (nm xs i) then (if dup xs (nm xs i) 0 i then 5 else 0) else 6
def before (rt : Dt) (i : Nat) : Int := (cel rt i 0).int
def feeOf (rt : Dt) (i : Nat) : Int := (cel rt i 1).int
def termErr (rt : Dt) (i : Nat) : Int :=
  if inr (before rt i) 0 240 && inr (feeOf rt i) 0 1000 then
    (if decide (0 < i) && (decide (before rt (i - 1) <= before rt i) || decide (feeOf rt i < feeOf rt (i - 1))) then 2 else 0) else 7
def hasE (f : Nat -> Int) : Nat -> Nat -> Bool
  | _, 0 => false
  | i, n + 1 => !decide (f i = 0) || hasE f (i + 1) n
def idxE (f : Nat -> Int) : Nat -> Nat -> Nat
  | i, 0 => i
  | i, n + 1 => if f i = 0 then idxE f (i + 1) n else i
end Sp
theorem stepE [InW] {f : Nat -> Int} {i n : Nat} {K1 : Nat -> Int -> Prop} {K0 : Prop} (h : Vif (Sp.hasE f i (n + 1)) (K1 (Sp.idxE f i (n + 1)) (f (Sp.idxE f i (n + 1)))) K0) :
    (f i ≠ 0 -> K1 i (f i)) /\ (f i = 0 -> Vif (Sp.hasE f (i + 1) n) (K1 (Sp.idxE f (i + 1) n) (f (Sp.idxE f (i + 1) n))) K0) := by
  simp only [Sp.hasE, Sp.idxE] at h;refine ⟨fun e => ?_, fun e => ?_⟩
  · have := h.1 (by simp [e]);simpa [e] using this
  · simpa [e] using h
noncomputable def T5 : Tab Try.prog := ⟨pc_car :: T3.pcs, [], []⟩
def sp_chkD [InW] (e : List Ed) (K : Nat -> List Ed -> Prop) : Prop := match e with
  | [.i i, .i k, .ro _ rl, .ro _ rc, .i pr, .i ex, .i lo, .i hi, .ro _ rt] => Pre (0 <= k /\ k <= i /\ i < rl.xs.length) (Vif (Sp.dup rl.xs (Sp.nm rl.xs i.toNat) k.toNat (i - k).toNat) (K 1 [.i i]) (K 0 [.i i, .ro _ rl, .ro _ rc, .i pr, .i ex, .i lo, .i hi, .ro _ rt]))
  | _ => False
def lc_chkD : LC where
  len := 166
  T := [(1, (.ptr 1 0)), (5, .int .i64), (6, .int .i64)]
  H := [(1, .blk 28 [.rs [.str], .rs Ivs, .int .i64, .int .i64, .int .i64, .int .i64, .rs [.int .i64, .int .i64]])]
  W := [2, 3, 4, 74, 75, 76, 77, 78, 79, 80, 81, 82, 83, 84, 85, 86, 87, 88, 89, 90]
  outs := [⟨.exit 2, [(1, (.ptr 1 0)), (5, .int .i64)], [(1, .blk 28 [.rs [.str], .rs Ivs, .int .i64, .int .i64, .int .i64, .int .i64, .rs [.int .i64, .int .i64]])], [2, 3, 4, 6, 74, 75, 76, 77, 78, 79, 80, 81, 82, 83, 84, 85, 86, 87, 88, 89, 90]⟩, ⟨.ret, [(2, (.lit (.int .i64 2))), (3, .int .i64), (4, (.lit (.int .i64 5)))], [], [1, 5, 6, 74, 75, 76, 77, 78, 79, 80, 81, 82, 83, 84, 85, 86, 87, 88, 89, 90]⟩]
  spec := sp_chkD
def VCL_chkD [W : InW] (i k : Int) (rl : Ro [.str]) (rc : Ro Ivs) (pr ex lo hi : Int) (rt : Ro [.int .i64, .int .i64]) (A : List Ed -> Prop) (K : Nat -> List Ed -> Prop) : Prop :=
  Vif (decide (k < i)) (Need (decide ((0 : Int) <= k) && decide (k < ↑(rl.xs.length))) (Need (decide (k.toNat < rl.xs.length)) (Need (decide ((0 : Int) <= i) && decide (i < ↑(rl.xs.length))) (Need (decide (i.toNat < rl.xs.length)) (Vif (eqS (cel rl.xs k.toNat (0 : Nat)).str (cel rl.xs i.toNat (0 : Nat)).str) (K (0+1 : Nat) [.i i]) (Ar .i64 (k + (1 : Int)) fun z => A [.i i, .i z, .ro _ rl, .ro _ rc, .i pr, .i ex, .i lo, .i hi, .ro _ rt])))))) (K (0 : Nat) [.i i, .ro _ rl, .ro _ rc, .i pr, .i ex, .i lo, .i hi, .ro _ rt])
theorem vcl_chkD (W : InW) (i k rl rc pr ex lo hi rt A K) : vcTop { cxT Try.prog TT T5 1000 50 with fn := 17 } 1000 (loopAt Try.prog 17 14) (tmOut 166 [(1, .ptr 1 0), (5, .si .i64 i), (6, .si .i64 k)] [2, 3, 4, 74, 75, 76, 77, 78, 79, 80, 81, 82, 83, 84, 85, 86, 87, 88, 89, 90]) [(1, .blk 28 [.rs _ rl, .rs _ rc, .si .i64 pr, .si .i64 ex, .si .i64 lo, .si .i64 hi, .rs _ rt])] (roundL lc_chkD A K) = VCL_chkD i k rl rc pr ex lo hi rt A K := by kernel_rfl
def okLt_chkD : Prop := ∀ (W : InW) (body a : Code), (Try.prog.funcs[17]?).bind (·.body) = some body -> a ∈ loopsIn body -> keyOf a = 14 -> @LoopOk W Try.prog a (@loopRun W lc_chkD)
theorem okl_chkD (meas : [InW] -> List Ed -> Nat) (h : ∀ (W : InW) (i : Int) (k : Int) (rl : Ro [.str]) (rc : Ro Ivs) (pr : Int) (ex : Int) (lo : Int) (hi : Int) (rt : Ro [.int .i64, .int .i64]) (K : Nat -> List Ed -> Prop), sp_chkD [.i i, .i k, .ro _ rl, .ro _ rc, .i pr, .i ex, .i lo, .i hi, .ro _ rt] K -> ∀ A : List Ed -> Prop, (∀ e, meas e < meas [.i i, .i k, .ro _ rl, .ro _ rc, .i pr, .i ex, .i lo, .i hi, .ro _ rt] -> sp_chkD e K -> A e) -> VCL_chkD i k rl rc pr ex lo hi rt A K) : okLt_chkD :=
  LE.okOf' (fun W => @TT W) (fun W => @TT_ok W) mixed_ok T5 1000 50 (by kernel_rfl) lc_chkD (fun W => @meas W) fun W i k rl rc pr ex lo hi rt K hs =>
    (vcl_chkD W i k rl rc pr ex lo hi rt (fun e => meas e < meas [.i i, .i k, .ro _ rl, .ro _ rc, .i pr, .i ex, .i lo, .i hi, .ro _ rt] /\ sp_chkD e K) K).mpr (h W i k rl rc pr ex lo hi rt K hs _ fun e h1 h2 => ⟨h1, h2⟩)
theorem okLchkD : okLt_chkD := okl_chkD (fun e => match e with | .i i :: .i k :: _ => (i - k).toNat | _ => 0) fun W i k rl rc pr ex lo hi rt K hs A hA => by
  obtain ⟨⟨h0, h1, h2⟩, hk⟩ := hs;unfold VCL_chkD;have hm := rl.len;refine vifd (fun e => ned (by simp; omega) (nedd (by omega) (ned (by simp; omega) (nedd (by omega) (vif (fun e2 => ?_) fun e2 => ar64 (by simp only [maxLen] at hm; omega) (hA _ ?_ ?_)))))) fun e => ?_
  · refine hk.1 ?_;rw [show (i - k).toNat = (i - (k + 1)).toNat + 1 by omega];simp only [Sp.dup, Sp.nm, e2, Bool.true_or]
  · show (i - (k + 1)).toNat < (i - k).toNat
    omega
  · refine ⟨⟨by omega, by omega, h2⟩, ?_⟩;rw [show (i - k).toNat = (i - (k + 1)).toNat + 1 by omega] at hk;simp only [Sp.dup, Sp.nm, e2, Bool.false_or] at hk;rw [show (k + 1).toNat = k.toNat + 1 by omega];exact hk
  · refine hk.2 ?_;rw [show (i - k).toNat = 0 by omega];rfl
noncomputable def le_chkD : LE Try.prog := ⟨17, 14, fun W => @loopRun W lc_chkD, okLchkD⟩
noncomputable def T6 : Tab Try.prog := ⟨T5.pcs, [le_chkD], []⟩
def sp_chkN [InW] (e : List Ed) (K : Nat -> List Ed -> Prop) : Prop := match e with
  | [.i i, .ro _ rl, .ro _ rc, .i pr, .i ex, .i lo, .i hi, .ro _ rt] => Pre (0 <= i /\ i <= rl.xs.length /\ Sp.NamesOk rl.xs) (Vif (Sp.hasE (Sp.nameErr rl.xs) i.toNat (rl.xs.length - i.toNat))
      (K 1 [.i (Sp.idxE (Sp.nameErr rl.xs) i.toNat (rl.xs.length - i.toNat)), .i (Sp.nameErr rl.xs (Sp.idxE (Sp.nameErr rl.xs) i.toNat (rl.xs.length - i.toNat)))]) (K 0 [.ro _ rl, .ro _ rc, .i pr, .i ex, .i lo, .i hi, .ro _ rt]))
  | _ => False
def lc_chkN : LC where
  len := 166
  T := [(1, (.ptr 1 0)), (5, .int .i64)]
  H := [(1, .blk 28 [.rs [.str], .rs Ivs, .int .i64, .int .i64, .int .i64, .int .i64, .rs [.int .i64, .int .i64]])]
  W := [2, 3, 4, 6, 59, 60, 61, 62, 63, 64, 65, 66, 67, 68, 69, 70, 71, 72, 73, 74, 75, 76, 77, 78, 79, 80, 81, 82, 83, 84, 85, 86, 87, 88, 89, 90]
  outs := [⟨.exit 0, [(1, (.ptr 1 0))], [(1, .blk 28 [.rs [.str], .rs Ivs, .int .i64, .int .i64, .int .i64, .int .i64, .rs [.int .i64, .int .i64]])], [2, 3, 4, 5, 6, 59, 60, 61, 62, 63, 64, 65, 66, 67, 68, 69, 70, 71, 72, 73, 74, 75, 76, 77, 78, 79, 80, 81, 82, 83, 84, 85, 86, 87, 88, 89, 90]⟩, ⟨.ret, [(2, (.lit (.int .i64 2))), (3, .int .i64), (4, .int .i64)], [], [1, 5, 6, 59, 60, 61, 62, 63, 64, 65, 66, 67, 68, 69, 70, 71, 72, 73, 74, 75, 76, 77, 78, 79, 80, 81, 82, 83, 84, 85, 86, 87, 88, 89, 90]⟩]
  spec := sp_chkN
def VCL_chkN [W : InW] (i : Int) (rl : Ro [.str]) (rc : Ro Ivs) (pr ex lo hi : Int) (rt : Ro [.int .i64, .int .i64]) (A : List Ed -> Prop) (K : Nat -> List Ed -> Prop) : Prop :=
  Vif (decide (i < ↑(rl.xs.length))) (Need (decide ((0 : Int) <= i) && decide (i < ↑(rl.xs.length))) (Need (decide (i.toNat < rl.xs.length)) (Pre ((cel rl.xs i.toNat (0 : Nat)).str.size <= (9223372036854775807 : Nat)) (Vif (!Bk.nameOk (cel rl.xs i.toNat (0 : Nat)).str) (K (0+1 : Nat) [.i i, .i (6 : Int)]) (Pre ((0 : Int) <= (0 : Int) /\ (0 : Int) <= i /\ i < ↑(rl.xs.length)) (Vif (Sp.dup rl.xs (Sp.nm rl.xs i.toNat) (Int.toNat (0 : Int)) (i - (0 : Int)).toNat) (K (0+1 : Nat) [.i i, .i (5 : Int)]) (Ar .i64 (i + (1 : Int)) fun z => A [.i z, .ro _ rl, .ro _ rc, .i pr, .i ex, .i lo, .i hi, .ro _ rt]))))))) (K (0 : Nat) [.ro _ rl, .ro _ rc, .i pr, .i ex, .i lo, .i hi, .ro _ rt])
theorem vcl_chkN (W : InW) (i rl rc pr ex lo hi rt A K) : vcTop { cxT Try.prog TT T6 1000 50 with fn := 17 } 1000 (loopAt Try.prog 17 9) (tmOut 166 [(1, .ptr 1 0), (5, .si .i64 i)] [2, 3, 4, 6, 59, 60, 61, 62, 63, 64, 65, 66, 67, 68, 69, 70, 71, 72, 73, 74, 75, 76, 77, 78, 79, 80, 81, 82, 83, 84, 85, 86, 87, 88, 89, 90]) [(1, .blk 28 [.rs _ rl, .rs _ rc, .si .i64 pr, .si .i64 ex, .si .i64 lo, .si .i64 hi, .rs _ rt])] (roundL lc_chkN A K) = VCL_chkN i rl rc pr ex lo hi rt A K := by kernel_rfl
def okLt_chkN : Prop := ∀ (W : InW) (body a : Code), (Try.prog.funcs[17]?).bind (·.body) = some body -> a ∈ loopsIn body -> keyOf a = 9 -> @LoopOk W Try.prog a (@loopRun W lc_chkN)
theorem okl_chkN (meas : [InW] -> List Ed -> Nat) (h : ∀ (W : InW) (i : Int) (rl : Ro [.str]) (rc : Ro Ivs) (pr : Int) (ex : Int) (lo : Int) (hi : Int) (rt : Ro [.int .i64, .int .i64]) (K : Nat -> List Ed -> Prop), sp_chkN [.i i, .ro _ rl, .ro _ rc, .i pr, .i ex, .i lo, .i hi, .ro _ rt] K -> ∀ A : List Ed -> Prop, (∀ e, meas e < meas [.i i, .ro _ rl, .ro _ rc, .i pr, .i ex, .i lo, .i hi, .ro _ rt] -> sp_chkN e K -> A e) -> VCL_chkN i rl rc pr ex lo hi rt A K) : okLt_chkN :=
  LE.okOf' (fun W => @TT W) (fun W => @TT_ok W) mixed_ok T6 1000 50 (by kernel_rfl) lc_chkN (fun W => @meas W) fun W i rl rc pr ex lo hi rt K hs =>
    (vcl_chkN W i rl rc pr ex lo hi rt (fun e => meas e < meas [.i i, .ro _ rl, .ro _ rc, .i pr, .i ex, .i lo, .i hi, .ro _ rt] /\ sp_chkN e K) K).mpr (h W i rl rc pr ex lo hi rt K hs _ fun e h1 h2 => ⟨h1, h2⟩)
theorem okLchkN : okLt_chkN := okl_chkN (fun e => match e with | .i i :: .ro _ rl :: _ => (rl.xs.length - i).toNat | _ => 0) fun W i rl rc pr ex lo hi rt K hs A hA => by
  obtain ⟨⟨h0, h1, h2⟩, hk⟩ := hs;unfold VCL_chkN;have hm := rl.len;have hn := h2 i.toNat;refine vifd (fun e => ?_) fun e => ?_
  · rw [show rl.xs.length - i.toNat = (rl.xs.length - (i.toNat + 1)) + 1 by omega] at hk;obtain ⟨g1, g2⟩ := stepE (K1 := fun j e => K 1 [.i j, .i e]) hk;rw [Int.toNat_of_nonneg h0] at g1;simp only [Sp.nm] at hn;refine ned (by simp; omega) (nedd (by omega) ⟨hn, vif (fun e2 => ?_) fun e2 => ⟨by omega, ?_⟩⟩)
    · have f : Sp.nameErr rl.xs i.toNat = 6 := by simp_all [Sp.nameErr, Sp.nm]
      rw [f] at g1;exact g1 (by decide)
    rw [show (i - 0).toNat = i.toNat by omega, show Int.toNat 0 = 0 from rfl];refine vif (fun e3 => ?_) fun e3 => ar64 (by simp only [maxLen] at hm; omega) (hA _ ?_ ?_)
    · have f : Sp.nameErr rl.xs i.toNat = 5 := by simp_all [Sp.nameErr, Sp.nm]
      rw [f] at g1;exact g1 (by decide)
    · show (rl.xs.length - (i + 1)).toNat < (rl.xs.length - i).toNat
      omega
    · have f : Sp.nameErr rl.xs i.toNat = 0 := by simp_all [Sp.nameErr, Sp.nm]
      refine ⟨⟨by omega, by omega, h2⟩, ?_⟩;rw [show (i + 1).toNat = i.toNat + 1 by omega];exact g2 f
  · rw [show rl.xs.length - i.toNat = 0 by omega] at hk;exact hk.2 rfl
noncomputable def le_chkN : LE Try.prog := ⟨17, 9, fun W => @loopRun W lc_chkN, okLchkN⟩
def sp_chkC [InW] (e : List Ed) (K : Nat -> List Ed -> Prop) : Prop := match e with
  | [.i i, .ro _ rl, .ro _ rc, .i pr, .i ex, .i lo, .i hi, .ro _ rt] => Pre (0 <= i /\ i <= rc.xs.length /\ Sp.NamesOk rc.xs) (Vif (Sp.hasE (Sp.carErr rc.xs) i.toNat (rc.xs.length - i.toNat))
      (K 1 [.i (Sp.idxE (Sp.carErr rc.xs) i.toNat (rc.xs.length - i.toNat)), .i (Sp.carErr rc.xs (Sp.idxE (Sp.carErr rc.xs) i.toNat (rc.xs.length - i.toNat)))]) (K 0 [.ro _ rl, .ro _ rc, .i pr, .i ex, .i lo, .i hi, .ro _ rt]))
  | _ => False
def lc_chkC : LC where
  len := 166
  T := [(1, (.ptr 1 0)), (7, .int .i64)]
  H := [(1, .blk 28 [.rs [.str], .rs Ivs, .int .i64, .int .i64, .int .i64, .int .i64, .rs [.int .i64, .int .i64]])]
  W := [2, 3, 4, 8, 91, 92, 93, 94, 95, 96, 97, 98, 99, 100, 101, 102, 103, 104]
  outs := [⟨.exit 4, [(1, (.ptr 1 0))], [(1, .blk 28 [.rs [.str], .rs Ivs, .int .i64, .int .i64, .int .i64, .int .i64, .rs [.int .i64, .int .i64]])], [2, 3, 4, 7, 8, 91, 92, 93, 94, 95, 96, 97, 98, 99, 100, 101, 102, 103, 104]⟩, ⟨.ret, [(2, (.lit (.int .i64 3))), (3, .int .i64), (4, .int .i64)], [], [1, 7, 8, 91, 92, 93, 94, 95, 96, 97, 98, 99, 100, 101, 102, 103, 104]⟩]
  spec := sp_chkC
def VCL_chkC [W : InW] (i : Int) (rl : Ro [.str]) (rc : Ro Ivs) (pr ex lo hi : Int) (rt : Ro [.int .i64, .int .i64]) (A : List Ed -> Prop) (K : Nat -> List Ed -> Prop) : Prop :=
  Vif (decide (i < ↑(rc.xs.length))) (Pre ((0 : Int) <= i /\ i < ↑(rc.xs.length) /\ Sp.NamesOk rc.xs) (Vif (!decide (Sp.carErr rc.xs i.toNat = (0 : Int))) (K (0+1 : Nat) [.i i, .i (Sp.carErr rc.xs i.toNat)]) (Ar .i64 (i + (1 : Int)) fun z => A [.i z, .ro _ rl, .ro _ rc, .i pr, .i ex, .i lo, .i hi, .ro _ rt]))) (K (0 : Nat) [.ro _ rl, .ro _ rc, .i pr, .i ex, .i lo, .i hi, .ro _ rt])
theorem vcl_chkC (W : InW) (i rl rc pr ex lo hi rt A K) : vcTop { cxT Try.prog TT T5 1000 50 with fn := 17 } 1000 (loopAt Try.prog 17 19) (tmOut 166 [(1, .ptr 1 0), (7, .si .i64 i)] [2, 3, 4, 8, 91, 92, 93, 94, 95, 96, 97, 98, 99, 100, 101, 102, 103, 104]) [(1, .blk 28 [.rs _ rl, .rs _ rc, .si .i64 pr, .si .i64 ex, .si .i64 lo, .si .i64 hi, .rs _ rt])] (roundL lc_chkC A K) = VCL_chkC i rl rc pr ex lo hi rt A K := by kernel_rfl
def okLt_chkC : Prop := ∀ (W : InW) (body a : Code), (Try.prog.funcs[17]?).bind (·.body) = some body -> a ∈ loopsIn body -> keyOf a = 19 -> @LoopOk W Try.prog a (@loopRun W lc_chkC)
theorem okl_chkC (meas : [InW] -> List Ed -> Nat) (h : ∀ (W : InW) (i : Int) (rl : Ro [.str]) (rc : Ro Ivs) (pr : Int) (ex : Int) (lo : Int) (hi : Int) (rt : Ro [.int .i64, .int .i64]) (K : Nat -> List Ed -> Prop), sp_chkC [.i i, .ro _ rl, .ro _ rc, .i pr, .i ex, .i lo, .i hi, .ro _ rt] K -> ∀ A : List Ed -> Prop, (∀ e, meas e < meas [.i i, .ro _ rl, .ro _ rc, .i pr, .i ex, .i lo, .i hi, .ro _ rt] -> sp_chkC e K -> A e) -> VCL_chkC i rl rc pr ex lo hi rt A K) : okLt_chkC :=
  LE.okOf' (fun W => @TT W) (fun W => @TT_ok W) mixed_ok T5 1000 50 (by kernel_rfl) lc_chkC (fun W => @meas W) fun W i rl rc pr ex lo hi rt K hs =>
    (vcl_chkC W i rl rc pr ex lo hi rt (fun e => meas e < meas [.i i, .ro _ rl, .ro _ rc, .i pr, .i ex, .i lo, .i hi, .ro _ rt] /\ sp_chkC e K) K).mpr (h W i rl rc pr ex lo hi rt K hs _ fun e h1 h2 => ⟨h1, h2⟩)
theorem okLchkC : okLt_chkC := okl_chkC (fun e => match e with | .i i :: .ro _ rl :: .ro _ rc :: _ => (rc.xs.length - i).toNat | _ => 0) fun W i rl rc pr ex lo hi rt K hs A hA => by
  obtain ⟨⟨h0, h1, h2⟩, hk⟩ := hs;unfold VCL_chkC;have hm := rc.len;refine vifd (fun e => ?_) fun e => ?_
  · rw [show rc.xs.length - i.toNat = (rc.xs.length - (i.toNat + 1)) + 1 by omega] at hk;obtain ⟨g1, g2⟩ := stepE (K1 := fun j e => K 1 [.i j, .i e]) hk;rw [Int.toNat_of_nonneg h0] at g1;refine ⟨⟨h0, e, h2⟩, vif (fun e2 => g1 (by simpa using e2)) fun e2 => ar64 (by simp only [maxLen] at hm; omega) (hA _ ?_ ?_)⟩
    · show (rc.xs.length - (i + 1)).toNat < (rc.xs.length - i).toNat
      omega
    · refine ⟨⟨by omega, by omega, h2⟩, ?_⟩;rw [show (i + 1).toNat = i.toNat + 1 by omega];exact g2 (by simpa using e2)
  · rw [show rc.xs.length - i.toNat = 0 by omega] at hk;exact hk.2 rfl
noncomputable def le_chkC : LE Try.prog := ⟨17, 19, fun W => @loopRun W lc_chkC, okLchkC⟩
def sp_chkT [InW] (e : List Ed) (K : Nat -> List Ed -> Prop) : Prop := match e with
  | [.i i, .ro _ rl, .ro _ rc, .i pr, .i ex, .i lo, .i hi, .ro _ rt] => Pre (0 <= i /\ i <= rt.xs.length) (Vif (Sp.hasE (Sp.termErr rt.xs) i.toNat (rt.xs.length - i.toNat))
      (K 1 [.i (Sp.idxE (Sp.termErr rt.xs) i.toNat (rt.xs.length - i.toNat)), .i (Sp.termErr rt.xs (Sp.idxE (Sp.termErr rt.xs) i.toNat (rt.xs.length - i.toNat)))]) (K 0 []))
  | _ => False
def lc_chkT : LC where
  len := 166
  T := [(1, (.ptr 1 0)), (9, .int .i64)]
  H := [(1, .blk 28 [.rs [.str], .rs Ivs, .int .i64, .int .i64, .int .i64, .int .i64, .rs [.int .i64, .int .i64]])]
  W := [2, 3, 4, 105, 106, 107, 108, 109, 110, 111, 112, 113, 114, 115, 116, 117, 118, 119, 120, 121, 122, 123, 124, 125, 126, 127, 128, 129, 130, 131, 132, 133, 134, 135, 136, 137, 138, 139, 140, 141, 142, 143, 144, 145, 146, 147, 148, 149, 150, 151, 152, 153, 154, 155, 156, 157, 158, 159, 160, 161, 162, 163, 164, 165]
  outs := [⟨.exit 6, [], [], [1, 2, 3, 4, 9, 105, 106, 107, 108, 109, 110, 111, 112, 113, 114, 115, 116, 117, 118, 119, 120, 121, 122, 123, 124, 125, 126, 127, 128, 129, 130, 131, 132, 133, 134, 135, 136, 137, 138, 139, 140, 141, 142, 143, 144, 145, 146, 147, 148, 149, 150, 151, 152, 153, 154, 155, 156, 157, 158, 159, 160, 161, 162, 163, 164, 165]⟩, ⟨.ret, [(2, (.lit (.int .i64 4))), (3, .int .i64), (4, .int .i64)], [], [1, 9, 105, 106, 107, 108, 109, 110, 111, 112, 113, 114, 115, 116, 117, 118, 119, 120, 121, 122, 123, 124, 125, 126, 127, 128, 129, 130, 131, 132, 133, 134, 135, 136, 137, 138, 139, 140, 141, 142, 143, 144, 145, 146, 147, 148, 149, 150, 151, 152, 153, 154, 155, 156, 157, 158, 159, 160, 161, 162, 163, 164, 165]⟩]
  spec := sp_chkT
def VCL_chkT [W : InW] (i : Int) (rl : Ro [.str]) (rc : Ro Ivs) (pr ex lo hi : Int) (rt : Ro [.int .i64, .int .i64]) (A : List Ed -> Prop) (K : Nat -> List Ed -> Prop) : Prop :=
  Vif (decide (i < ↑(rt.xs.length))) (Need (decide ((0 : Int) <= i) && decide (i < ↑(rt.xs.length))) (Need (decide (i.toNat < rt.xs.length)) (Pre True (Vif (!Sp.inr (cel rt.xs i.toNat (0 : Nat)).int (0 : Int) (240 : Int)) (K (0+1 : Nat) [.i i, .i (7 : Int)]) (Need (decide ((0 : Int) <= i) && decide (i < ↑(rt.xs.length))) (Need (decide (i.toNat < rt.xs.length)) (Pre True (Vif (!Sp.inr (cel rt.xs i.toNat (nat_lit 0 + (1 : Nat))).int (0 : Int) (1000 : Int)) (K (0+1 : Nat) [.i i, .i (7 : Int)]) (Vif (decide ((0 : Int) < i)) (Need (decide ((0 : Int) <= i) && decide (i < ↑(rt.xs.length))) (Need (decide (i.toNat < rt.xs.length)) (Ar .i64 (i - (1 : Int)) fun z => Need (decide ((0 : Int) <= z) && decide (z < ↑(rt.xs.length))) (Need (decide (z.toNat < rt.xs.length)) (Vif (decide ((cel rt.xs z.toNat (0 : Nat)).int <= (cel rt.xs i.toNat (0 : Nat)).int)) (K (0+1 : Nat) [.i i, .i (2 : Int)]) (Need (decide ((0 : Int) <= i) && decide (i < ↑(rt.xs.length))) (Need (decide (i.toNat < rt.xs.length)) (Ar .i64 (i - (1 : Int)) fun z => Need (decide ((0 : Int) <= z) && decide (z < ↑(rt.xs.length))) (Need (decide (z.toNat < rt.xs.length)) (Vif (decide ((cel rt.xs i.toNat (nat_lit 0 + (1 : Nat))).int < (cel rt.xs z.toNat (nat_lit 0 + (1 : Nat))).int)) (K (0+1 : Nat) [.i i, .i (2 : Int)]) (Ar .i64 (i + (1 : Int)) fun z => A [.i z, .ro _ rl, .ro _ rc, .i pr, .i ex, .i lo, .i hi, .ro _ rt]))))))))))) (Ar .i64 (i + (1 : Int)) fun z => A [.i z, .ro _ rl, .ro _ rc, .i pr, .i ex, .i lo, .i hi, .ro _ rt])))))))))) (K (0 : Nat) [])
theorem vcl_chkT (W : InW) (i rl rc pr ex lo hi rt A K) : vcTop { cxT Try.prog TT T5 1000 50 with fn := 17 } 1000 (loopAt Try.prog 17 25) (tmOut 166 [(1, .ptr 1 0), (9, .si .i64 i)] [2, 3, 4, 105, 106, 107, 108, 109, 110, 111, 112, 113, 114, 115, 116, 117, 118, 119, 120, 121, 122, 123, 124, 125, 126, 127, 128, 129, 130, 131, 132, 133, 134, 135, 136, 137, 138, 139, 140, 141, 142, 143, 144, 145, 146, 147, 148, 149, 150, 151, 152, 153, 154, 155, 156, 157, 158, 159, 160, 161, 162, 163, 164, 165]) [(1, .blk 28 [.rs _ rl, .rs _ rc, .si .i64 pr, .si .i64 ex, .si .i64 lo, .si .i64 hi, .rs _ rt])] (roundL lc_chkT A K) = VCL_chkT i rl rc pr ex lo hi rt A K := by kernel_rfl
def okLt_chkT : Prop := ∀ (W : InW) (body a : Code), (Try.prog.funcs[17]?).bind (·.body) = some body -> a ∈ loopsIn body -> keyOf a = 25 -> @LoopOk W Try.prog a (@loopRun W lc_chkT)
theorem okl_chkT (meas : [InW] -> List Ed -> Nat) (h : ∀ (W : InW) (i : Int) (rl : Ro [.str]) (rc : Ro Ivs) (pr : Int) (ex : Int) (lo : Int) (hi : Int) (rt : Ro [.int .i64, .int .i64]) (K : Nat -> List Ed -> Prop), sp_chkT [.i i, .ro _ rl, .ro _ rc, .i pr, .i ex, .i lo, .i hi, .ro _ rt] K -> ∀ A : List Ed -> Prop, (∀ e, meas e < meas [.i i, .ro _ rl, .ro _ rc, .i pr, .i ex, .i lo, .i hi, .ro _ rt] -> sp_chkT e K -> A e) -> VCL_chkT i rl rc pr ex lo hi rt A K) : okLt_chkT :=
  LE.okOf' (fun W => @TT W) (fun W => @TT_ok W) mixed_ok T5 1000 50 (by kernel_rfl) lc_chkT (fun W => @meas W) fun W i rl rc pr ex lo hi rt K hs =>
    (vcl_chkT W i rl rc pr ex lo hi rt (fun e => meas e < meas [.i i, .ro _ rl, .ro _ rc, .i pr, .i ex, .i lo, .i hi, .ro _ rt] /\ sp_chkT e K) K).mpr (h W i rl rc pr ex lo hi rt K hs _ fun e h1 h2 => ⟨h1, h2⟩)
theorem okLchkT : okLt_chkT := okl_chkT (fun e => match e with | .i i :: .ro _ rl :: .ro _ rc :: .i _ :: .i _ :: .i _ :: .i _ :: .ro _ rt :: _ => (rt.xs.length - i).toNat | _ => 0) fun W i rl rc pr ex lo hi rt K hs A hA => by
  obtain ⟨⟨h0, h1⟩, hk⟩ := hs;unfold VCL_chkT;have hm := rt.len;simp only [maxLen] at hm;refine vifd (fun e => ?_) fun e => ?_
  · rw [show rt.xs.length - i.toNat = (rt.xs.length - (i.toNat + 1)) + 1 by omega] at hk;obtain ⟨g1, g2⟩ := stepE (K1 := fun j e => K 1 [.i j, .i e]) hk;rw [Int.toNat_of_nonneg h0] at g1;have hA' : Sp.termErr rt.xs i.toNat = 0 -> A [.i (i + 1), .ro _ rl, .ro _ rc, .i pr, .i ex, .i lo, .i hi, .ro _ rt] := fun f => hA _ (by show (rt.xs.length - (i + 1)).toNat < (rt.xs.length - i).toNat; omega) ⟨by omega, by
      rw [show (i + 1).toNat = i.toNat + 1 by omega];exact g2 f⟩
    have hd : (decide (0 <= i) && decide (i < ↑rt.xs.length)) = true := by simp; omega
    have bad : ∀ n, Sp.termErr rt.xs i.toNat = n -> n ≠ 0 -> K 1 [.i i, .i n] := fun n hn h => by rw [<- hn]; exact g1 (by rw [hn]; exact h)
    refine ned hd (nedd (by omega) ⟨trivial, vif (fun e2 => bad 7 ?_ (by decide)) fun e2 => ned hd (nedd (by omega) ⟨trivial, vif (fun e3 => bad 7 ?_ (by decide)) fun e3 => vifd (fun e4 => ?_) fun e4 => ar64 (by omega) (hA' ?_)⟩)⟩)
    · clear hA hA' bad g1 g2 hk; simp_all [Sp.termErr, Sp.before]
    · clear hA hA' bad g1 g2 hk; simp_all [Sp.termErr, Sp.feeOf]
    · have e5 : (i - 1).toNat = i.toNat - 1 := by omega
      have e6 : 0 < i.toNat := by omega
      refine ned hd (nedd (by omega) (ar64 (by omega) (ned (by simp; omega) (nedd (by omega) (vifd (fun e7 => bad 2 ?_ (by decide)) fun e7 => ned hd (nedd (by omega) (ar64 (by omega) (ned (by simp; omega) (nedd (by omega) (vifd (fun e8 => bad 2 ?_ (by decide)) fun e8 => ar64 (by omega) (hA' ?_)))))))))))
      all_goals clear hA hA' bad g1 g2 hk
      all_goals rw [e5] at e7
      all_goals rw [Bool.not_eq_false'] at e2 e3
      all_goals simp only [Nat.zero_add] at e3
      · simp [Sp.termErr, Sp.before, Sp.feeOf, e2, e3, e6, e7]
      all_goals rw [e5] at e8
      · simp [Sp.termErr, Sp.before, Sp.feeOf, e2, e3, e6, e8]
      · simp only [Nat.zero_add] at e8;simp only [Sp.termErr, Sp.before, Sp.feeOf, e2, e3];simp only [Bool.and_self, if_true, Bool.and_eq_true, Bool.or_eq_true, decide_eq_true_eq, e7, e8, or_self, and_false, if_false]
    · have e6 : ¬ 0 < i.toNat := by omega
      clear hA hA' bad g1 g2 hk;rw [Bool.not_eq_false'] at e2 e3;simp only [Nat.zero_add] at e3;simp only [Sp.termErr, Sp.before, Sp.feeOf, e2, e3];simp only [Bool.and_self, if_true, Bool.and_eq_true, decide_eq_true_eq, e6, false_and, if_false]
  · rw [show rt.xs.length - i.toNat = 0 by omega] at hk;exact hk.2 rfl
noncomputable def le_chkT : LE Try.prog := ⟨17, 25, fun W => @loopRun W lc_chkT, okLchkT⟩
noncomputable def T7 : Tab Try.prog := ⟨T5.pcs, [le_chkD, le_chkN, le_chkC, le_chkT], []⟩
def VC_Check [W : InW] (s_Learners : Ro [.str]) (s_Cars : Ro Ivs) (s_Price s_Excess s_Lo s_Hi : Int) (s_Terms : Ro [.int .i64, .int .i64]) (Q : DS -> Prop) : Prop :=
  Pre True (Vif (!Sp.inr ↑(s_Learners.xs.length) (1 : Int) (8 : Int)) (Q [[Cl.i (1 : Int)], [Cl.i (0 : Int)], [Cl.i (3 : Int)]]) (Pre True (Vif (!Sp.inr ↑(s_Cars.xs.length) (1 : Int) (5 : Int)) (Q [[Cl.i (1 : Int)], [Cl.i (0 : Int)], [Cl.i (3 : Int)]]) (Vif (decide ((4 : Int) < ↑(s_Terms.xs.length))) (Q [[Cl.i (1 : Int)], [Cl.i (0 : Int)], [Cl.i (3 : Int)]]) (Pre True (Vif (!Sp.inr s_Price (1 : Int) (10000 : Int)) (Q [[Cl.i (1 : Int)], [Cl.i (0 : Int)], [Cl.i (7 : Int)]]) (Pre True (Vif (!Sp.inr s_Excess (0 : Int) (10000000 : Int)) (Q [[Cl.i (1 : Int)], [Cl.i (0 : Int)], [Cl.i (7 : Int)]]) (Pre True (Vif (!Sp.inr s_Lo (0 : Int) (24 : Int)) (Q [[Cl.i (1 : Int)], [Cl.i (0 : Int)], [Cl.i (7 : Int)]]) (Pre True (Vif (!Sp.inr s_Hi (0 : Int) (24 : Int)) (Q [[Cl.i (1 : Int)], [Cl.i (0 : Int)], [Cl.i (7 : Int)]]) (Vif (decide (s_Hi <= s_Lo)) (Q [[Cl.i (1 : Int)], [Cl.i (0 : Int)], [Cl.i (2 : Int)]]) (Pre ((0 : Int) <= (0 : Int) /\ (0 : Int) <= ↑(s_Learners.xs.length) /\ Sp.NamesOk s_Learners.xs) (Vif (Sp.hasE (Sp.nameErr s_Learners.xs) (Int.toNat (0 : Int)) (s_Learners.xs.length - Int.toNat (0 : Int))) (Q [[Cl.i (2 : Int)], [Cl.i ↑(Sp.idxE (Sp.nameErr s_Learners.xs) (Int.toNat (0 : Int)) (s_Learners.xs.length - Int.toNat (0 : Int)))], [Cl.i (Sp.nameErr s_Learners.xs (Sp.idxE (Sp.nameErr s_Learners.xs) (Int.toNat (0 : Int)) (s_Learners.xs.length - Int.toNat (0 : Int))))]]) (Pre ((0 : Int) <= (0 : Int) /\ (0 : Int) <= ↑(s_Cars.xs.length) /\ Sp.NamesOk s_Cars.xs) (Vif (Sp.hasE (Sp.carErr s_Cars.xs) (Int.toNat (0 : Int)) (s_Cars.xs.length - Int.toNat (0 : Int))) (Q [[Cl.i (3 : Int)], [Cl.i ↑(Sp.idxE (Sp.carErr s_Cars.xs) (Int.toNat (0 : Int)) (s_Cars.xs.length - Int.toNat (0 : Int)))], [Cl.i (Sp.carErr s_Cars.xs (Sp.idxE (Sp.carErr s_Cars.xs) (Int.toNat (0 : Int)) (s_Cars.xs.length - Int.toNat (0 : Int))))]]) (Pre ((0 : Int) <= (0 : Int) /\ (0 : Int) <= ↑(s_Terms.xs.length)) (Vif (Sp.hasE (Sp.termErr s_Terms.xs) (Int.toNat (0 : Int)) (s_Terms.xs.length - Int.toNat (0 : Int))) (Q [[Cl.i (4 : Int)], [Cl.i ↑(Sp.idxE (Sp.termErr s_Terms.xs) (Int.toNat (0 : Int)) (s_Terms.xs.length - Int.toNat (0 : Int)))], [Cl.i (Sp.termErr s_Terms.xs (Sp.idxE (Sp.termErr s_Terms.xs) (Int.toNat (0 : Int)) (s_Terms.xs.length - Int.toNat (0 : Int))))]]) (Q [[Cl.i (0 : Int)], [Cl.i (0 : Int)], [Cl.i (0 : Int)]]))))))))))))))))))))
theorem vc_Check (W : InW) (s_Learners s_Cars s_Price s_Excess s_Lo s_Hi s_Terms Q) : bodyK (cxT Try.prog TT T7 1000 50) 1000 17 [.agg [.rs _ s_Learners, .rs _ s_Cars, .si .i64 s_Price, .si .i64 s_Excess, .si .i64 s_Lo, .si .i64 s_Hi, .rs _ s_Terms]] [] 0 (leafK [(false, [.int .i64]), (false, [.int .i64]), (false, [.int .i64])] Q) (fun _ _ _ _ => Stuck 421) = VC_Check s_Learners s_Cars s_Price s_Excess s_Lo s_Hi s_Terms Q := by kernel_rfl
abbrev ats_Check : List AT := [.agg [.sl [.str], .sl Ivs, .int .i64, .int .i64, .int .i64, .int .i64, .sl [.int .i64, .int .i64]]]
theorem ok_Check {pre : DS -> Prop} {res : DS -> DS} (h : ∀ (W : InW) (s_Learners : Ro [.str]) (s_Cars : Ro Ivs) (s_Price : Int) (s_Excess : Int) (s_Lo : Int) (s_Hi : Int) (s_Terms : Ro [.int .i64, .int .i64]), pre [[.l s_Learners.xs, .l s_Cars.xs, .i s_Price, .i s_Excess, .i s_Lo, .i s_Hi, .l s_Terms.xs]] -> ∀ Q : DS -> Prop, Q (res [[.l s_Learners.xs, .l s_Cars.xs, .i s_Price, .i s_Excess, .i s_Lo, .i s_Hi, .l s_Terms.xs]]) -> VC_Check s_Learners s_Cars s_Price s_Excess s_Lo s_Hi s_Terms Q) : PureOk Try.prog 17 ats_Check [(false, [.int .i64]), (false, [.int .i64]), (false, [.int .i64])] pre res :=
  PureOk.of' (fun W => @TT W) (fun W => @TT_ok W) mixed_ok T7 1000 50 fun W s_Learners s_Cars s_Price s_Excess s_Lo s_Hi s_Terms hp =>
    (vc_Check W s_Learners s_Cars s_Price s_Excess s_Lo s_Hi s_Terms (fun o => o = res [[.l s_Learners.xs, .l s_Cars.xs, .i s_Price, .i s_Excess, .i s_Lo, .i s_Hi, .l s_Terms.xs]])).mpr (h W s_Learners s_Cars s_Price s_Excess s_Lo s_Hi s_Terms hp _ rfl)
namespace Sp
def check (rl rc : Dt) (pr ex lo hi : Int) (rt : Dt) : Int × Int × Int :=
  if !(inr rl.length 1 8 && inr rc.length 1 5) || decide (4 < (rt.length : Int)) then (1, 0, 3)
  else if !(inr pr 1 10000 && inr ex 0 10000000 && inr lo 0 24 && inr hi 0 24) then (1, 0, 7)
  else if decide (hi <= lo) then (1, 0, 2)
  else if hasE (nameErr rl) 0 rl.length then (2, idxE (nameErr rl) 0 rl.length, nameErr rl (idxE (nameErr rl) 0 rl.length))
  else if hasE (carErr rc) 0 rc.length then (3, idxE (carErr rc) 0 rc.length, carErr rc (idxE (carErr rc) 0 rc.length))
  else if hasE (termErr rt) 0 rt.length then (4, idxE (termErr rt) 0 rt.length, termErr rt (idxE (termErr rt) 0 rt.length))
  else (0, 0, 0)
def chkP (rl rc : Dt) (pr ex lo hi : Int) (rt : Dt) : Int := (check rl rc pr ex lo hi rt).1
def chkI (rl rc : Dt) (pr ex lo hi : Int) (rt : Dt) : Int := (check rl rc pr ex lo hi rt).2.1
def chkE (rl rc : Dt) (pr ex lo hi : Int) (rt : Dt) : Int := (check rl rc pr ex lo hi rt).2.2
end Sp
abbrev res_Check (ds : DS) : DS := match ds with | [[.l rl, .l rc, .i pr, .i ex, .i lo, .i hi, .l rt]] => [[.i (Sp.chkP rl rc pr ex lo hi rt)], [.i (Sp.chkI rl rc pr ex lo hi rt)], [.i (Sp.chkE rl rc pr ex lo hi rt)]] | _ => []
abbrev pre_Check (ds : DS) : Prop := match ds with | [[.l rl, .l rc, _, _, _, _, _]] => Sp.NamesOk rl /\ Sp.NamesOk rc | _ => False
theorem okCheck : PureOk Try.prog 17 ats_Check [(false, [.int .i64]), (false, [.int .i64]), (false, [.int .i64])] pre_Check res_Check :=
  ok_Check fun W rl rc pr ex lo hi rt hp Q h => by
    obtain ⟨h1, h2⟩ := hp;unfold VC_Check;simp only [res_Check, Sp.chkP, Sp.chkI, Sp.chkE, Sp.check] at h;rw [show Int.toNat 0 = 0 from rfl, Nat.sub_zero, Nat.sub_zero, Nat.sub_zero];refine ⟨trivial, vif (fun e1 => ?_) fun e1 => ⟨trivial, vif (fun e2 => ?_) fun e2 => vif (fun e3 => ?_) fun e3 => ⟨trivial, vif (fun e4 => ?_) fun e4 => ⟨trivial, vif (fun e5 => ?_) fun e5 => ⟨trivial, vif (fun e6 => ?_) fun e6 => ⟨trivial, vif (fun e7 => ?_) fun e7 => vif (fun e8 => ?_) fun e8 => ⟨⟨by omega, by omega, h1⟩, vif (fun e9 => ?_) fun e9 => ⟨⟨by omega, by omega, h2⟩, vif (fun e10 => ?_) fun e10 => ⟨⟨by omega, by omega⟩, vif (fun e11 => ?_) fun e11 => ?_⟩⟩⟩⟩⟩⟩⟩⟩⟩ <;> clear h1 h2
    all_goals simp_all
noncomputable def pc_Check : PC Try.prog := ⟨17, ats_Check, [(false, [.int .i64]), (false, [.int .i64]), (false, [.int .i64])], pre_Check, res_Check, okCheck⟩
open Go.RowKit
set_option maxRecDepth 100000
namespace Sp
def part (rt : Dt) (before : Int) : Nat -> Int -> Int
  | 0, p => p
  | n + 1, p => part rt before n (if Sp.before rt n <= before then feeOf rt n else p)
def fee (rt : Dt) (price hours before : Int) : Int := (hours * price * part rt before rt.length 1000 + 999).tdiv 1000
def FeesOk (rt : Dt) : Prop := ∀ i : Nat, i < rt.length -> 0 <= feeOf rt i /\ feeOf rt i <= 1000
end Sp
noncomputable def T8 : Tab Try.prog := ⟨pc_Check :: T5.pcs, [], []⟩
def sp_fee [InW] (e : List Ed) (K : Nat -> List Ed -> Prop) : Prop := match e with
  | [.i b, .i p, .i i, .ro _ rl, .ro _ rc, .i pr, .i ex, .i lo, .i hi, .ro _ rt] => Pre (-1 <= i /\ i < rt.xs.length) (K 0 [.i (Sp.part rt.xs b (i + 1).toNat p), .ro _ rl, .ro _ rc, .i pr, .i ex, .i lo, .i hi, .ro _ rt])
  | _ => False
def lc_fee : LC where
  len := 39
  T := [(2, .int .i64), (3, (.ptr 1 0)), (7, .int .i64), (8, .int .i64)]
  H := [(1, .blk 28 [.rs [.str], .rs Ivs, .int .i64, .int .i64, .int .i64, .int .i64, .rs [.int .i64, .int .i64]])]
  W := [13, 14, 15, 16, 17, 18, 19, 20, 21, 22, 23, 24, 25, 26, 27, 28, 29, 30]
  outs := [⟨.exit 0, [(3, (.ptr 1 0)), (7, .int .i64)], [(1, .blk 28 [.rs [.str], .rs Ivs, .int .i64, .int .i64, .int .i64, .int .i64, .rs [.int .i64, .int .i64]])], [2, 8, 13, 14, 15, 16, 17, 18, 19, 20, 21, 22, 23, 24, 25, 26, 27, 28, 29, 30]⟩]
  spec := sp_fee
def VCL_fee [W : InW] (b p i : Int) (rl : Ro [.str]) (rc : Ro Ivs) (pr ex lo hi : Int) (rt : Ro [.int .i64, .int .i64]) (A : List Ed -> Prop) (K : Nat -> List Ed -> Prop) : Prop :=
  Vif (decide ((0 : Int) <= i)) (Need (decide ((0 : Int) <= i) && decide (i < ↑(rt.xs.length))) (Need (decide (i.toNat < rt.xs.length)) (Vif (decide ((cel rt.xs i.toNat (0 : Nat)).int <= b)) (Need (decide ((0 : Int) <= i) && decide (i < ↑(rt.xs.length))) (Need (decide (i.toNat < rt.xs.length)) (Ar .i64 (i - (1 : Int)) fun z => A [.i b, .i (cel rt.xs i.toNat (nat_lit 0 + (1 : Nat))).int, .i z, .ro _ rl, .ro _ rc, .i pr, .i ex, .i lo, .i hi, .ro _ rt]))) (Ar .i64 (i - (1 : Int)) fun z => A [.i b, .i p, .i z, .ro _ rl, .ro _ rc, .i pr, .i ex, .i lo, .i hi, .ro _ rt])))) (K (0 : Nat) [.i p, .ro _ rl, .ro _ rc, .i pr, .i ex, .i lo, .i hi, .ro _ rt])
theorem vcl_fee (W : InW) (b p i rl rc pr ex lo hi rt A K) : vcTop { cxT Try.prog TT T8 1000 50 with fn := 47 } 1000 (loopAt Try.prog 47 4) (tmOut 39 [(2, .si .i64 b), (3, .ptr 1 0), (7, .si .i64 p), (8, .si .i64 i)] [13, 14, 15, 16, 17, 18, 19, 20, 21, 22, 23, 24, 25, 26, 27, 28, 29, 30]) [(1, .blk 28 [.rs _ rl, .rs _ rc, .si .i64 pr, .si .i64 ex, .si .i64 lo, .si .i64 hi, .rs _ rt])] (roundL lc_fee A K) = VCL_fee b p i rl rc pr ex lo hi rt A K := by kernel_rfl
def okLt_fee : Prop := ∀ (W : InW) (body a : Code), (Try.prog.funcs[47]?).bind (·.body) = some body -> a ∈ loopsIn body -> keyOf a = 4 -> @LoopOk W Try.prog a (@loopRun W lc_fee)
theorem okl_fee (meas : [InW] -> List Ed -> Nat) (h : ∀ (W : InW) (b : Int) (p : Int) (i : Int) (rl : Ro [.str]) (rc : Ro Ivs) (pr : Int) (ex : Int) (lo : Int) (hi : Int) (rt : Ro [.int .i64, .int .i64]) (K : Nat -> List Ed -> Prop), sp_fee [.i b, .i p, .i i, .ro _ rl, .ro _ rc, .i pr, .i ex, .i lo, .i hi, .ro _ rt] K -> ∀ A : List Ed -> Prop, (∀ e, meas e < meas [.i b, .i p, .i i, .ro _ rl, .ro _ rc, .i pr, .i ex, .i lo, .i hi, .ro _ rt] -> sp_fee e K -> A e) -> VCL_fee b p i rl rc pr ex lo hi rt A K) : okLt_fee :=
  LE.okOf' (fun W => @TT W) (fun W => @TT_ok W) mixed_ok T8 1000 50 (by kernel_rfl) lc_fee (fun W => @meas W) fun W b p i rl rc pr ex lo hi rt K hs =>
    (vcl_fee W b p i rl rc pr ex lo hi rt (fun e => meas e < meas [.i b, .i p, .i i, .ro _ rl, .ro _ rc, .i pr, .i ex, .i lo, .i hi, .ro _ rt] /\ sp_fee e K) K).mpr (h W b p i rl rc pr ex lo hi rt K hs _ fun e h1 h2 => ⟨h1, h2⟩)
theorem okLfee : okLt_fee := okl_fee (fun e => match e with | _ :: _ :: .i i :: _ => (i + 1).toNat | _ => 0) fun W b p i rl rc pr ex lo hi rt K hs A hA => by
  obtain ⟨⟨h0, h1⟩, hk⟩ := hs;unfold VCL_fee;have hm := rt.len;simp only [maxLen] at hm;refine vifd (fun e => ned (by simp; omega) (nedd (by omega) (vifd (fun e2 => ned (by simp; omega) (nedd (by omega) (ar64 (by omega) (hA _ ?_ ?_)))) fun e2 => ar64 (by omega) (hA _ ?_ ?_)))) fun e => ?_
  · show (i - 1 + 1).toNat < (i + 1).toNat
    omega
  · refine ⟨by omega, ?_⟩;rw [show (i + 1).toNat = i.toNat + 1 by omega] at hk;unfold Sp.part at hk;rw [if_pos (show Sp.before rt.xs i.toNat <= b from e2)] at hk;rw [show (i - 1 + 1).toNat = i.toNat by omega];exact hk
  · show (i - 1 + 1).toNat < (i + 1).toNat
    omega
  · refine ⟨by omega, ?_⟩;rw [show (i + 1).toNat = i.toNat + 1 by omega] at hk;unfold Sp.part at hk;rw [if_neg (show ¬ Sp.before rt.xs i.toNat <= b from e2)] at hk;rw [show (i - 1 + 1).toNat = i.toNat by omega];exact hk
  · rw [show (i + 1).toNat = 0 by omega] at hk;exact hk
noncomputable def le_fee : LE Try.prog := ⟨47, 4, fun W => @loopRun W lc_fee, okLfee⟩
noncomputable def T9 : Tab Try.prog := ⟨T8.pcs, [le_fee], []⟩
def VC_fee [W : InW] (s_Learners : Ro [.str]) (s_Cars : Ro Ivs) (s_Price s_Excess s_Lo s_Hi : Int) (s_Terms : Ro [.int .i64, .int .i64]) (hours before : Int) (Q : DS -> Prop) : Prop :=
  Ar .i64 (↑(s_Terms.xs.length) - (1 : Int)) fun z => Pre ((-1 : Int) <= z /\ z < ↑(s_Terms.xs.length)) (Ar .i64 (hours * s_Price) fun z_1 => Ar .i64 (z_1 * Sp.part s_Terms.xs before (z + (1 : Int)).toNat (1000 : Int)) fun z => Ar .i64 (z + (999 : Int)) fun z => Ar .i64 (z.tdiv (1000 : Int)) fun z => Q [[Cl.i z]])
theorem vc_fee (W : InW) (s_Learners s_Cars s_Price s_Excess s_Lo s_Hi s_Terms hours before Q) : bodyK (cxT Try.prog TT T9 1000 50) 1000 47 [.agg [.rs _ s_Learners, .rs _ s_Cars, .si .i64 s_Price, .si .i64 s_Excess, .si .i64 s_Lo, .si .i64 s_Hi, .rs _ s_Terms], .si .i64 hours, .si .i64 before] [] 0 (leafK [(false, [.int .i64])] Q) (fun _ _ _ _ => Stuck 421) = VC_fee s_Learners s_Cars s_Price s_Excess s_Lo s_Hi s_Terms hours before Q := by kernel_rfl
abbrev ats_fee : List AT := [.agg [.sl [.str], .sl Ivs, .int .i64, .int .i64, .int .i64, .int .i64, .sl [.int .i64, .int .i64]], .one (.int .i64), .one (.int .i64)]
theorem ok_fee {pre : DS -> Prop} {res : DS -> DS} (h : ∀ (W : InW) (s_Learners : Ro [.str]) (s_Cars : Ro Ivs) (s_Price : Int) (s_Excess : Int) (s_Lo : Int) (s_Hi : Int) (s_Terms : Ro [.int .i64, .int .i64]) (hours : Int) (before : Int), pre [[.l s_Learners.xs, .l s_Cars.xs, .i s_Price, .i s_Excess, .i s_Lo, .i s_Hi, .l s_Terms.xs], [.i hours], [.i before]] -> ∀ Q : DS -> Prop, Q (res [[.l s_Learners.xs, .l s_Cars.xs, .i s_Price, .i s_Excess, .i s_Lo, .i s_Hi, .l s_Terms.xs], [.i hours], [.i before]]) -> VC_fee s_Learners s_Cars s_Price s_Excess s_Lo s_Hi s_Terms hours before Q) : PureOk Try.prog 47 ats_fee [(false, [.int .i64])] pre res :=
  PureOk.of' (fun W => @TT W) (fun W => @TT_ok W) mixed_ok T9 1000 50 fun W s_Learners s_Cars s_Price s_Excess s_Lo s_Hi s_Terms hours before hp =>
    (vc_fee W s_Learners s_Cars s_Price s_Excess s_Lo s_Hi s_Terms hours before (fun o => o = res [[.l s_Learners.xs, .l s_Cars.xs, .i s_Price, .i s_Excess, .i s_Lo, .i s_Hi, .l s_Terms.xs], [.i hours], [.i before]])).mpr (h W s_Learners s_Cars s_Price s_Excess s_Lo s_Hi s_Terms hours before hp _ rfl)
abbrev res_fee (ds : DS) : DS := match ds with | [[_, _, .i pr, _, _, _, .l rt], [.i hours], [.i before]] => [[.i (Sp.fee rt pr hours before)]] | _ => []
abbrev pre_fee (ds : DS) : Prop := match ds with | [[_, _, .i pr, _, _, _, .l rt], [.i hours], [.i before]] => 0 <= hours /\ hours <= 100000 /\ 0 <= pr /\ pr <= 10000 /\ Sp.FeesOk rt | _ => False
theorem part_in {rt : Dt} {b : Int} : ∀ (n : Nat) (p : Int), n <= rt.length -> Sp.FeesOk rt -> 0 <= p -> p <= 1000 -> 0 <= Sp.part rt b n p /\ Sp.part rt b n p <= 1000
  | 0, p, _, _, h1, h2 => ⟨h1, h2⟩
  | n + 1, p, hn, hf, h1, h2 => by
    unfold Sp.part;have := hf n (by omega)
    split <;> exact part_in n _ (by omega) hf (by omega) (by omega)
theorem okfee : PureOk Try.prog 47 ats_fee [(false, [.int .i64])] pre_fee res_fee :=
  ok_fee fun W rl rc pr ex lo hi rt hours before hp Q h => by
    obtain ⟨h1, h2, h3, h4, h5⟩ := hp;unfold VC_fee;have hm := rt.len;simp only [maxLen] at hm;have hq := part_in (b := before) rt.xs.length 1000 (Nat.le_refl _) h5 (by omega) (by omega);refine ar64 (by omega) ⟨⟨by omega, by omega⟩, ?_⟩;rw [show ((rt.xs.length : Int) - 1 + 1).toNat = rt.xs.length by omega];have m1 : 0 <= hours * pr /\ hours * pr <= 100000 * 10000 := ⟨Int.mul_nonneg h1 h3, Int.mul_le_mul h2 h4 h3 (by omega)⟩;have m2 : 0 <= hours * pr * Sp.part rt.xs before rt.xs.length 1000 /\ hours * pr * Sp.part rt.xs before rt.xs.length 1000 <= 100000 * 10000 * 1000 := ⟨Int.mul_nonneg m1.1 hq.1, Int.mul_le_mul m1.2 hq.2 hq.1 (by omega)⟩;have m3 : 0 <= (hours * pr * Sp.part rt.xs before rt.xs.length 1000 + 999).tdiv 1000 /\ (hours * pr * Sp.part rt.xs before rt.xs.length 1000 + 999).tdiv 1000 <= 100000 * 10000 * 1000 := by
      rw [Int.tdiv_eq_ediv_of_nonneg (by omega)]; omega
    exact ar64 (by omega) (ar64 (by omega) (ar64 (by omega) (ar64 (by omega) h)))
noncomputable def pc_fee : PC Try.prog := ⟨47, ats_fee, [(false, [.int .i64])], pre_fee, res_fee, okfee⟩
namespace Sp
structure SchOk (rl rc : Dt) (pr ex lo hi : Int) (rt : Dt) : Prop where
  learners : 1 <= rl.length /\ rl.length <= 8
  cars : 1 <= rc.length /\ rc.length <= 5
  terms : rt.length <= 4
  price : 1 <= pr /\ pr <= 10000
  excess : 0 <= ex /\ ex <= 10000000
  open_ : 0 <= lo /\ lo < hi /\ hi <= 24
  car : ∀ i : Nat, i < rc.length -> carErr rc i = 0
  term : ∀ i : Nat, i < rt.length -> termErr rt i = 0
end Sp
theorem hasE_ne {f : Nat -> Int} : ∀ {n i : Nat}, Sp.hasE f i n = true -> f (Sp.idxE f i n) ≠ 0
  | 0, _, h => by simp [Sp.hasE] at h
  | n + 1, i, h => by
    unfold Sp.hasE at h;unfold Sp.idxE
    split
    · rename_i e;exact hasE_ne (by simpa [e] using h)
    · assumption
theorem hasE_no {f : Nat -> Int} : ∀ {n i : Nat}, Sp.hasE f i n = false -> ∀ k, i <= k -> k < i + n -> f k = 0
  | 0, i, _, k, h1, h2 => by omega
  | n + 1, i, h, k, h1, h2 => by
    unfold Sp.hasE at h;simp only [Bool.or_eq_false_iff, Bool.not_eq_false', decide_eq_true_eq] at h;rcases Nat.lt_or_ge i k with h3 | h3
    · exact hasE_no h.2 k h3 (by omega)
    · rw [show k = i by omega]; exact h.1
theorem chk_ok {rl rc : Dt} {pr ex lo hi : Int} {rt : Dt} (h : Sp.chkE rl rc pr ex lo hi rt = 0) : Sp.SchOk rl rc pr ex lo hi rt := by
  unfold Sp.chkE Sp.check at h
  split at h
  · cases h
  rename_i e1
  split at h
  · cases h
  rename_i e2
  split at h
  · cases h
  rename_i e3
  split at h
  · rename_i e; exact absurd h (hasE_ne e)
  split at h
  · rename_i e; exact absurd h (hasE_ne e)
  rename_i e5
  split at h
  · rename_i e; exact absurd h (hasE_ne e)
  rename_i e6;simp only [Sp.inr, Bool.or_eq_true, Bool.not_eq_true', Bool.and_eq_false_iff, decide_eq_false_iff_not, decide_eq_true_eq, not_or] at e1 e2 e3;rw [Bool.not_eq_true] at e5 e6;exact ⟨by omega, by omega, by omega, by omega, by omega, by omega, fun i hi => hasE_no e5 i (by omega) (by omega), fun i hi => hasE_no e6 i (by omega) (by omega)⟩
theorem Sp.SchOk.fees {rl rc : Dt} {pr ex lo hi : Int} {rt : Dt} (h : Sp.SchOk rl rc pr ex lo hi rt) : Sp.FeesOk rt := fun i hi => by
  have := h.term i hi;unfold Sp.termErr at this
  split at this
  · rename_i e;simp only [Sp.inr, Bool.and_eq_true, decide_eq_true_eq] at e;omega
  · cases this
open Go.RowKit
set_option maxRecDepth 100000
namespace Sp
def outs (lo hi : Int) (xs : Dt) : Nat -> Nat -> Bool
  | _, 0 => false
  | i, n + 1 => !inr (cel xs i 0).int lo hi || outs lo hi xs (i + 1) n
def out (lo hi : Int) (xs : Dt) : Bool := outs lo hi xs 0 xs.length
def outI (lo hi : Int) (xs : Dt) : Nat -> Nat -> Nat
  | i, 0 => i
  | i, n + 1 => if inr (cel xs i 0).int lo hi = true then outI lo hi xs (i + 1) n else i
end Sp
noncomputable def T11 : Tab Try.prog := ⟨[pc_cName], [], []⟩
def sp_out [InW] (e : List Ed) (K : Nat -> List Ed -> Prop) : Prop := match e with
  | [.ro _ xs, .i n, .i i, .i lo, .i hi] => Pre (n = xs.xs.length /\ 0 <= i /\ i <= n) (Vif (Sp.outs lo hi xs.xs i.toNat (xs.xs.length - i.toNat)) (K 1 [.i (Sp.outI lo hi xs.xs i.toNat (xs.xs.length - i.toNat)), .i lo, .i hi]) (K 0 [.i lo, .i hi]))
  | _ => False
def lc_out : LC where
  len := 19
  T := [(0, .rs [.int .i64]), (1, (.fn (.func 58) [] [(.ptr 1 0), (.ptr 4 0)])), (7, .int .i64), (8, .int .i64)]
  H := [(1, .blk 3 [.int .i64]), (4, .blk 3 [.int .i64])]
  W := [4, 5, 9, 10, 11, 12, 13, 14, 15, 16, 17, 18]
  outs := [⟨.exit 0, [(1, (.fn (.func 58) [] [(.ptr 1 0), (.ptr 4 0)]))], [(1, .blk 3 [.int .i64]), (4, .blk 3 [.int .i64])], [0, 4, 5, 7, 8, 9, 10, 11, 12, 13, 14, 15, 16, 17, 18]⟩, ⟨.ret, [(1, (.fn (.func 58) [] [(.ptr 1 0), (.ptr 4 0)])), (4, .int .i64)], [(1, .blk 3 [.int .i64]), (4, .blk 3 [.int .i64])], [0, 5, 7, 8, 9, 10, 11, 12, 13, 14, 15, 16, 17, 18]⟩]
  spec := sp_out
def VCL_out [W : InW] (xs : Ro [.int .i64]) (n i lo hi : Int) (A : List Ed -> Prop) (K : Nat -> List Ed -> Prop) : Prop :=
  Vif (decide (i < n)) (Need (decide ((0 : Int) <= i) && decide (i < (↑(xs.xs.length) : Int))) (Need (decide (i.toNat < xs.xs.length)) (Vif (decide ((cel xs.xs i.toNat (0 : Nat)).int < lo)) (K (0+1 : Nat) [.i i, .i lo, .i hi]) (Vif (decide (hi < (cel xs.xs i.toNat (0 : Nat)).int)) (K (0+1 : Nat) [.i i, .i lo, .i hi]) (Ar .i64 (i + (1 : Int)) fun z => A [.ro _ xs, .i n, .i z, .i lo, .i hi]))))) (K (0 : Nat) [.i lo, .i hi])
theorem vcl_out (W : InW) (xs n i lo hi A K) : vcTop { cxT Try.prog TT T11 1000 50 with fn := 77 } 1000 (loopAt Try.prog 77 3) (tmOut 19 [(0, .rs _ xs), (1, .fn (.func 58) [] [.ptr 1 0, .ptr 4 0]), (7, .si .i64 n), (8, .si .i64 i)] [4, 5, 9, 10, 11, 12, 13, 14, 15, 16, 17, 18]) [(1, .blk 3 [.si .i64 lo]), (4, .blk 3 [.si .i64 hi])] (roundL lc_out A K) = VCL_out xs n i lo hi A K := by kernel_rfl
def okLt_out : Prop := ∀ (W : InW) (body a : Code), (Try.prog.funcs[77]?).bind (·.body) = some body -> a ∈ loopsIn body -> keyOf a = 3 -> @LoopOk W Try.prog a (@loopRun W lc_out)
theorem okl_out (meas : [InW] -> List Ed -> Nat) (h : ∀ (W : InW) (xs : Ro [.int .i64]) (n : Int) (i : Int) (lo : Int) (hi : Int) (K : Nat -> List Ed -> Prop), sp_out [.ro _ xs, .i n, .i i, .i lo, .i hi] K -> ∀ A : List Ed -> Prop, (∀ e, meas e < meas [.ro _ xs, .i n, .i i, .i lo, .i hi] -> sp_out e K -> A e) -> VCL_out xs n i lo hi A K) : okLt_out :=
  LE.okOf' (fun W => @TT W) (fun W => @TT_ok W) mixed_ok T11 1000 50 (by kernel_rfl) lc_out (fun W => @meas W) fun W xs n i lo hi K hs =>
    (vcl_out W xs n i lo hi (fun e => meas e < meas [.ro _ xs, .i n, .i i, .i lo, .i hi] /\ sp_out e K) K).mpr (h W xs n i lo hi K hs _ fun e h1 h2 => ⟨h1, h2⟩)
theorem okLout : okLt_out := okl_out (fun e => match e with | .ro _ xs :: .i n :: .i i :: _ => (n - i).toNat | _ => 0) fun W xs n i lo hi K hs A hA => by
  obtain ⟨⟨rfl, h0, h1⟩, hk⟩ := hs;unfold VCL_out;have hm := xs.len;simp only [maxLen] at hm;refine vifd (fun e => ?_) fun e => ?_
  · rw [show xs.xs.length - i.toNat = (xs.xs.length - (i.toNat + 1)) + 1 by omega] at hk;have hc : (cel xs.xs i.toNat 0).int < lo \/ hi < (cel xs.xs i.toNat 0).int -> K 1 [.i i, .i lo, .i hi] := fun h => by
      have hf : Sp.inr (cel xs.xs i.toNat 0).int lo hi = false := by simp only [Sp.inr, Bool.and_eq_false_iff, decide_eq_false_iff_not]; omega
      have := hk.1 (by simp [Sp.outs, hf]);unfold Sp.outI at this;rw [if_neg (by simp [hf]), Int.toNat_of_nonneg h0] at this;exact this
    refine ned (by simp; omega) (nedd (by omega) (vifd (fun e2 => hc (.inl e2)) fun e2 => vifd (fun e3 => hc (.inr e3)) fun e3 => ar64 (by omega) (hA _ ?_ ?_)))
    · show ((xs.xs.length : Int) - (i + 1)).toNat < ((xs.xs.length : Int) - i).toNat
      omega
    · have hf : Sp.inr (cel xs.xs i.toNat 0).int lo hi = true := by simp only [Sp.inr, Bool.and_eq_true, decide_eq_true_eq]; omega
      refine ⟨⟨rfl, by omega, by omega⟩, ?_⟩;rw [show (i + 1).toNat = i.toNat + 1 by omega];simp only [Sp.outs, hf, Bool.not_true, Bool.false_or, Sp.outI, if_true] at hk;exact hk
  · rw [show xs.xs.length - i.toNat = 0 by omega] at hk;exact hk.2 rfl
noncomputable def le_out : LE Try.prog := ⟨77, 3, fun W => @loopRun W lc_out, okLout⟩
noncomputable def T12 : Tab Try.prog := ⟨T11.pcs, [le_out], []⟩
def VC_out [W : InW] (lo hi : Int) (xs : Ro [.int .i64]) (Q : DS -> Prop) : Prop :=
  Pre ((↑(xs.xs.length) : Int) = (↑(xs.xs.length) : Int) /\ (0 : Int) <= (0 : Int) /\ (0 : Int) <= (↑(xs.xs.length) : Int)) (Vif (Sp.outs lo hi xs.xs (Int.toNat (0 : Int)) (xs.xs.length - Int.toNat (0 : Int))) (Q [[Cl.b (decide ((0 : Int) <= (↑(Sp.outI lo hi xs.xs (Int.toNat (0 : Int)) (xs.xs.length - Int.toNat (0 : Int))) : Int)))]]) (Q [[Cl.b false]]))
theorem vc_out (W : InW) (lo hi xs Q) : bodyK (cxT Try.prog TT T12 1000 50) 1000 38 [.si .i64 lo, .si .i64 hi, .rs _ xs] [] 0 (leafK [(false, [.bool])] Q) (fun _ _ _ _ => Stuck 421) = VC_out lo hi xs Q := by kernel_rfl
abbrev ats_out : List AT := [.one (.int .i64), .one (.int .i64), .one (.sl [.int .i64])]
theorem ok_out {pre : DS -> Prop} {res : DS -> DS} (h : ∀ (W : InW) (lo : Int) (hi : Int) (xs : Ro [.int .i64]), pre [[.i lo], [.i hi], [.l xs.xs]] -> ∀ Q : DS -> Prop, Q (res [[.i lo], [.i hi], [.l xs.xs]]) -> VC_out lo hi xs Q) : PureOk Try.prog 38 ats_out [(false, [.bool])] pre res :=
  PureOk.of' (fun W => @TT W) (fun W => @TT_ok W) mixed_ok T12 1000 50 fun W lo hi xs hp =>
    (vc_out W lo hi xs (fun o => o = res [[.i lo], [.i hi], [.l xs.xs]])).mpr (h W lo hi xs hp _ rfl)
abbrev res_out (ds : DS) : DS := match ds with | [[.i lo], [.i hi], [.l xs]] => [[.b (Sp.out lo hi xs)]] | _ => []
theorem okout : PureOk Try.prog 38 ats_out [(false, [.bool])] (fun _ => True) res_out :=
  ok_out fun W lo hi xs _ Q h => by
    unfold VC_out;simp only [res_out, Sp.out] at h;rw [show Int.toNat 0 = 0 from rfl, Nat.sub_zero];refine ⟨⟨rfl, by omega, by omega⟩, vif (fun e => ?_) fun e => ?_⟩
    · rw [e] at h;rw [decide_eq_true (by omega)];exact h
    · rw [e] at h;exact h
theorem out1 (lo hi n : Int) : Sp.out lo hi [[Cl.i n]] = !Sp.inr n lo hi := by simp [Sp.out, Sp.outs, cel, Cl.int]
theorem out2 (lo hi n m : Int) : Sp.out lo hi [[Cl.i n], [Cl.i m]] = (!Sp.inr n lo hi || !Sp.inr m lo hi) := by simp [Sp.out, Sp.outs, cel, Cl.int]
noncomputable def pc_out : PC Try.prog := ⟨38, ats_out, [(false, [.bool])], fun _ => True, res_out, okout⟩
open Go.RowKit
set_option maxRecDepth 100000
namespace Sp
def dupI (xs : Dt) (name : ByteArray) : Nat -> Nat -> Nat
  | k, 0 => k
  | k, n + 1 => if eqS (nm xs k) name = true then k else dupI xs name (k + 1) n
end Sp
noncomputable def T13 : Tab Try.prog := ⟨[pc_cName, pc_out], [], []⟩
def sp_nmS [InW] (e : List Ed) (K : Nat -> List Ed -> Prop) : Prop := match e with
  | [.ro _ xs, .i n, .i i, .s last] => Pre (n = (xs.xs.length : Int) /\ 0 <= i /\ i <= n) (Vif (Sp.dup xs.xs last i.toNat (xs.xs.length - i.toNat)) (K 1 [.i (Sp.dupI xs.xs last i.toNat (xs.xs.length - i.toNat)), .s last]) (K 0 [.s last]))
  | _ => False
def lc_nmS : LC where
  len := 19
  T := [(0, .rs [.str]), (1, (.fn (.func 61) [] [(.ptr 1 0), (.ptr 4 0)])), (7, .int .i64), (8, .int .i64)]
  H := [(1, .blk 81 [(.fn (.func 40) [] [])]), (4, .blk 9 [.str])]
  W := [4, 5, 9, 10, 11, 12, 13, 14, 15, 16, 17, 18]
  outs := [⟨.exit 0, [(1, (.fn (.func 61) [] [(.ptr 1 0), (.ptr 4 0)]))], [(1, .blk 81 [(.fn (.func 40) [] [])]), (4, .blk 9 [.str])], [0, 4, 5, 7, 8, 9, 10, 11, 12, 13, 14, 15, 16, 17, 18]⟩, ⟨.ret, [(1, (.fn (.func 61) [] [(.ptr 1 0), (.ptr 4 0)])), (4, .int .i64)], [(1, .blk 81 [(.fn (.func 40) [] [])]), (4, .blk 9 [.str])], [0, 5, 7, 8, 9, 10, 11, 12, 13, 14, 15, 16, 17, 18]⟩]
  spec := sp_nmS
def VCL_nmS [W : InW] (xs : Ro [.str]) (n i : Int) (last : ByteArray) (A : List Ed -> Prop) (K : Nat -> List Ed -> Prop) : Prop :=
  Vif (decide (i < n)) (Need (decide ((0 : Int) <= i) && decide (i < (↑(xs.xs.length) : Int))) (Need (decide (i.toNat < xs.xs.length)) (Vif (eqS (cel xs.xs i.toNat (0 : Nat)).str last) (K (0+1 : Nat) [.i i, .s last]) (Ar .i64 (i + (1 : Int)) fun z => A [.ro _ xs, .i n, .i z, .s last])))) (K (0 : Nat) [.s last])
theorem vcl_nmS (W : InW) (xs n i last A K) : vcTop { cxT Try.prog TT T13 1000 50 with fn := 79 } 1000 (loopAt Try.prog 79 3) (tmOut 19 [(0, .rs _ xs), (1, .fn (.func 61) [] [.ptr 1 0, .ptr 4 0]), (7, .si .i64 n), (8, .si .i64 i)] [4, 5, 9, 10, 11, 12, 13, 14, 15, 16, 17, 18]) [(1, .blk 81 [.fn (.func 40) [] []]), (4, .blk 9 [.ss last])] (roundL lc_nmS A K) = VCL_nmS xs n i last A K := by kernel_rfl
def okLt_nmS : Prop := ∀ (W : InW) (body a : Code), (Try.prog.funcs[79]?).bind (·.body) = some body -> a ∈ loopsIn body -> keyOf a = 3 -> @LoopOk W Try.prog a (@loopRun W lc_nmS)
theorem okl_nmS (meas : [InW] -> List Ed -> Nat) (h : ∀ (W : InW) (xs : Ro [.str]) (n : Int) (i : Int) (last : ByteArray) (K : Nat -> List Ed -> Prop), sp_nmS [.ro _ xs, .i n, .i i, .s last] K -> ∀ A : List Ed -> Prop, (∀ e, meas e < meas [.ro _ xs, .i n, .i i, .s last] -> sp_nmS e K -> A e) -> VCL_nmS xs n i last A K) : okLt_nmS :=
  LE.okOf' (fun W => @TT W) (fun W => @TT_ok W) mixed_ok T13 1000 50 (by kernel_rfl) lc_nmS (fun W => @meas W) fun W xs n i last K hs =>
    (vcl_nmS W xs n i last (fun e => meas e < meas [.ro _ xs, .i n, .i i, .s last] /\ sp_nmS e K) K).mpr (h W xs n i last K hs _ fun e h1 h2 => ⟨h1, h2⟩)
def sp_nmC [InW] (e : List Ed) (K : Nat -> List Ed -> Prop) : Prop := match e with
  | [.ro _ xs, .i n, .i i, .s last] => Pre (n = (xs.xs.length : Int) /\ 0 <= i /\ i <= n) (Vif (Sp.dup xs.xs last i.toNat (xs.xs.length - i.toNat)) (K 1 [.i (Sp.dupI xs.xs last i.toNat (xs.xs.length - i.toNat)), .s last]) (K 0 [.s last]))
  | _ => False
def lc_nmC : LC where
  len := 19
  T := [(0, .rs Ivs), (1, (.fn (.func 63) [] [(.ptr 1 0), (.ptr 4 0)])), (7, .int .i64), (8, .int .i64)]
  H := [(1, .blk 83 [(.fn (.func 42) [] [])]), (4, .blk 9 [.str])]
  W := [4, 5, 9, 10, 11, 12, 13, 14, 15, 16, 17, 18]
  outs := [⟨.exit 0, [(1, (.fn (.func 63) [] [(.ptr 1 0), (.ptr 4 0)]))], [(1, .blk 83 [(.fn (.func 42) [] [])]), (4, .blk 9 [.str])], [0, 4, 5, 7, 8, 9, 10, 11, 12, 13, 14, 15, 16, 17, 18]⟩, ⟨.ret, [(1, (.fn (.func 63) [] [(.ptr 1 0), (.ptr 4 0)])), (4, .int .i64)], [(1, .blk 83 [(.fn (.func 42) [] [])]), (4, .blk 9 [.str])], [0, 5, 7, 8, 9, 10, 11, 12, 13, 14, 15, 16, 17, 18]⟩]
  spec := sp_nmC
def VCL_nmC [W : InW] (xs : Ro Ivs) (n i : Int) (last : ByteArray) (A : List Ed -> Prop) (K : Nat -> List Ed -> Prop) : Prop :=
  Vif (decide (i < n)) (Need (decide ((0 : Int) <= i) && decide (i < (↑(xs.xs.length) : Int))) (Need (decide (i.toNat < xs.xs.length)) (Vif (eqS (cel xs.xs i.toNat (0 : Nat)).str last) (K (0+1 : Nat) [.i i, .s last]) (Ar .i64 (i + (1 : Int)) fun z => A [.ro _ xs, .i n, .i z, .s last])))) (K (0 : Nat) [.s last])
theorem vcl_nmC (W : InW) (xs n i last A K) : vcTop { cxT Try.prog TT T13 1000 50 with fn := 80 } 1000 (loopAt Try.prog 80 3) (tmOut 19 [(0, .rs _ xs), (1, .fn (.func 63) [] [.ptr 1 0, .ptr 4 0]), (7, .si .i64 n), (8, .si .i64 i)] [4, 5, 9, 10, 11, 12, 13, 14, 15, 16, 17, 18]) [(1, .blk 83 [.fn (.func 42) [] []]), (4, .blk 9 [.ss last])] (roundL lc_nmC A K) = VCL_nmC xs n i last A K := by kernel_rfl
def okLt_nmC : Prop := ∀ (W : InW) (body a : Code), (Try.prog.funcs[80]?).bind (·.body) = some body -> a ∈ loopsIn body -> keyOf a = 3 -> @LoopOk W Try.prog a (@loopRun W lc_nmC)
theorem okl_nmC (meas : [InW] -> List Ed -> Nat) (h : ∀ (W : InW) (xs : Ro Ivs) (n : Int) (i : Int) (last : ByteArray) (K : Nat -> List Ed -> Prop), sp_nmC [.ro _ xs, .i n, .i i, .s last] K -> ∀ A : List Ed -> Prop, (∀ e, meas e < meas [.ro _ xs, .i n, .i i, .s last] -> sp_nmC e K -> A e) -> VCL_nmC xs n i last A K) : okLt_nmC :=
  LE.okOf' (fun W => @TT W) (fun W => @TT_ok W) mixed_ok T13 1000 50 (by kernel_rfl) lc_nmC (fun W => @meas W) fun W xs n i last K hs =>
    (vcl_nmC W xs n i last (fun e => meas e < meas [.ro _ xs, .i n, .i i, .s last] /\ sp_nmC e K) K).mpr (h W xs n i last K hs _ fun e h1 h2 => ⟨h1, h2⟩)
theorem okLnmS : okLt_nmS := okl_nmS (fun e => match e with | .ro _ xs :: .i n :: .i i :: _ => (n - i).toNat | _ => 0) fun W xs n i last K hs A hA => by
  obtain ⟨⟨rfl, h0, h1⟩, hk⟩ := hs;unfold VCL_nmS;have hm := xs.len;simp only [maxLen] at hm;refine vifd (fun e => ned (by simp; omega) (nedd (by omega) (vif (fun e2 => ?_) fun e2 => ar64 (by omega) (hA _ ?_ ?_)))) fun e => ?_
  · rw [show xs.xs.length - i.toNat = (xs.xs.length - (i.toNat + 1)) + 1 by omega] at hk;have := hk.1 (by simp only [Sp.dup, Sp.nm, e2, Bool.true_or]);unfold Sp.dupI at this;rw [if_pos (by exact e2), Int.toNat_of_nonneg h0] at this;exact this
  · show ((xs.xs.length : Int) - (i + 1)).toNat < ((xs.xs.length : Int) - i).toNat
    omega
  · refine ⟨⟨rfl, by omega, by omega⟩, ?_⟩;rw [show xs.xs.length - i.toNat = (xs.xs.length - (i.toNat + 1)) + 1 by omega] at hk;simp only [Sp.dup, Sp.nm, e2, Bool.false_or] at hk;unfold Sp.dupI at hk;rw [if_neg (by show ¬ eqS (cel xs.xs i.toNat 0).str last = true; rw [e2]; simp)] at hk;rw [show (i + 1).toNat = i.toNat + 1 by omega];exact hk
  · rw [show xs.xs.length - i.toNat = 0 by omega] at hk;exact hk.2 rfl
theorem okLnmC : okLt_nmC := okl_nmC (fun e => match e with | .ro _ xs :: .i n :: .i i :: _ => (n - i).toNat | _ => 0) fun W xs n i last K hs A hA => by
  obtain ⟨⟨rfl, h0, h1⟩, hk⟩ := hs;unfold VCL_nmC;have hm := xs.len;simp only [maxLen] at hm;refine vifd (fun e => ned (by simp; omega) (nedd (by omega) (vif (fun e2 => ?_) fun e2 => ar64 (by omega) (hA _ ?_ ?_)))) fun e => ?_
  · rw [show xs.xs.length - i.toNat = (xs.xs.length - (i.toNat + 1)) + 1 by omega] at hk;have := hk.1 (by simp only [Sp.dup, Sp.nm, e2, Bool.true_or]);unfold Sp.dupI at this;rw [if_pos (by exact e2), Int.toNat_of_nonneg h0] at this;exact this
  · show ((xs.xs.length : Int) - (i + 1)).toNat < ((xs.xs.length : Int) - i).toNat
    omega
  · refine ⟨⟨rfl, by omega, by omega⟩, ?_⟩;rw [show xs.xs.length - i.toNat = (xs.xs.length - (i.toNat + 1)) + 1 by omega] at hk;simp only [Sp.dup, Sp.nm, e2, Bool.false_or] at hk;unfold Sp.dupI at hk;rw [if_neg (by show ¬ eqS (cel xs.xs i.toNat 0).str last = true; rw [e2]; simp)] at hk;rw [show (i + 1).toNat = i.toNat + 1 by omega];exact hk
  · rw [show xs.xs.length - i.toNat = 0 by omega] at hk;exact hk.2 rfl
noncomputable def le_nmS : LE Try.prog := ⟨79, 3, fun W => @loopRun W lc_nmS, okLnmS⟩
noncomputable def le_nmC : LE Try.prog := ⟨80, 3, fun W => @loopRun W lc_nmC, okLnmC⟩
noncomputable def T14 : Tab Try.prog := ⟨T13.pcs, [le_nmS, le_nmC], []⟩
def sp_bkN [InW] (e : List Ed) (K : Nat -> List Ed -> Prop) : Prop := match e with
  | [.i n, .i i, .ro _ rl, .ro _ rc, .i pr, .i ex, .i lo, .i hi, .ro _ rt] => Pre (n = (rl.xs.length : Int) /\ 0 <= i /\ i <= n) (Vif (Sp.hasE (Sp.nameErr rl.xs) i.toNat (rl.xs.length - i.toNat))
      (K 1 [.i (Sp.idxE (Sp.nameErr rl.xs) i.toNat (rl.xs.length - i.toNat)), .i (Sp.nameErr rl.xs (Sp.idxE (Sp.nameErr rl.xs) i.toNat (rl.xs.length - i.toNat)))]) (K 0 [.ro _ rl, .ro _ rc, .i pr, .i ex, .i lo, .i hi, .ro _ rt]))
  | _ => False
def lc_bkN : LC where
  len := 160
  T := [(1, (.ptr 1 0)), (60, .int .i64), (61, .int .i64)]
  H := [(1, .blk 28 [.rs [.str], .rs Ivs, .int .i64, .int .i64, .int .i64, .int .i64, .rs [.int .i64, .int .i64]])]
  W := [2, 3, 4, 5, 62, 63, 64, 65, 66, 67, 68, 69, 70, 71, 72, 73, 74]
  outs := [⟨.exit 1, [(1, (.ptr 1 0))], [(1, .blk 28 [.rs [.str], .rs Ivs, .int .i64, .int .i64, .int .i64, .int .i64, .rs [.int .i64, .int .i64]])], [2, 3, 4, 5, 60, 61, 62, 63, 64, 65, 66, 67, 68, 69, 70, 71, 72, 73, 74]⟩, ⟨.ret, [(2, (.lit (.int .i64 2))), (3, .int .i64), (4, .int .i64)], [], [1, 5, 60, 61, 62, 63, 64, 65, 66, 67, 68, 69, 70, 71, 72, 73, 74]⟩]
  spec := sp_bkN
def VCL_bkN [W : InW] (n i : Int) (rl : Ro [.str]) (rc : Ro Ivs) (pr ex lo hi : Int) (rt : Ro [.int .i64, .int .i64]) (A : List Ed -> Prop) (K : Nat -> List Ed -> Prop) : Prop :=
  Vif (decide (i < n)) (Ar .i64 (i + (1 : Int)) fun z => Need (decide ((0 : Int) <= z)) (Need (decide ((0 : Nat) <= z.toNat) && decide (z.toNat <= rl.xs.length)) (Ar .i64 ((↑(List.drop (0 : Nat) (List.take z.toNat rl.xs)).length : Int) - (1 : Int)) fun z_1 => Need (decide ((0 : Int) <= z_1) && decide (z_1 < (↑(List.drop (0 : Nat) (List.take z.toNat rl.xs)).length : Int))) (Need (decide (z_1.toNat < (List.drop (0 : Nat) (List.take z.toNat rl.xs)).length)) (Pre True (Vif (!Bk.nameOk (cel (List.drop (0 : Nat) (List.take z.toNat rl.xs)) z_1.toNat (0 : Nat)).str) (K (0+1 : Nat) [.i i, .i (6 : Int)]) (Ar .i64 ((↑(List.drop (0 : Nat) (List.take z.toNat rl.xs)).length : Int) - (1 : Int)) fun z_2 => Need (decide ((0 : Int) <= z_2)) (Need (decide ((0 : Nat) <= z_2.toNat) && decide (z_2.toNat <= (List.drop (0 : Nat) (List.take z.toNat rl.xs)).length)) (Pre ((↑(List.drop (0 : Nat) (List.take z_2.toNat (List.drop (0 : Nat) (List.take z.toNat rl.xs)))).length : Int) = (↑(List.drop (0 : Nat) (List.take z_2.toNat (List.drop (0 : Nat) (List.take z.toNat rl.xs)))).length : Int) /\ (0 : Int) <= (0 : Int) /\ (0 : Int) <= (↑(List.drop (0 : Nat) (List.take z_2.toNat (List.drop (0 : Nat) (List.take z.toNat rl.xs)))).length : Int)) (Vif (Sp.dup (List.drop (0 : Nat) (List.take z_2.toNat (List.drop (0 : Nat) (List.take z.toNat rl.xs)))) (cel (List.drop (0 : Nat) (List.take z.toNat rl.xs)) z_1.toNat (0 : Nat)).str (Int.toNat (0 : Int)) ((List.drop (0 : Nat) (List.take z_2.toNat (List.drop (0 : Nat) (List.take z.toNat rl.xs)))).length - Int.toNat (0 : Int))) (Vif (decide ((0 : Int) <= (↑(Sp.dupI (List.drop (0 : Nat) (List.take z_2.toNat (List.drop (0 : Nat) (List.take z.toNat rl.xs)))) (cel (List.drop (0 : Nat) (List.take z.toNat rl.xs)) z_1.toNat (0 : Nat)).str (Int.toNat (0 : Int)) ((List.drop (0 : Nat) (List.take z_2.toNat (List.drop (0 : Nat) (List.take z.toNat rl.xs)))).length - Int.toNat (0 : Int))) : Int))) (K (0+1 : Nat) [.i i, .i (5 : Int)]) (Ar .i64 (i + (1 : Int)) fun z => A [.i n, .i z, .ro _ rl, .ro _ rc, .i pr, .i ex, .i lo, .i hi, .ro _ rt])) (Ar .i64 (i + (1 : Int)) fun z => A [.i n, .i z, .ro _ rl, .ro _ rc, .i pr, .i ex, .i lo, .i hi, .ro _ rt]))))))))))) (K (0 : Nat) [.ro _ rl, .ro _ rc, .i pr, .i ex, .i lo, .i hi, .ro _ rt])
theorem vcl_bkN (W : InW) (n i rl rc pr ex lo hi rt A K) : vcTop { cxT Try.prog TT T14 1000 50 with fn := 16 } 1000 (loopAt Try.prog 16 9) (tmOut 160 [(1, .ptr 1 0), (60, .si .i64 n), (61, .si .i64 i)] [2, 3, 4, 5, 62, 63, 64, 65, 66, 67, 68, 69, 70, 71, 72, 73, 74]) [(1, .blk 28 [.rs _ rl, .rs _ rc, .si .i64 pr, .si .i64 ex, .si .i64 lo, .si .i64 hi, .rs _ rt])] (roundL lc_bkN A K) = VCL_bkN n i rl rc pr ex lo hi rt A K := by kernel_rfl
def okLt_bkN : Prop := ∀ (W : InW) (body a : Code), (Try.prog.funcs[16]?).bind (·.body) = some body -> a ∈ loopsIn body -> keyOf a = 9 -> @LoopOk W Try.prog a (@loopRun W lc_bkN)
theorem okl_bkN (meas : [InW] -> List Ed -> Nat) (h : ∀ (W : InW) (n : Int) (i : Int) (rl : Ro [.str]) (rc : Ro Ivs) (pr : Int) (ex : Int) (lo : Int) (hi : Int) (rt : Ro [.int .i64, .int .i64]) (K : Nat -> List Ed -> Prop), sp_bkN [.i n, .i i, .ro _ rl, .ro _ rc, .i pr, .i ex, .i lo, .i hi, .ro _ rt] K -> ∀ A : List Ed -> Prop, (∀ e, meas e < meas [.i n, .i i, .ro _ rl, .ro _ rc, .i pr, .i ex, .i lo, .i hi, .ro _ rt] -> sp_bkN e K -> A e) -> VCL_bkN n i rl rc pr ex lo hi rt A K) : okLt_bkN :=
  LE.okOf' (fun W => @TT W) (fun W => @TT_ok W) mixed_ok T14 1000 50 (by kernel_rfl) lc_bkN (fun W => @meas W) fun W n i rl rc pr ex lo hi rt K hs =>
    (vcl_bkN W n i rl rc pr ex lo hi rt (fun e => meas e < meas [.i n, .i i, .ro _ rl, .ro _ rc, .i pr, .i ex, .i lo, .i hi, .ro _ rt] /\ sp_bkN e K) K).mpr (h W n i rl rc pr ex lo hi rt K hs _ fun e h1 h2 => ⟨h1, h2⟩)
theorem cel_take {xs : Dt} {i k m : Nat} (h : i < m) : cel (xs.take m) i k = cel xs i k := by
  simp [cel, List.getElem?_take, h]
theorem dup_take {xs : Dt} {name : ByteArray} {m : Nat} : ∀ (n k : Nat), k + n <= m -> Sp.dup (xs.take m) name k n = Sp.dup xs name k n
  | 0, _, _ => rfl
  | n + 1, k, h => by
    have h1 := @dup_take xs name m n (k + 1) (by omega);simp only [Sp.dup, Sp.nm, cel_take (show k < m by omega), h1]
theorem okLbkN : okLt_bkN := okl_bkN (fun e => match e with | .i n :: .i i :: _ => (n - i).toNat | _ => 0) fun W n i rl rc pr ex lo hi rt K hs A hA => by
  obtain ⟨⟨rfl, h0, h1⟩, hk⟩ := hs;unfold VCL_bkN;have hm := rl.len;simp only [maxLen] at hm;simp only [List.drop_zero];refine vifd (fun e => ar64 (by omega) ?_) fun e => ?_
  · rw [show rl.xs.length - i.toNat = (rl.xs.length - (i.toNat + 1)) + 1 by omega] at hk;obtain ⟨g1, g2⟩ := stepE (K1 := fun j e => K 1 [.i j, .i e]) hk;rw [Int.toNat_of_nonneg h0] at g1;have ez : (i + 1).toNat = i.toNat + 1 := by omega
    rw [ez];have el : (rl.xs.take (i.toNat + 1)).length = i.toNat + 1 := by rw [List.length_take]; omega
    have hA' : Sp.nameErr rl.xs i.toNat = 0 -> A [.i rl.xs.length, .i (i + 1), .ro _ rl, .ro _ rc, .i pr, .i ex, .i lo, .i hi, .ro _ rt] := fun f => hA _ (by show ((rl.xs.length : Int) - (i + 1)).toNat < ((rl.xs.length : Int) - i).toNat; omega) ⟨⟨rfl, by omega, by omega⟩, by rw [ez]; exact g2 f⟩;have bad : ∀ n, Sp.nameErr rl.xs i.toNat = n -> n ≠ 0 -> K 1 [.i i, .i n] := fun n hn h => by rw [<- hn]; exact g1 (by rw [hn]; exact h)
    clear g1 g2 hk hA;refine ned (decide_eq_true (by omega)) (ned (by simp; omega) ?_);rw [el, show ((i.toNat + 1 : Nat) : Int) - 1 = i by omega];refine ar64 (by omega) (ned (by simp; omega) (nedd (by omega) ⟨trivial, ?_⟩));rw [cel_take (show i.toNat < i.toNat + 1 by omega)];refine vif (fun e2 => bad 6 ?_ (by decide)) fun e2 => ar64 (by omega) (ned (decide_eq_true (by omega)) (ned (by simp) ?_))
    · clear bad hA'; simp_all [Sp.nameErr, Sp.nm]
    rw [List.take_take, Nat.min_eq_left (by omega), show (rl.xs.take i.toNat).length = i.toNat by rw [List.length_take]; omega, show Int.toNat 0 = 0 from rfl, Nat.sub_zero, dup_take _ _ (by omega)];rw [Bool.not_eq_false'] at e2;refine ⟨⟨trivial, by omega, by omega⟩, vif (fun e3 => vifd (fun _ => bad 5 ?_ (by decide)) fun e4 => absurd (by omega) e4) fun e3 => ar64 (by omega) (hA' ?_)⟩
    · clear bad hA'; simp_all [Sp.nameErr, Sp.nm]
    · clear bad hA'; simp_all [Sp.nameErr, Sp.nm]
  · rw [show rl.xs.length - i.toNat = 0 by omega] at hk;exact hk.2 rfl
noncomputable def le_bkN : LE Try.prog := ⟨16, 9, fun W => @loopRun W lc_bkN, okLbkN⟩
open Go.RowKit
set_option maxRecDepth 100000
noncomputable def T15 : Tab Try.prog := ⟨T13.pcs, [le_nmS, le_nmC], []⟩
def sp_bkC [InW] (e : List Ed) (K : Nat -> List Ed -> Prop) : Prop := match e with
  | [.ro _ cs, .i n, .i i, .ro _ rl, .ro _ rc, .i pr, .i ex, .i lo, .i hi, .ro _ rt] => Pre (cs.xs = rc.xs /\ n = (rc.xs.length : Int) /\ 0 <= i /\ i <= n) (Vif (Sp.hasE (Sp.carErr rc.xs) i.toNat (rc.xs.length - i.toNat))
      (K 1 [.i (Sp.idxE (Sp.carErr rc.xs) i.toNat (rc.xs.length - i.toNat)), .i (Sp.carErr rc.xs (Sp.idxE (Sp.carErr rc.xs) i.toNat (rc.xs.length - i.toNat)))]) (K 0 [.ro _ rl, .ro _ rc, .i pr, .i ex, .i lo, .i hi, .ro _ rt]))
  | _ => False
def lc_bkC : LC where
  len := 160
  T := [(1, (.ptr 1 0)), (76, .rs Ivs), (77, .int .i64), (78, .int .i64)]
  H := [(1, .blk 28 [.rs [.str], .rs Ivs, .int .i64, .int .i64, .int .i64, .int .i64, .rs [.int .i64, .int .i64]])]
  W := [2, 3, 4, 6, 7, 79, 80, 81, 82, 83, 84, 85, 86, 87, 88, 89, 90, 91, 92, 93, 94, 95, 96, 97, 98, 99, 100, 101, 102, 103, 104, 105, 106, 107, 108, 109, 110]
  outs := [⟨.exit 3, [(1, (.ptr 1 0))], [(1, .blk 28 [.rs [.str], .rs Ivs, .int .i64, .int .i64, .int .i64, .int .i64, .rs [.int .i64, .int .i64]])], [2, 3, 4, 6, 7, 76, 77, 78, 79, 80, 81, 82, 83, 84, 85, 86, 87, 88, 89, 90, 91, 92, 93, 94, 95, 96, 97, 98, 99, 100, 101, 102, 103, 104, 105, 106, 107, 108, 109, 110]⟩, ⟨.ret, [(2, (.lit (.int .i64 3))), (3, .int .i64), (4, .int .i64)], [], [1, 6, 7, 76, 77, 78, 79, 80, 81, 82, 83, 84, 85, 86, 87, 88, 89, 90, 91, 92, 93, 94, 95, 96, 97, 98, 99, 100, 101, 102, 103, 104, 105, 106, 107, 108, 109, 110]⟩]
  spec := sp_bkC
def VCL_bkC [W : InW] (cs : Ro Ivs) (n i : Int) (rl : Ro [.str]) (rc : Ro Ivs) (pr ex lo hi : Int) (rt : Ro [.int .i64, .int .i64]) (A : List Ed -> Prop) (K : Nat -> List Ed -> Prop) : Prop :=
  Vif (decide (i < n)) (Need (decide ((0 : Int) <= i) && decide (i < (↑(cs.xs.length) : Int))) (Need (decide (i.toNat < cs.xs.length)) (Ar .i64 (i + (1 : Int)) fun z => Need (decide ((0 : Int) <= z)) (Need (decide ((0 : Nat) <= z.toNat) && decide (z.toNat <= rc.xs.length)) (Ar .i64 ((↑(List.drop (0 : Nat) (List.take z.toNat rc.xs)).length : Int) - (1 : Int)) fun z_1 => Need (decide ((0 : Int) <= z_1) && decide (z_1 < (↑(List.drop (0 : Nat) (List.take z.toNat rc.xs)).length : Int))) (Need (decide (z_1.toNat < (List.drop (0 : Nat) (List.take z.toNat rc.xs)).length)) (Pre True (Vif (!Bk.nameOk (cel (List.drop (0 : Nat) (List.take z.toNat rc.xs)) z_1.toNat (0 : Nat)).str) (K (0+1 : Nat) [.i i, .i (6 : Int)]) (Ar .i64 ((↑(List.drop (0 : Nat) (List.take z.toNat rc.xs)).length : Int) - (1 : Int)) fun z_2 => Need (decide ((0 : Int) <= z_2)) (Need (decide ((0 : Nat) <= z_2.toNat) && decide (z_2.toNat <= (List.drop (0 : Nat) (List.take z.toNat rc.xs)).length)) (Pre ((↑(List.drop (0 : Nat) (List.take z_2.toNat (List.drop (0 : Nat) (List.take z.toNat rc.xs)))).length : Int) = (↑(List.drop (0 : Nat) (List.take z_2.toNat (List.drop (0 : Nat) (List.take z.toNat rc.xs)))).length : Int) /\ (0 : Int) <= (0 : Int) /\ (0 : Int) <= (↑(List.drop (0 : Nat) (List.take z_2.toNat (List.drop (0 : Nat) (List.take z.toNat rc.xs)))).length : Int)) (Vif (Sp.dup (List.drop (0 : Nat) (List.take z_2.toNat (List.drop (0 : Nat) (List.take z.toNat rc.xs)))) (cel (List.drop (0 : Nat) (List.take z.toNat rc.xs)) z_1.toNat (0 : Nat)).str (Int.toNat (0 : Int)) ((List.drop (0 : Nat) (List.take z_2.toNat (List.drop (0 : Nat) (List.take z.toNat rc.xs)))).length - Int.toNat (0 : Int))) (Vif (decide ((0 : Int) <= (↑(Sp.dupI (List.drop (0 : Nat) (List.take z_2.toNat (List.drop (0 : Nat) (List.take z.toNat rc.xs)))) (cel (List.drop (0 : Nat) (List.take z.toNat rc.xs)) z_1.toNat (0 : Nat)).str (Int.toNat (0 : Int)) ((List.drop (0 : Nat) (List.take z_2.toNat (List.drop (0 : Nat) (List.take z.toNat rc.xs)))).length - Int.toNat (0 : Int))) : Int))) (K (0+1 : Nat) [.i i, .i (5 : Int)]) (Pre True (Vif (Sp.out (0 : Int) (1000000 : Int) [[Cl.i (cel cs.xs i.toNat (0+1 : Nat)).int]]) (K (0+1 : Nat) [.i i, .i (7 : Int)]) (Pre True (Vif (Sp.out (1 : Int) (1000000 : Int) [[Cl.i (cel cs.xs i.toNat (0+1+1 : Nat)).int]]) (K (0+1 : Nat) [.i i, .i (7 : Int)]) (Pre True (Vif (Sp.out (0 : Int) (255 : Int) [[Cl.i (cel cs.xs i.toNat (0+1+1+1 : Nat)).int]]) (K (0+1 : Nat) [.i i, .i (7 : Int)]) (Ar .i64 (i + (1 : Int)) fun z => A [.ro _ cs, .i n, .i z, .ro _ rl, .ro _ rc, .i pr, .i ex, .i lo, .i hi, .ro _ rt])))))))) (Pre True (Vif (Sp.out (0 : Int) (1000000 : Int) [[Cl.i (cel cs.xs i.toNat (0+1 : Nat)).int]]) (K (0+1 : Nat) [.i i, .i (7 : Int)]) (Pre True (Vif (Sp.out (1 : Int) (1000000 : Int) [[Cl.i (cel cs.xs i.toNat (0+1+1 : Nat)).int]]) (K (0+1 : Nat) [.i i, .i (7 : Int)]) (Pre True (Vif (Sp.out (0 : Int) (255 : Int) [[Cl.i (cel cs.xs i.toNat (0+1+1+1 : Nat)).int]]) (K (0+1 : Nat) [.i i, .i (7 : Int)]) (Ar .i64 (i + (1 : Int)) fun z => A [.ro _ cs, .i n, .i z, .ro _ rl, .ro _ rc, .i pr, .i ex, .i lo, .i hi, .ro _ rt]))))))))))))))))))) (K (0 : Nat) [.ro _ rl, .ro _ rc, .i pr, .i ex, .i lo, .i hi, .ro _ rt])
theorem vcl_bkC (W : InW) (cs n i rl rc pr ex lo hi rt A K) : vcTop { cxT Try.prog TT T15 1000 50 with fn := 16 } 1000 (loopAt Try.prog 16 16) (tmOut 160 [(1, .ptr 1 0), (76, .rs _ cs), (77, .si .i64 n), (78, .si .i64 i)] [2, 3, 4, 6, 7, 79, 80, 81, 82, 83, 84, 85, 86, 87, 88, 89, 90, 91, 92, 93, 94, 95, 96, 97, 98, 99, 100, 101, 102, 103, 104, 105, 106, 107, 108, 109, 110]) [(1, .blk 28 [.rs _ rl, .rs _ rc, .si .i64 pr, .si .i64 ex, .si .i64 lo, .si .i64 hi, .rs _ rt])] (roundL lc_bkC A K) = VCL_bkC cs n i rl rc pr ex lo hi rt A K := by kernel_rfl
def okLt_bkC : Prop := ∀ (W : InW) (body a : Code), (Try.prog.funcs[16]?).bind (·.body) = some body -> a ∈ loopsIn body -> keyOf a = 16 -> @LoopOk W Try.prog a (@loopRun W lc_bkC)
theorem okl_bkC (meas : [InW] -> List Ed -> Nat) (h : ∀ (W : InW) (cs : Ro Ivs) (n : Int) (i : Int) (rl : Ro [.str]) (rc : Ro Ivs) (pr : Int) (ex : Int) (lo : Int) (hi : Int) (rt : Ro [.int .i64, .int .i64]) (K : Nat -> List Ed -> Prop), sp_bkC [.ro _ cs, .i n, .i i, .ro _ rl, .ro _ rc, .i pr, .i ex, .i lo, .i hi, .ro _ rt] K -> ∀ A : List Ed -> Prop, (∀ e, meas e < meas [.ro _ cs, .i n, .i i, .ro _ rl, .ro _ rc, .i pr, .i ex, .i lo, .i hi, .ro _ rt] -> sp_bkC e K -> A e) -> VCL_bkC cs n i rl rc pr ex lo hi rt A K) : okLt_bkC :=
  LE.okOf' (fun W => @TT W) (fun W => @TT_ok W) mixed_ok T15 1000 50 (by kernel_rfl) lc_bkC (fun W => @meas W) fun W cs n i rl rc pr ex lo hi rt K hs =>
    (vcl_bkC W cs n i rl rc pr ex lo hi rt (fun e => meas e < meas [.ro _ cs, .i n, .i i, .ro _ rl, .ro _ rc, .i pr, .i ex, .i lo, .i hi, .ro _ rt] /\ sp_bkC e K) K).mpr (h W cs n i rl rc pr ex lo hi rt K hs _ fun e h1 h2 => ⟨h1, h2⟩)
def sp_bkT [InW] (e : List Ed) (K : Nat -> List Ed -> Prop) : Prop := match e with
  | [.ro _ ts, .i n, .i i, .ro _ rl, .ro _ rc, .i pr, .i ex, .i lo, .i hi, .ro _ rt] => Pre (ts.xs = rt.xs /\ n = (rt.xs.length : Int) /\ 0 <= i /\ i <= n) (Vif (Sp.hasE (Sp.termErr rt.xs) i.toNat (rt.xs.length - i.toNat))
      (K 1 [.i (Sp.idxE (Sp.termErr rt.xs) i.toNat (rt.xs.length - i.toNat)), .i (Sp.termErr rt.xs (Sp.idxE (Sp.termErr rt.xs) i.toNat (rt.xs.length - i.toNat)))]) (K 0 []))
  | _ => False
def lc_bkT : LC where
  len := 160
  T := [(1, (.ptr 1 0)), (112, .rs [.int .i64, .int .i64]), (113, .int .i64), (114, .int .i64)]
  H := [(1, .blk 28 [.rs [.str], .rs Ivs, .int .i64, .int .i64, .int .i64, .int .i64, .rs [.int .i64, .int .i64]])]
  W := [2, 3, 4, 8, 9, 115, 116, 117, 118, 119, 120, 121, 122, 123, 124, 125, 126, 127, 128, 129, 130, 131, 132, 133, 134, 135, 136, 137, 138, 139, 140, 141, 142, 143, 144, 145, 146, 147, 148, 149, 150, 151, 152, 153, 154, 155, 156, 157, 158, 159]
  outs := [⟨.exit 5, [], [], [1, 2, 3, 4, 8, 9, 112, 113, 114, 115, 116, 117, 118, 119, 120, 121, 122, 123, 124, 125, 126, 127, 128, 129, 130, 131, 132, 133, 134, 135, 136, 137, 138, 139, 140, 141, 142, 143, 144, 145, 146, 147, 148, 149, 150, 151, 152, 153, 154, 155, 156, 157, 158, 159]⟩, ⟨.ret, [(2, (.lit (.int .i64 4))), (3, .int .i64), (4, .int .i64)], [], [1, 8, 9, 112, 113, 114, 115, 116, 117, 118, 119, 120, 121, 122, 123, 124, 125, 126, 127, 128, 129, 130, 131, 132, 133, 134, 135, 136, 137, 138, 139, 140, 141, 142, 143, 144, 145, 146, 147, 148, 149, 150, 151, 152, 153, 154, 155, 156, 157, 158, 159]⟩]
  spec := sp_bkT
def VCL_bkT [W : InW] (ts : Ro [.int .i64, .int .i64]) (n i : Int) (rl : Ro [.str]) (rc : Ro Ivs) (pr ex lo hi : Int) (rt : Ro [.int .i64, .int .i64]) (A : List Ed -> Prop) (K : Nat -> List Ed -> Prop) : Prop :=
  Vif (decide (i < n)) (Need (decide ((0 : Int) <= i) && decide (i < (↑(ts.xs.length) : Int))) (Need (decide (i.toNat < ts.xs.length)) (Pre True (Vif (Sp.out (0 : Int) (240 : Int) [[Cl.i (cel ts.xs i.toNat (0 : Nat)).int]]) (K (0+1 : Nat) [.i i, .i (7 : Int)]) (Pre True (Vif (Sp.out (0 : Int) (1000 : Int) [[Cl.i (cel ts.xs i.toNat (0+1 : Nat)).int]]) (K (0+1 : Nat) [.i i, .i (7 : Int)]) (Vif (decide ((0 : Int) < i)) (Ar .i64 (i - (1 : Int)) fun z => Need (decide ((0 : Int) <= z) && decide (z < (↑(rt.xs.length) : Int))) (Need (decide (z.toNat < rt.xs.length)) (Vif (decide ((cel rt.xs z.toNat (0 : Nat)).int <= (cel ts.xs i.toNat (0 : Nat)).int)) (K (0+1 : Nat) [.i i, .i (2 : Int)]) (Ar .i64 (i - (1 : Int)) fun z => Need (decide ((0 : Int) <= z) && decide (z < (↑(rt.xs.length) : Int))) (Need (decide (z.toNat < rt.xs.length)) (Vif (decide ((cel ts.xs i.toNat (0+1 : Nat)).int < (cel rt.xs z.toNat (nat_lit 0 + (1 : Nat))).int)) (K (0+1 : Nat) [.i i, .i (2 : Int)]) (Ar .i64 (i + (1 : Int)) fun z => A [.ro _ ts, .i n, .i z, .ro _ rl, .ro _ rc, .i pr, .i ex, .i lo, .i hi, .ro _ rt]))))))) (Ar .i64 (i + (1 : Int)) fun z => A [.ro _ ts, .i n, .i z, .ro _ rl, .ro _ rc, .i pr, .i ex, .i lo, .i hi, .ro _ rt])))))))) (K (0 : Nat) [])
theorem vcl_bkT (W : InW) (ts n i rl rc pr ex lo hi rt A K) : vcTop { cxT Try.prog TT T15 1000 50 with fn := 16 } 1000 (loopAt Try.prog 16 25) (tmOut 160 [(1, .ptr 1 0), (112, .rs _ ts), (113, .si .i64 n), (114, .si .i64 i)] [2, 3, 4, 8, 9, 115, 116, 117, 118, 119, 120, 121, 122, 123, 124, 125, 126, 127, 128, 129, 130, 131, 132, 133, 134, 135, 136, 137, 138, 139, 140, 141, 142, 143, 144, 145, 146, 147, 148, 149, 150, 151, 152, 153, 154, 155, 156, 157, 158, 159]) [(1, .blk 28 [.rs _ rl, .rs _ rc, .si .i64 pr, .si .i64 ex, .si .i64 lo, .si .i64 hi, .rs _ rt])] (roundL lc_bkT A K) = VCL_bkT ts n i rl rc pr ex lo hi rt A K := by kernel_rfl
def okLt_bkT : Prop := ∀ (W : InW) (body a : Code), (Try.prog.funcs[16]?).bind (·.body) = some body -> a ∈ loopsIn body -> keyOf a = 25 -> @LoopOk W Try.prog a (@loopRun W lc_bkT)
theorem okl_bkT (meas : [InW] -> List Ed -> Nat) (h : ∀ (W : InW) (ts : Ro [.int .i64, .int .i64]) (n : Int) (i : Int) (rl : Ro [.str]) (rc : Ro Ivs) (pr : Int) (ex : Int) (lo : Int) (hi : Int) (rt : Ro [.int .i64, .int .i64]) (K : Nat -> List Ed -> Prop), sp_bkT [.ro _ ts, .i n, .i i, .ro _ rl, .ro _ rc, .i pr, .i ex, .i lo, .i hi, .ro _ rt] K -> ∀ A : List Ed -> Prop, (∀ e, meas e < meas [.ro _ ts, .i n, .i i, .ro _ rl, .ro _ rc, .i pr, .i ex, .i lo, .i hi, .ro _ rt] -> sp_bkT e K -> A e) -> VCL_bkT ts n i rl rc pr ex lo hi rt A K) : okLt_bkT :=
  LE.okOf' (fun W => @TT W) (fun W => @TT_ok W) mixed_ok T15 1000 50 (by kernel_rfl) lc_bkT (fun W => @meas W) fun W ts n i rl rc pr ex lo hi rt K hs =>
    (vcl_bkT W ts n i rl rc pr ex lo hi rt (fun e => meas e < meas [.ro _ ts, .i n, .i i, .ro _ rl, .ro _ rc, .i pr, .i ex, .i lo, .i hi, .ro _ rt] /\ sp_bkT e K) K).mpr (h W ts n i rl rc pr ex lo hi rt K hs _ fun e h1 h2 => ⟨h1, h2⟩)
theorem okLbkC : okLt_bkC := okl_bkC (fun e => match e with | _ :: .i n :: .i i :: _ => (n - i).toNat | _ => 0) fun W cs n i rl rc pr ex lo hi rt K hs A hA => by
  obtain ⟨⟨hcs, rfl, h0, h1⟩, hk⟩ := hs;unfold VCL_bkC;have hm := rc.len;simp only [maxLen] at hm;simp only [List.drop_zero, hcs];refine vifd (fun e => ned (by simp; omega) (nedd (by omega) (ar64 (by omega) ?_))) fun e => ?_
  · rw [show rc.xs.length - i.toNat = (rc.xs.length - (i.toNat + 1)) + 1 by omega] at hk;obtain ⟨g1, g2⟩ := stepE (K1 := fun j e => K 1 [.i j, .i e]) hk;rw [Int.toNat_of_nonneg h0] at g1;have ez : (i + 1).toNat = i.toNat + 1 := by omega
    rw [ez];have el : (rc.xs.take (i.toNat + 1)).length = i.toNat + 1 := by rw [List.length_take]; omega
    have hA' : Sp.carErr rc.xs i.toNat = 0 -> A [.ro _ cs, .i rc.xs.length, .i (i + 1), .ro _ rl, .ro _ rc, .i pr, .i ex, .i lo, .i hi, .ro _ rt] := fun f => hA _ (by show ((rc.xs.length : Int) - (i + 1)).toNat < ((rc.xs.length : Int) - i).toNat; omega) ⟨⟨hcs, rfl, by omega, by omega⟩, by rw [ez]; exact g2 f⟩;have bad : ∀ n, Sp.carErr rc.xs i.toNat = n -> n ≠ 0 -> K 1 [.i i, .i n] := fun n hn h => by rw [<- hn]; exact g1 (by rw [hn]; exact h)
    clear g1 g2 hk hA;refine ned (decide_eq_true (by omega)) (ned (by simp; omega) ?_);rw [el, show ((i.toNat + 1 : Nat) : Int) - 1 = i by omega];refine ar64 (by omega) (ned (by simp; omega) (nedd (by omega) ⟨trivial, ?_⟩));rw [cel_take (show i.toNat < i.toNat + 1 by omega)];refine vif (fun e2 => bad 6 ?_ (by decide)) fun e2 => ar64 (by omega) (ned (decide_eq_true (by omega)) (ned (by simp) ?_))
    · clear bad hA'; simp_all [Sp.carErr, Sp.nm]
    rw [List.take_take, Nat.min_eq_left (by omega), show (rc.xs.take i.toNat).length = i.toNat by rw [List.length_take]; omega, show Int.toNat 0 = 0 from rfl, Nat.sub_zero, dup_take _ _ (by omega)];rw [Bool.not_eq_false'] at e2;refine ⟨⟨trivial, by omega, by omega⟩, vif (fun e3 => vifd (fun _ => bad 5 ?_ (by decide)) fun e4 => absurd (by omega) e4) fun e3 => ?_⟩
    · clear bad hA'; simp_all [Sp.carErr, Sp.nm]
    simp only [out1, Nat.zero_add, Nat.reduceAdd];refine ⟨trivial, vif (fun e4 => bad 7 ?_ (by decide)) fun e4 => ⟨trivial, vif (fun e5 => bad 7 ?_ (by decide)) fun e5 => ⟨trivial, vif (fun e6 => bad 7 ?_ (by decide)) fun e6 => ar64 (by omega) (hA' ?_)⟩⟩⟩
    all_goals (clear bad hA'; simp_all [Sp.carErr, Sp.nm])
  · rw [show rc.xs.length - i.toNat = 0 by omega] at hk;exact hk.2 rfl
theorem okLbkT : okLt_bkT := okl_bkT (fun e => match e with | _ :: .i n :: .i i :: _ => (n - i).toNat | _ => 0) fun W ts n i rl rc pr ex lo hi rt K hs A hA => by
  obtain ⟨⟨hcs, rfl, h0, h1⟩, hk⟩ := hs;unfold VCL_bkT;have hm := rt.len;simp only [maxLen] at hm;simp only [hcs, out1, Nat.zero_add];refine vifd (fun e => ?_) fun e => ?_
  · rw [show rt.xs.length - i.toNat = (rt.xs.length - (i.toNat + 1)) + 1 by omega] at hk;obtain ⟨g1, g2⟩ := stepE (K1 := fun j e => K 1 [.i j, .i e]) hk;rw [Int.toNat_of_nonneg h0] at g1;have hA' : Sp.termErr rt.xs i.toNat = 0 -> A [.ro _ ts, .i rt.xs.length, .i (i + 1), .ro _ rl, .ro _ rc, .i pr, .i ex, .i lo, .i hi, .ro _ rt] := fun f => hA _ (by show ((rt.xs.length : Int) - (i + 1)).toNat < ((rt.xs.length : Int) - i).toNat; omega) ⟨⟨hcs, rfl, by omega, by omega⟩, by
      rw [show (i + 1).toNat = i.toNat + 1 by omega];exact g2 f⟩
    have bad : ∀ n, Sp.termErr rt.xs i.toNat = n -> n ≠ 0 -> K 1 [.i i, .i n] := fun n hn h => by rw [<- hn]; exact g1 (by rw [hn]; exact h)
    clear g1 g2 hk hA;refine ned (by simp; omega) (nedd (by omega) ⟨trivial, vif (fun e2 => bad 7 ?_ (by decide)) fun e2 => ⟨trivial, vif (fun e3 => bad 7 ?_ (by decide)) fun e3 => vifd (fun e4 => ?_) fun e4 => ar64 (by omega) (hA' ?_)⟩⟩)
    · clear hA' bad; simp_all [Sp.termErr, Sp.before]
    · clear hA' bad; simp_all [Sp.termErr, Sp.feeOf]
    · have e5 : (i - 1).toNat = i.toNat - 1 := by omega
      have e6 : 0 < i.toNat := by omega
      refine ar64 (by omega) (ned (by simp; omega) (nedd (by omega) (vifd (fun e7 => bad 2 ?_ (by decide)) fun e7 => ar64 (by omega) (ned (by simp; omega) (nedd (by omega) (vifd (fun e8 => bad 2 ?_ (by decide)) fun e8 => ar64 (by omega) (hA' ?_)))))))
      all_goals clear hA' bad
      all_goals rw [e5] at e7
      all_goals rw [Bool.not_eq_false'] at e2 e3
      · simp [Sp.termErr, Sp.before, Sp.feeOf, e2, e3, e6, e7]
      all_goals rw [e5] at e8
      · simp [Sp.termErr, Sp.before, Sp.feeOf, e2, e3, e6, e8]
      · simp only [Sp.termErr, Sp.before, Sp.feeOf, e2, e3];simp only [Bool.and_self, if_true, Bool.and_eq_true, Bool.or_eq_true, decide_eq_true_eq, e7, e8, or_self, and_false, if_false]
    · have e6 : ¬ 0 < i.toNat := by omega
      clear hA' bad;rw [Bool.not_eq_false'] at e2 e3;simp only [Sp.termErr, Sp.before, Sp.feeOf, e2, e3];simp only [Bool.and_self, if_true, Bool.and_eq_true, decide_eq_true_eq, e6, false_and, if_false]
  · rw [show rt.xs.length - i.toNat = 0 by omega] at hk;exact hk.2 rfl
noncomputable def le_bkC : LE Try.prog := ⟨16, 16, fun W => @loopRun W lc_bkC, okLbkC⟩
noncomputable def le_bkT : LE Try.prog := ⟨16, 25, fun W => @loopRun W lc_bkT, okLbkT⟩
noncomputable def T16 : Tab Try.prog := ⟨T13.pcs, [le_bkN, le_bkC, le_bkT], []⟩
def VC_bCheck [W : InW] (s_Learners : Ro [.str]) (s_Cars : Ro Ivs) (s_Price s_Excess s_Lo s_Hi : Int) (s_Terms : Ro [.int .i64, .int .i64]) (Q : DS -> Prop) : Prop :=
  Pre True (Vif (Sp.out (1 : Int) (8 : Int) [[Cl.i (↑(s_Learners.xs.length) : Int)]]) (Q [[Cl.i (1 : Int)], [Cl.i (0 : Int)], [Cl.i (3 : Int)]]) (Pre True (Vif (Sp.out (1 : Int) (5 : Int) [[Cl.i (↑(s_Cars.xs.length) : Int)]]) (Q [[Cl.i (1 : Int)], [Cl.i (0 : Int)], [Cl.i (3 : Int)]]) (Vif (decide ((4 : Int) < (↑(s_Terms.xs.length) : Int))) (Q [[Cl.i (1 : Int)], [Cl.i (0 : Int)], [Cl.i (3 : Int)]]) (Pre True (Vif (Sp.out (1 : Int) (10000 : Int) [[Cl.i s_Price]]) (Q [[Cl.i (1 : Int)], [Cl.i (0 : Int)], [Cl.i (7 : Int)]]) (Pre True (Vif (Sp.out (0 : Int) (10000000 : Int) [[Cl.i s_Excess]]) (Q [[Cl.i (1 : Int)], [Cl.i (0 : Int)], [Cl.i (7 : Int)]]) (Pre True (Vif (Sp.out (0 : Int) (24 : Int) [[Cl.i s_Lo], [Cl.i s_Hi]]) (Q [[Cl.i (1 : Int)], [Cl.i (0 : Int)], [Cl.i (7 : Int)]]) (Vif (decide (s_Hi <= s_Lo)) (Q [[Cl.i (1 : Int)], [Cl.i (0 : Int)], [Cl.i (2 : Int)]]) (Pre ((↑(s_Learners.xs.length) : Int) = (↑(s_Learners.xs.length) : Int) /\ (0 : Int) <= (0 : Int) /\ (0 : Int) <= (↑(s_Learners.xs.length) : Int)) (Vif (Sp.hasE (Sp.nameErr s_Learners.xs) (Int.toNat (0 : Int)) (s_Learners.xs.length - Int.toNat (0 : Int))) (Q [[Cl.i (2 : Int)], [Cl.i (↑(Sp.idxE (Sp.nameErr s_Learners.xs) (Int.toNat (0 : Int)) (s_Learners.xs.length - Int.toNat (0 : Int))) : Int)], [Cl.i (Sp.nameErr s_Learners.xs (Sp.idxE (Sp.nameErr s_Learners.xs) (Int.toNat (0 : Int)) (s_Learners.xs.length - Int.toNat (0 : Int))))]]) (Pre (s_Cars.xs = s_Cars.xs /\ (↑(s_Cars.xs.length) : Int) = (↑(s_Cars.xs.length) : Int) /\ (0 : Int) <= (0 : Int) /\ (0 : Int) <= (↑(s_Cars.xs.length) : Int)) (Vif (Sp.hasE (Sp.carErr s_Cars.xs) (Int.toNat (0 : Int)) (s_Cars.xs.length - Int.toNat (0 : Int))) (Q [[Cl.i (3 : Int)], [Cl.i (↑(Sp.idxE (Sp.carErr s_Cars.xs) (Int.toNat (0 : Int)) (s_Cars.xs.length - Int.toNat (0 : Int))) : Int)], [Cl.i (Sp.carErr s_Cars.xs (Sp.idxE (Sp.carErr s_Cars.xs) (Int.toNat (0 : Int)) (s_Cars.xs.length - Int.toNat (0 : Int))))]]) (Pre (s_Terms.xs = s_Terms.xs /\ (↑(s_Terms.xs.length) : Int) = (↑(s_Terms.xs.length) : Int) /\ (0 : Int) <= (0 : Int) /\ (0 : Int) <= (↑(s_Terms.xs.length) : Int)) (Vif (Sp.hasE (Sp.termErr s_Terms.xs) (Int.toNat (0 : Int)) (s_Terms.xs.length - Int.toNat (0 : Int))) (Q [[Cl.i (4 : Int)], [Cl.i (↑(Sp.idxE (Sp.termErr s_Terms.xs) (Int.toNat (0 : Int)) (s_Terms.xs.length - Int.toNat (0 : Int))) : Int)], [Cl.i (Sp.termErr s_Terms.xs (Sp.idxE (Sp.termErr s_Terms.xs) (Int.toNat (0 : Int)) (s_Terms.xs.length - Int.toNat (0 : Int))))]]) (Q [[Cl.i (0 : Int)], [Cl.i (0 : Int)], [Cl.i (0 : Int)]]))))))))))))))))))
theorem vc_bCheck (W : InW) (s_Learners s_Cars s_Price s_Excess s_Lo s_Hi s_Terms Q) : bodyK (cxT Try.prog TT T16 1000 50) 1000 16 [.agg [.rs _ s_Learners, .rs _ s_Cars, .si .i64 s_Price, .si .i64 s_Excess, .si .i64 s_Lo, .si .i64 s_Hi, .rs _ s_Terms]] [] 0 (leafK [(false, [.int .i64]), (false, [.int .i64]), (false, [.int .i64])] Q) (fun _ _ _ _ => Stuck 421) = VC_bCheck s_Learners s_Cars s_Price s_Excess s_Lo s_Hi s_Terms Q := by kernel_rfl
abbrev ats_bCheck : List AT := [.agg [.sl [.str], .sl Ivs, .int .i64, .int .i64, .int .i64, .int .i64, .sl [.int .i64, .int .i64]]]
theorem ok_bCheck {pre : DS -> Prop} {res : DS -> DS} (h : ∀ (W : InW) (s_Learners : Ro [.str]) (s_Cars : Ro Ivs) (s_Price : Int) (s_Excess : Int) (s_Lo : Int) (s_Hi : Int) (s_Terms : Ro [.int .i64, .int .i64]), pre [[.l s_Learners.xs, .l s_Cars.xs, .i s_Price, .i s_Excess, .i s_Lo, .i s_Hi, .l s_Terms.xs]] -> ∀ Q : DS -> Prop, Q (res [[.l s_Learners.xs, .l s_Cars.xs, .i s_Price, .i s_Excess, .i s_Lo, .i s_Hi, .l s_Terms.xs]]) -> VC_bCheck s_Learners s_Cars s_Price s_Excess s_Lo s_Hi s_Terms Q) : PureOk Try.prog 16 ats_bCheck [(false, [.int .i64]), (false, [.int .i64]), (false, [.int .i64])] pre res :=
  PureOk.of' (fun W => @TT W) (fun W => @TT_ok W) mixed_ok T16 1000 50 fun W s_Learners s_Cars s_Price s_Excess s_Lo s_Hi s_Terms hp =>
    (vc_bCheck W s_Learners s_Cars s_Price s_Excess s_Lo s_Hi s_Terms (fun o => o = res [[.l s_Learners.xs, .l s_Cars.xs, .i s_Price, .i s_Excess, .i s_Lo, .i s_Hi, .l s_Terms.xs]])).mpr (h W s_Learners s_Cars s_Price s_Excess s_Lo s_Hi s_Terms hp _ rfl)
theorem okbCheck : PureOk Try.prog 16 ats_bCheck [(false, [.int .i64]), (false, [.int .i64]), (false, [.int .i64])] (fun _ => True) res_Check :=
  ok_bCheck fun W rl rc pr ex lo hi rt hp Q h => by
    unfold VC_bCheck;simp only [res_Check, Sp.chkP, Sp.chkI, Sp.chkE, Sp.check] at h;simp only [out1, out2];rw [show Int.toNat 0 = 0 from rfl, Nat.sub_zero, Nat.sub_zero, Nat.sub_zero];refine ⟨trivial, vif (fun e1 => ?_) fun e1 => ⟨trivial, vif (fun e2 => ?_) fun e2 => vif (fun e3 => ?_) fun e3 => ⟨trivial, vif (fun e4 => ?_) fun e4 => ⟨trivial, vif (fun e5 => ?_) fun e5 => ⟨trivial, vif (fun e6 => ?_) fun e6 => vif (fun e8 => ?_) fun e8 => ⟨⟨trivial, by omega, by omega⟩, vif (fun e9 => ?_) fun e9 => ⟨⟨trivial, trivial, by omega, by omega⟩, vif (fun e10 => ?_) fun e10 => ⟨⟨trivial, trivial, by omega, by omega⟩, vif (fun e11 => ?_) fun e11 => ?_⟩⟩⟩⟩⟩⟩⟩⟩
    all_goals simp_all
noncomputable def pc_bCheck : PC Try.prog := ⟨16, ats_bCheck, [(false, [.int .i64]), (false, [.int .i64]), (false, [.int .i64])], fun _ => True, res_Check, okbCheck⟩
open Go.RowKit
set_option maxRecDepth 100000
namespace Sp
def tf (rt : Dt) (b : Int) (i : Nat) : Int := if before rt i <= b then 1 else 0
end Sp
noncomputable def T17 : Tab Try.prog := ⟨[pc_out, pc_bCheck], [], []⟩
def sp_bf [InW] (e : List Ed) (K : Nat -> List Ed -> Prop) : Prop := match e with
  | [.ro _ xs, .i n, .i i, .i b] => Pre (n = (xs.xs.length : Int) /\ 0 <= i /\ i <= n) (Vif (Sp.hasE (Sp.tf xs.xs b) i.toNat (xs.xs.length - i.toNat)) (K 1 [.i (Sp.idxE (Sp.tf xs.xs b) i.toNat (xs.xs.length - i.toNat)), .i b]) (K 0 [.i b]))
  | _ => False
def lc_bf : LC where
  len := 19
  T := [(0, .rs [.int .i64, .int .i64]), (1, (.fn (.func 66) [] [(.ptr 1 0)])), (7, .int .i64), (8, .int .i64)]
  H := [(1, .blk 3 [.int .i64])]
  W := [4, 5, 9, 10, 11, 12, 13, 14, 15, 16, 17, 18]
  outs := [⟨.exit 0, [(1, (.fn (.func 66) [] [(.ptr 1 0)]))], [(1, .blk 3 [.int .i64])], [0, 4, 5, 7, 8, 9, 10, 11, 12, 13, 14, 15, 16, 17, 18]⟩, ⟨.ret, [(1, (.fn (.func 66) [] [(.ptr 1 0)])), (4, .int .i64)], [(1, .blk 3 [.int .i64])], [0, 5, 7, 8, 9, 10, 11, 12, 13, 14, 15, 16, 17, 18]⟩]
  spec := sp_bf
def VCL_bf [W : InW] (xs : Ro [.int .i64, .int .i64]) (n i b : Int) (A : List Ed -> Prop) (K : Nat -> List Ed -> Prop) : Prop :=
  Vif (decide (i < n)) (Need (decide ((0 : Int) <= i) && decide (i < (↑(xs.xs.length) : Int))) (Need (decide (i.toNat < xs.xs.length)) (Vif (decide ((cel xs.xs i.toNat (0 : Nat)).int <= b)) (K (0+1 : Nat) [.i i, .i b]) (Ar .i64 (i + (1 : Int)) fun z => A [.ro _ xs, .i n, .i z, .i b])))) (K (0 : Nat) [.i b])
theorem vcl_bf (W : InW) (xs n i b A K) : vcTop { cxT Try.prog TT T17 1000 50 with fn := 65 } 1000 (loopAt Try.prog 65 3) (tmOut 19 [(0, .rs _ xs), (1, .fn (.func 66) [] [.ptr 1 0]), (7, .si .i64 n), (8, .si .i64 i)] [4, 5, 9, 10, 11, 12, 13, 14, 15, 16, 17, 18]) [(1, .blk 3 [.si .i64 b])] (roundL lc_bf A K) = VCL_bf xs n i b A K := by kernel_rfl
def okLt_bf : Prop := ∀ (W : InW) (body a : Code), (Try.prog.funcs[65]?).bind (·.body) = some body -> a ∈ loopsIn body -> keyOf a = 3 -> @LoopOk W Try.prog a (@loopRun W lc_bf)
theorem okl_bf (meas : [InW] -> List Ed -> Nat) (h : ∀ (W : InW) (xs : Ro [.int .i64, .int .i64]) (n : Int) (i : Int) (b : Int) (K : Nat -> List Ed -> Prop), sp_bf [.ro _ xs, .i n, .i i, .i b] K -> ∀ A : List Ed -> Prop, (∀ e, meas e < meas [.ro _ xs, .i n, .i i, .i b] -> sp_bf e K -> A e) -> VCL_bf xs n i b A K) : okLt_bf :=
  LE.okOf' (fun W => @TT W) (fun W => @TT_ok W) mixed_ok T17 1000 50 (by kernel_rfl) lc_bf (fun W => @meas W) fun W xs n i b K hs =>
    (vcl_bf W xs n i b (fun e => meas e < meas [.ro _ xs, .i n, .i i, .i b] /\ sp_bf e K) K).mpr (h W xs n i b K hs _ fun e h1 h2 => ⟨h1, h2⟩)
theorem okLbf : okLt_bf := okl_bf (fun e => match e with | _ :: .i n :: .i i :: _ => (n - i).toNat | _ => 0) fun W xs n i b K hs A hA => by
  obtain ⟨⟨rfl, h0, h1⟩, hk⟩ := hs;unfold VCL_bf;have hm := xs.len;simp only [maxLen] at hm;refine vifd (fun e => ?_) fun e => ?_
  · rw [show xs.xs.length - i.toNat = (xs.xs.length - (i.toNat + 1)) + 1 by omega] at hk;obtain ⟨g1, g2⟩ := stepE (K1 := fun j e => K 1 [.i j, .i b]) hk;rw [Int.toNat_of_nonneg h0] at g1;refine ned (by simp; omega) (nedd (by omega) (vifd (fun e2 => g1 ?_) fun e2 => ar64 (by omega) (hA _ ?_ ?_)))
    · simp [Sp.tf, Sp.before, e2]
    · show ((xs.xs.length : Int) - (i + 1)).toNat < ((xs.xs.length : Int) - i).toNat
      omega
    · refine ⟨⟨rfl, by omega, by omega⟩, ?_⟩;rw [show (i + 1).toNat = i.toNat + 1 by omega];exact g2 (by unfold Sp.tf Sp.before; rw [if_neg e2])
  · rw [show xs.xs.length - i.toNat = 0 by omega] at hk;exact hk.2 rfl
theorem hasE_snoc (f : Nat -> Int) : ∀ (n i : Nat), Sp.hasE f i (n + 1) = (Sp.hasE f i n || !decide (f (i + n) = 0))
  | 0, i => by simp [Sp.hasE]
  | n + 1, i => by
    have := hasE_snoc f n (i + 1);rw [Sp.hasE, this, Sp.hasE, show i + 1 + n = i + (n + 1) by omega, Bool.or_assoc]
theorem idxE_snoc (f : Nat -> Int) : ∀ (n i : Nat), Sp.idxE f i (n + 1) = if Sp.hasE f i n = true then Sp.idxE f i n else if f (i + n) = 0 then i + n + 1 else i + n
  | 0, i => by simp [Sp.idxE, Sp.hasE]
  | n + 1, i => by
    have := idxE_snoc f n (i + 1);rw [Sp.idxE, this, Sp.hasE, Sp.idxE, show i + 1 + n = i + (n + 1) by omega]
    by_cases h : f i = 0
    · simp only [h, if_true, decide_true, Bool.not_true, Bool.false_or]
    · simp [h]
theorem part_first (rt : Dt) (b : Int) : ∀ (n : Nat) (p : Int), Sp.part rt b n p = if Sp.hasE (Sp.tf rt b) 0 n = true then Sp.feeOf rt (Sp.idxE (Sp.tf rt b) 0 n) else p
  | 0, p => by simp [Sp.part, Sp.hasE]
  | n + 1, p => by
    rw [Sp.part, part_first rt b n, hasE_snoc, idxE_snoc]
    by_cases h : Sp.hasE (Sp.tf rt b) 0 n = true
    · simp [h]
    · simp only [h, Nat.zero_add, Bool.false_or, Sp.tf]
      by_cases h2 : Sp.before rt n <= b <;> simp [h2]
noncomputable def le_bf : LE Try.prog := ⟨65, 3, fun W => @loopRun W lc_bf, okLbf⟩
noncomputable def T18 : Tab Try.prog := ⟨T17.pcs, [le_bf], []⟩
def VC_bfee [W : InW] (s_Learners : Ro [.str]) (s_Cars : Ro Ivs) (s_Price s_Excess s_Lo s_Hi : Int) (s_Terms : Ro [.int .i64, .int .i64]) (hours before : Int) (Q : DS -> Prop) : Prop :=
  Pre ((↑(s_Terms.xs.length) : Int) = (↑(s_Terms.xs.length) : Int) /\ (0 : Int) <= (0 : Int) /\ (0 : Int) <= (↑(s_Terms.xs.length) : Int)) (Vif (Sp.hasE (Sp.tf s_Terms.xs before) (Int.toNat (0 : Int)) (s_Terms.xs.length - Int.toNat (0 : Int))) (Vif (decide ((0 : Int) <= (↑(Sp.idxE (Sp.tf s_Terms.xs before) (Int.toNat (0 : Int)) (s_Terms.xs.length - Int.toNat (0 : Int))) : Int))) (Need (decide ((0 : Int) <= (↑(Sp.idxE (Sp.tf s_Terms.xs before) (Int.toNat (0 : Int)) (s_Terms.xs.length - Int.toNat (0 : Int))) : Int)) && decide ((↑(Sp.idxE (Sp.tf s_Terms.xs before) (Int.toNat (0 : Int)) (s_Terms.xs.length - Int.toNat (0 : Int))) : Int) < (↑(s_Terms.xs.length) : Int))) (Need (decide ((↑(Sp.idxE (Sp.tf s_Terms.xs before) (Int.toNat (0 : Int)) (s_Terms.xs.length - Int.toNat (0 : Int))) : Int).toNat < s_Terms.xs.length)) (Ar .i64 (hours * s_Price) fun z => Ar .i64 (z * (cel s_Terms.xs (↑(Sp.idxE (Sp.tf s_Terms.xs before) (Int.toNat (0 : Int)) (s_Terms.xs.length - Int.toNat (0 : Int))) : Int).toNat (nat_lit 0 + (1 : Nat))).int) fun z => Ar .i64 (z + (1000 : Int)) fun z => Ar .i64 (z - (1 : Int)) fun z => Ar .i64 (z.tdiv (1000 : Int)) fun z => Q [[Cl.i z]]))) (Ar .i64 (hours * s_Price) fun z => Ar .i64 (z * (1000 : Int)) fun z => Ar .i64 (z + (1000 : Int)) fun z => Ar .i64 (z - (1 : Int)) fun z => Ar .i64 (z.tdiv (1000 : Int)) fun z => Q [[Cl.i z]])) (Ar .i64 (hours * s_Price) fun z => Ar .i64 (z * (1000 : Int)) fun z => Ar .i64 (z + (1000 : Int)) fun z => Ar .i64 (z - (1 : Int)) fun z => Ar .i64 (z.tdiv (1000 : Int)) fun z => Q [[Cl.i z]]))
theorem vc_bfee (W : InW) (s_Learners s_Cars s_Price s_Excess s_Lo s_Hi s_Terms hours before Q) : bodyK (cxT Try.prog TT T18 1000 50) 1000 46 [.agg [.rs _ s_Learners, .rs _ s_Cars, .si .i64 s_Price, .si .i64 s_Excess, .si .i64 s_Lo, .si .i64 s_Hi, .rs _ s_Terms], .si .i64 hours, .si .i64 before] [] 0 (leafK [(false, [.int .i64])] Q) (fun _ _ _ _ => Stuck 421) = VC_bfee s_Learners s_Cars s_Price s_Excess s_Lo s_Hi s_Terms hours before Q := by kernel_rfl
abbrev ats_bfee : List AT := [.agg [.sl [.str], .sl Ivs, .int .i64, .int .i64, .int .i64, .int .i64, .sl [.int .i64, .int .i64]], .one (.int .i64), .one (.int .i64)]
theorem ok_bfee {pre : DS -> Prop} {res : DS -> DS} (h : ∀ (W : InW) (s_Learners : Ro [.str]) (s_Cars : Ro Ivs) (s_Price : Int) (s_Excess : Int) (s_Lo : Int) (s_Hi : Int) (s_Terms : Ro [.int .i64, .int .i64]) (hours : Int) (before : Int), pre [[.l s_Learners.xs, .l s_Cars.xs, .i s_Price, .i s_Excess, .i s_Lo, .i s_Hi, .l s_Terms.xs], [.i hours], [.i before]] -> ∀ Q : DS -> Prop, Q (res [[.l s_Learners.xs, .l s_Cars.xs, .i s_Price, .i s_Excess, .i s_Lo, .i s_Hi, .l s_Terms.xs], [.i hours], [.i before]]) -> VC_bfee s_Learners s_Cars s_Price s_Excess s_Lo s_Hi s_Terms hours before Q) : PureOk Try.prog 46 ats_bfee [(false, [.int .i64])] pre res :=
  PureOk.of' (fun W => @TT W) (fun W => @TT_ok W) mixed_ok T18 1000 50 fun W s_Learners s_Cars s_Price s_Excess s_Lo s_Hi s_Terms hours before hp =>
    (vc_bfee W s_Learners s_Cars s_Price s_Excess s_Lo s_Hi s_Terms hours before (fun o => o = res [[.l s_Learners.xs, .l s_Cars.xs, .i s_Price, .i s_Excess, .i s_Lo, .i s_Hi, .l s_Terms.xs], [.i hours], [.i before]])).mpr (h W s_Learners s_Cars s_Price s_Excess s_Lo s_Hi s_Terms hours before hp _ rfl)
theorem feeTail [InW] {hours pr q : Int} {Q : DS -> Prop} (h1 : 0 <= hours) (h2 : hours <= 100000) (h3 : 0 <= pr) (h4 : pr <= 10000) (hq : 0 <= q /\ q <= 1000) (h : Q [[.i ((hours * pr * q + 999).tdiv 1000)]]) :
    Ar IntKind.i64 (hours * pr) fun z => Ar IntKind.i64 (z * q) fun z => Ar IntKind.i64 (z + 1000) fun z => Ar IntKind.i64 (z - 1) fun z => Ar IntKind.i64 (z.tdiv 1000) fun z => Q [[Cl.i z]] := by
  have m1 : 0 <= hours * pr /\ hours * pr <= 100000 * 10000 := ⟨Int.mul_nonneg h1 h3, Int.mul_le_mul h2 h4 h3 (by omega)⟩;have m2 : 0 <= hours * pr * q /\ hours * pr * q <= 100000 * 10000 * 1000 := ⟨Int.mul_nonneg m1.1 hq.1, Int.mul_le_mul m1.2 hq.2 hq.1 (by omega)⟩;have e : hours * pr * q + 1000 - 1 = hours * pr * q + 999 := by omega
  have m3 : 0 <= (hours * pr * q + 999).tdiv 1000 /\ (hours * pr * q + 999).tdiv 1000 <= 100000 * 10000 * 1000 := by
    rw [Int.tdiv_eq_ediv_of_nonneg (by omega)]; omega
  refine ar64 (by omega) (ar64 (by omega) (ar64 (by omega) (ar64 (by omega) ?_)));rw [e];exact ar64 (by omega) h
theorem idxE_lt {f : Nat -> Int} : ∀ {n i : Nat}, Sp.hasE f i n = true -> Sp.idxE f i n < i + n
  | 0, i, h => by simp [Sp.hasE] at h
  | n + 1, i, h => by
    rw [Sp.idxE]
    by_cases e : f i = 0
    · rw [if_pos e];have := idxE_lt (f := f) (n := n) (i := i + 1) (by simpa [Sp.hasE, e] using h);omega
    · rw [if_neg e]; omega
theorem okbfee : PureOk Try.prog 46 ats_bfee [(false, [.int .i64])] pre_fee res_fee :=
  ok_bfee fun W rl rc pr ex lo hi rt hours before hp Q h => by
    obtain ⟨h1, h2, h3, h4, h5⟩ := hp;unfold VC_bfee;simp only [res_fee, Sp.fee] at h;rw [part_first] at h;rw [show Int.toNat 0 = 0 from rfl, Nat.sub_zero];refine ⟨⟨rfl, by omega, by omega⟩, vif (fun e => ?_) fun e => ?_⟩
    · rw [if_pos e] at h;have hl := idxE_lt e;have hf := h5 (Sp.idxE (Sp.tf rt.xs before) 0 rt.xs.length) (by omega);generalize Sp.idxE (Sp.tf rt.xs before) 0 rt.xs.length = j at *;rw [Int.toNat_natCast];exact vifd (fun _ => ned (by simp; omega) (nedd (by omega) (feeTail h1 h2 h3 h4 hf h))) fun e2 => absurd (by omega) e2
    · rw [if_neg (by simp [e])] at h;exact feeTail h1 h2 h3 h4 (by omega) h
noncomputable def pc_bfee : PC Try.prog := ⟨46, ats_bfee, [(false, [.int .i64])], pre_fee, res_fee, okbfee⟩
open Go.RowKit
set_option maxRecDepth 100000
namespace Sp
def wet (never : Int) (ws : Dt) (day : Int) : Nat -> Nat -> Bool
  | _, 0 => false
  | i, n + 1 => (if (cel ws i 0).int = day then !drives never (cel ws i 1).int else false) || wet never ws day (i + 1) n
end Sp
noncomputable def T20 : Tab Try.prog := ⟨[pc_in, pc_Fits, pc_Apart, pc_Drives, pc_fee, pc_Check], [], []⟩
def sp_dry [InW] (e : List Ed) (K : Nat -> List Ed -> Prop) : Prop := match e with
  | [.i car, .i day, .i i, .ro _ rl, .ro _ rc, .i pr, .i ex, .i lo, .i hi, .ro _ rt, .ro _ ls, .ro _ km, .ro _ si, .ro _ ac, .ro _ ws, .ro _ ps, .i tm] =>
    Pre (0 <= i /\ i <= (ws.xs.length : Int) /\ 0 <= car /\ car < (rc.xs.length : Int) /\ Sp.I64 (cel rc.xs car.toNat 3).int /\ ∀ j, Sp.Small (cel ws.xs j 1).int)
      (Vif (Sp.wet (cel rc.xs car.toNat 3).int ws.xs day i.toNat (ws.xs.length - i.toNat)) (K 1 []) (K 0 []))
  | _ => False
def lc_dry : LC where
  len := 37
  T := [(2, .int .i64), (3, .int .i64), (4, (.ptr 1 0)), (5, (.ptr 4 0)), (9, .int .i64)]
  H := [(1, .blk 28 [.rs [.str], .rs Ivs, .int .i64, .int .i64, .int .i64, .int .i64, .rs [.int .i64, .int .i64]]), (4, .blk 98 [.rs Iv5, .rs [.int .i64], .rs [.int .i64], .rs [.int .i64], .rs [.int .i64, .int .i64], .rs Iv4, .int .i64])]
  W := [8, 10, 11, 12, 13, 14, 15, 16, 17, 18, 19, 20, 21, 22, 23, 24, 25, 26, 27, 28, 29, 30, 31, 32, 33, 34, 35, 36]
  outs := [⟨.exit 0, [], [], [2, 3, 4, 5, 8, 9, 10, 11, 12, 13, 14, 15, 16, 17, 18, 19, 20, 21, 22, 23, 24, 25, 26, 27, 28, 29, 30, 31, 32, 33, 34, 35, 36]⟩, ⟨.ret, [(8, (.lit (.bool false)))], [], [2, 3, 4, 5, 9, 10, 11, 12, 13, 14, 15, 16, 17, 18, 19, 20, 21, 22, 23, 24, 25, 26, 27, 28, 29, 30, 31, 32, 33, 34, 35, 36]⟩]
  spec := sp_dry
def VCL_dry [W : InW] (car day i : Int) (rl : Ro [.str]) (rc : Ro Ivs) (pr ex lo hi : Int) (rt : Ro [.int .i64, .int .i64]) (ls : Ro Iv5) (km si ac : Ro [.int .i64]) (ws : Ro [.int .i64, .int .i64]) (ps : Ro Iv4) (tm : Int) (A : List Ed -> Prop) (K : Nat -> List Ed -> Prop) : Prop :=
  Vif (decide (i < (↑(ws.xs.length) : Int))) (Need (decide ((0 : Int) <= i) && decide (i < (↑(ws.xs.length) : Int))) (Need (decide (i.toNat < ws.xs.length)) (Vif (decide ((cel ws.xs i.toNat (0 : Nat)).int = day)) (Need (decide ((0 : Int) <= i) && decide (i < (↑(ws.xs.length) : Int))) (Need (decide (i.toNat < ws.xs.length)) (Pre ((0 : Int) <= car /\ car < (↑(rc.xs.length) : Int) /\ Sp.I64 (cel rc.xs car.toNat (3 : Nat)).int /\ Sp.Small (cel ws.xs i.toNat (nat_lit 0 + (1 : Nat))).int) (Vif (!Sp.drives (cel rc.xs car.toNat (3 : Nat)).int (cel ws.xs i.toNat (nat_lit 0 + (1 : Nat))).int) (K (0+1 : Nat) []) (Ar .i64 (i + (1 : Int)) fun z => A [.i car, .i day, .i z, .ro _ rl, .ro _ rc, .i pr, .i ex, .i lo, .i hi, .ro _ rt, .ro _ ls, .ro _ km, .ro _ si, .ro _ ac, .ro _ ws, .ro _ ps, .i tm]))))) (Ar .i64 (i + (1 : Int)) fun z => A [.i car, .i day, .i z, .ro _ rl, .ro _ rc, .i pr, .i ex, .i lo, .i hi, .ro _ rt, .ro _ ls, .ro _ km, .ro _ si, .ro _ ac, .ro _ ws, .ro _ ps, .i tm])))) (K (0 : Nat) [])
theorem vcl_dry (W : InW) (car day i rl rc pr ex lo hi rt ls km si ac ws ps tm A K) : vcTop { cxT Try.prog TT T20 1000 50 with fn := 75 } 1000 (loopAt Try.prog 75 3) (tmOut 37 [(2, .si .i64 car), (3, .si .i64 day), (4, .ptr 1 0), (5, .ptr 4 0), (9, .si .i64 i)] [8, 10, 11, 12, 13, 14, 15, 16, 17, 18, 19, 20, 21, 22, 23, 24, 25, 26, 27, 28, 29, 30, 31, 32, 33, 34, 35, 36]) [(1, .blk 28 [.rs _ rl, .rs _ rc, .si .i64 pr, .si .i64 ex, .si .i64 lo, .si .i64 hi, .rs _ rt]), (4, .blk 98 [.rs _ ls, .rs _ km, .rs _ si, .rs _ ac, .rs _ ws, .rs _ ps, .si .i64 tm])] (roundL lc_dry A K) = VCL_dry car day i rl rc pr ex lo hi rt ls km si ac ws ps tm A K := by kernel_rfl
def okLt_dry : Prop := ∀ (W : InW) (body a : Code), (Try.prog.funcs[75]?).bind (·.body) = some body -> a ∈ loopsIn body -> keyOf a = 3 -> @LoopOk W Try.prog a (@loopRun W lc_dry)
theorem okl_dry (meas : [InW] -> List Ed -> Nat) (h : ∀ (W : InW) (car : Int) (day : Int) (i : Int) (rl : Ro [.str]) (rc : Ro Ivs) (pr : Int) (ex : Int) (lo : Int) (hi : Int) (rt : Ro [.int .i64, .int .i64]) (ls : Ro Iv5) (km : Ro [.int .i64]) (si : Ro [.int .i64]) (ac : Ro [.int .i64]) (ws : Ro [.int .i64, .int .i64]) (ps : Ro Iv4) (tm : Int) (K : Nat -> List Ed -> Prop), sp_dry [.i car, .i day, .i i, .ro _ rl, .ro _ rc, .i pr, .i ex, .i lo, .i hi, .ro _ rt, .ro _ ls, .ro _ km, .ro _ si, .ro _ ac, .ro _ ws, .ro _ ps, .i tm] K -> ∀ A : List Ed -> Prop, (∀ e, meas e < meas [.i car, .i day, .i i, .ro _ rl, .ro _ rc, .i pr, .i ex, .i lo, .i hi, .ro _ rt, .ro _ ls, .ro _ km, .ro _ si, .ro _ ac, .ro _ ws, .ro _ ps, .i tm] -> sp_dry e K -> A e) -> VCL_dry car day i rl rc pr ex lo hi rt ls km si ac ws ps tm A K) : okLt_dry :=
  LE.okOf' (fun W => @TT W) (fun W => @TT_ok W) mixed_ok T20 1000 50 (by kernel_rfl) lc_dry (fun W => @meas W) fun W car day i rl rc pr ex lo hi rt ls km si ac ws ps tm K hs =>
    (vcl_dry W car day i rl rc pr ex lo hi rt ls km si ac ws ps tm (fun e => meas e < meas [.i car, .i day, .i i, .ro _ rl, .ro _ rc, .i pr, .i ex, .i lo, .i hi, .ro _ rt, .ro _ ls, .ro _ km, .ro _ si, .ro _ ac, .ro _ ws, .ro _ ps, .i tm] /\ sp_dry e K) K).mpr (h W car day i rl rc pr ex lo hi rt ls km si ac ws ps tm K hs _ fun e h1 h2 => ⟨h1, h2⟩)
theorem okLdry : okLt_dry := okl_dry (fun e => match e with | _ :: _ :: .i i :: _ :: _ :: _ :: _ :: _ :: _ :: _ :: _ :: _ :: _ :: _ :: .ro _ ws :: _ => ((ws.xs.length : Int) - i).toNat | _ => 0) fun W car day i rl rc pr ex lo hi rt ls km si ac ws ps tm K hs A hA => by
  obtain ⟨⟨h0, h1, h2, h3, h4, h5⟩, hk⟩ := hs;unfold VCL_dry;have hm := ws.len;simp only [maxLen] at hm;have hlt : ((ws.xs.length : Int) - (i + 1)).toNat < ((ws.xs.length : Int) - i).toNat \/ ¬ i < ws.xs.length := by omega
  refine vifd (fun e => ?_) fun e => ?_
  · rw [show ws.xs.length - i.toNat = (ws.xs.length - (i.toNat + 1)) + 1 by omega] at hk;have ez : (i + 1).toNat = i.toNat + 1 := by omega
    have hd : (decide (0 <= i) && decide (i < (ws.xs.length : Int))) = true := by simp; omega
    rw [Sp.wet] at hk;refine ned hd (nedd (by omega) (vifd (fun e2 => ned hd (nedd (by omega) ⟨⟨h2, h3, h4, h5 _⟩, vif (fun e3 => ?_) fun e3 => ar64 (by omega) (hA _ (hlt.resolve_right (fun h => h e)) ⟨⟨by omega, by omega, h2, h3, h4, h5⟩, ?_⟩)⟩)) fun e2 => ar64 (by omega) (hA _ (hlt.resolve_right (fun h => h e)) ⟨⟨by omega, by omega, h2, h3, h4, h5⟩, ?_⟩)))
    · exact hk.1 (by rw [if_pos e2]; simp only [Nat.zero_add] at e3; rw [e3]; rfl)
    · rw [ez];rw [if_pos e2] at hk;simp only [Nat.zero_add] at e3;rw [e3, Bool.false_or] at hk;exact hk
    · rw [ez];rw [if_neg e2, Bool.false_or] at hk;exact hk
  · rw [show ws.xs.length - i.toNat = 0 by omega] at hk;exact hk.2 rfl
noncomputable def le_dry : LE Try.prog := ⟨75, 3, fun W => @loopRun W lc_dry, okLdry⟩
noncomputable def T21 : Tab Try.prog := ⟨T20.pcs, [le_dry], []⟩
def VC_dry [W : InW] (s_Learners : Ro [.str]) (s_Cars : Ro [.str, .int .i64, .int .i64, .int .i64]) (s_Price s_Excess s_Lo s_Hi : Int) (s_Terms : Ro [.int .i64, .int .i64]) (b_Lessons : Ro [.int .i64, .int .i64, .int .i64, .int .i64, .int .i64]) (b_Km b_Since b_Accounts : Ro [.int .i64]) (b_Weathers : Ro [.int .i64, .int .i64]) (b_Postings : Ro [.int .i64, .int .i64, .int .i64, .int .i64]) (b_Time car day : Int) (Q : DS -> Prop) : Prop :=
  Pre ((0 : Int) <= (0 : Int) /\ (0 : Int) <= (↑(b_Weathers.xs.length) : Int) /\ (0 : Int) <= car /\ car < (↑(s_Cars.xs.length) : Int) /\ Sp.I64 (cel s_Cars.xs car.toNat (3 : Nat)).int /\ ∀ (j : Nat), Sp.Small (cel (rsK._proof_1 [Ty.int IntKind.i64, Ty.int IntKind.i64] [Ty.int IntKind.i64, Ty.int IntKind.i64] rfl ▸ b_Weathers).xs j (1 : Nat)).int) (Vif (Sp.wet (cel s_Cars.xs car.toNat (3 : Nat)).int b_Weathers.xs day (Int.toNat (0 : Int)) (b_Weathers.xs.length - Int.toNat (0 : Int))) (Q [[Cl.b false]]) (Q [[Cl.b true]]))
theorem vc_dry (W : InW) (s_Learners s_Cars s_Price s_Excess s_Lo s_Hi s_Terms b_Lessons b_Km b_Since b_Accounts b_Weathers b_Postings b_Time car day Q) : bodyK (cxT Try.prog TT T21 1000 50) 1000 75 [.agg [.rs _ s_Learners, .rs _ s_Cars, .si .i64 s_Price, .si .i64 s_Excess, .si .i64 s_Lo, .si .i64 s_Hi, .rs _ s_Terms], .agg [.rs _ b_Lessons, .rs _ b_Km, .rs _ b_Since, .rs _ b_Accounts, .rs _ b_Weathers, .rs _ b_Postings, .si .i64 b_Time], .si .i64 car, .si .i64 day] [] 0 (leafK [(false, [.bool])] Q) (fun _ _ _ _ => Stuck 421) = VC_dry s_Learners s_Cars s_Price s_Excess s_Lo s_Hi s_Terms b_Lessons b_Km b_Since b_Accounts b_Weathers b_Postings b_Time car day Q := by kernel_rfl
abbrev ats_dry : List AT := [.agg [.sl [.str], .sl Ivs, .int .i64, .int .i64, .int .i64, .int .i64, .sl [.int .i64, .int .i64]], .agg [.sl Iv5, .sl [.int .i64], .sl [.int .i64], .sl [.int .i64], .sl [.int .i64, .int .i64], .sl Iv4, .int .i64], .one (.int .i64), .one (.int .i64)]
theorem ok_dry {pre : DS -> Prop} {res : DS -> DS} (h : ∀ (W : InW) (s_Learners : Ro [.str]) (s_Cars : Ro Ivs) (s_Price : Int) (s_Excess : Int) (s_Lo : Int) (s_Hi : Int) (s_Terms : Ro [.int .i64, .int .i64]) (b_Lessons : Ro Iv5) (b_Km : Ro [.int .i64]) (b_Since : Ro [.int .i64]) (b_Accounts : Ro [.int .i64]) (b_Weathers : Ro [.int .i64, .int .i64]) (b_Postings : Ro Iv4) (b_Time : Int) (car : Int) (day : Int), pre [[.l s_Learners.xs, .l s_Cars.xs, .i s_Price, .i s_Excess, .i s_Lo, .i s_Hi, .l s_Terms.xs], [.l b_Lessons.xs, .l b_Km.xs, .l b_Since.xs, .l b_Accounts.xs, .l b_Weathers.xs, .l b_Postings.xs, .i b_Time], [.i car], [.i day]] -> ∀ Q : DS -> Prop, Q (res [[.l s_Learners.xs, .l s_Cars.xs, .i s_Price, .i s_Excess, .i s_Lo, .i s_Hi, .l s_Terms.xs], [.l b_Lessons.xs, .l b_Km.xs, .l b_Since.xs, .l b_Accounts.xs, .l b_Weathers.xs, .l b_Postings.xs, .i b_Time], [.i car], [.i day]]) -> VC_dry s_Learners s_Cars s_Price s_Excess s_Lo s_Hi s_Terms b_Lessons b_Km b_Since b_Accounts b_Weathers b_Postings b_Time car day Q) : PureOk Try.prog 75 ats_dry [(false, [.bool])] pre res :=
  PureOk.of' (fun W => @TT W) (fun W => @TT_ok W) mixed_ok T21 1000 50 fun W s_Learners s_Cars s_Price s_Excess s_Lo s_Hi s_Terms b_Lessons b_Km b_Since b_Accounts b_Weathers b_Postings b_Time car day hp =>
    (vc_dry W s_Learners s_Cars s_Price s_Excess s_Lo s_Hi s_Terms b_Lessons b_Km b_Since b_Accounts b_Weathers b_Postings b_Time car day (fun o => o = res [[.l s_Learners.xs, .l s_Cars.xs, .i s_Price, .i s_Excess, .i s_Lo, .i s_Hi, .l s_Terms.xs], [.l b_Lessons.xs, .l b_Km.xs, .l b_Since.xs, .l b_Accounts.xs, .l b_Weathers.xs, .l b_Postings.xs, .i b_Time], [.i car], [.i day]])).mpr (h W s_Learners s_Cars s_Price s_Excess s_Lo s_Hi s_Terms b_Lessons b_Km b_Since b_Accounts b_Weathers b_Postings b_Time car day hp _ rfl)
abbrev res_dry (ds : DS) : DS := match ds with | [[_, .l rc, _, _, _, _, _], [_, _, _, _, .l ws, _, _], [.i car], [.i day]] => [[.b (!Sp.wet (cel rc car.toNat 3).int ws day 0 ws.length)]] | _ => []
abbrev pre_dry (ds : DS) : Prop := match ds with | [[_, .l rc, _, _, _, _, _], [_, _, _, _, .l ws, _, _], [.i car], _] => 0 <= car /\ car < (rc.length : Int) /\ Sp.I64 (cel rc car.toNat 3).int /\ ∀ j, Sp.Small (cel ws j 1).int | _ => False
theorem okdry : PureOk Try.prog 75 ats_dry [(false, [.bool])] pre_dry res_dry :=
  ok_dry fun W _ rc _ _ _ _ _ _ _ _ _ ws _ _ car day hp Q h => by
    obtain ⟨h1, h2, h3, h4⟩ := hp;unfold VC_dry;rw [show Int.toNat 0 = 0 from rfl, Nat.sub_zero];refine ⟨⟨by omega, by omega, h1, h2, h3, h4⟩, vif (fun e => ?_) fun e => ?_⟩
    · simp only [res_dry, e] at h; exact h
    · simp only [res_dry, e] at h; exact h
noncomputable def pc_dry : PC Try.prog := ⟨75, ats_dry, [(false, [.bool])], pre_dry, res_dry, okdry⟩
def VC_has [W : InW] (b_Lessons : Ro Iv5) (b_Km b_Since b_Accounts : Ro [.int .i64]) (b_Weathers : Ro [.int .i64, .int .i64]) (b_Postings : Ro Iv4) (b_Time n st : Int) (Q : DS -> Prop) : Prop :=
  Ar .i64 ((↑(b_Lessons.xs.length) : Int) - (1 : Int)) fun z => Pre True (Vif (Sp.inr n (0 : Int) z) (Need (decide ((0 : Int) <= n) && decide (n < (↑(b_Lessons.xs.length) : Int))) (Need (decide (n.toNat < b_Lessons.xs.length)) (Q [[Cl.b (decide ((cel b_Lessons.xs n.toNat (nat_lit 3 + (1 : Nat))).int = st))]]))) (Q [[Cl.b false]]))
theorem vc_has (W : InW) (b_Lessons b_Km b_Since b_Accounts b_Weathers b_Postings b_Time n st Q) : bodyK (cxT Try.prog TT T20 1000 50) 1000 84 [.agg [.rs _ b_Lessons, .rs _ b_Km, .rs _ b_Since, .rs _ b_Accounts, .rs _ b_Weathers, .rs _ b_Postings, .si .i64 b_Time], .si .i64 n, .si .i64 st] [] 0 (leafK [(false, [.bool])] Q) (fun _ _ _ _ => Stuck 421) = VC_has b_Lessons b_Km b_Since b_Accounts b_Weathers b_Postings b_Time n st Q := by kernel_rfl
abbrev ats_has : List AT := [.agg [.sl Iv5, .sl [.int .i64], .sl [.int .i64], .sl [.int .i64], .sl [.int .i64, .int .i64], .sl Iv4, .int .i64], .one (.int .i64), .one (.int .i64)]
theorem ok_has {pre : DS -> Prop} {res : DS -> DS} (h : ∀ (W : InW) (b_Lessons : Ro Iv5) (b_Km : Ro [.int .i64]) (b_Since : Ro [.int .i64]) (b_Accounts : Ro [.int .i64]) (b_Weathers : Ro [.int .i64, .int .i64]) (b_Postings : Ro Iv4) (b_Time : Int) (n : Int) (st : Int), pre [[.l b_Lessons.xs, .l b_Km.xs, .l b_Since.xs, .l b_Accounts.xs, .l b_Weathers.xs, .l b_Postings.xs, .i b_Time], [.i n], [.i st]] -> ∀ Q : DS -> Prop, Q (res [[.l b_Lessons.xs, .l b_Km.xs, .l b_Since.xs, .l b_Accounts.xs, .l b_Weathers.xs, .l b_Postings.xs, .i b_Time], [.i n], [.i st]]) -> VC_has b_Lessons b_Km b_Since b_Accounts b_Weathers b_Postings b_Time n st Q) : PureOk Try.prog 84 ats_has [(false, [.bool])] pre res :=
  PureOk.of' (fun W => @TT W) (fun W => @TT_ok W) mixed_ok T20 1000 50 fun W b_Lessons b_Km b_Since b_Accounts b_Weathers b_Postings b_Time n st hp =>
    (vc_has W b_Lessons b_Km b_Since b_Accounts b_Weathers b_Postings b_Time n st (fun o => o = res [[.l b_Lessons.xs, .l b_Km.xs, .l b_Since.xs, .l b_Accounts.xs, .l b_Weathers.xs, .l b_Postings.xs, .i b_Time], [.i n], [.i st]])).mpr (h W b_Lessons b_Km b_Since b_Accounts b_Weathers b_Postings b_Time n st hp _ rfl)
namespace Sp
def has (ls : Dt) (n st : Int) : Bool := if 0 <= n /\ n < (ls.length : Int) then decide ((cel ls n.toNat 4).int = st) else false
end Sp
abbrev res_has (ds : DS) : DS := match ds with | [[.l ls, _, _, _, _, _, _], [.i n], [.i st]] => [[.b (Sp.has ls n st)]] | _ => []
theorem okhas : PureOk Try.prog 84 ats_has [(false, [.bool])] (fun _ => True) res_has :=
  ok_has fun W ls _ _ _ _ _ _ n st hp Q h => by
    unfold VC_has;have hm := ls.len;simp only [maxLen] at hm;simp only [res_has, Sp.has] at h;refine ar64 (by omega) ⟨trivial, vif (fun e => ?_) fun e => ?_⟩
    · simp only [Sp.inr, Bool.and_eq_true, decide_eq_true_eq] at e;rw [if_pos (by omega)] at h;exact ned (by simp; omega) (nedd (by omega) h)
    · simp only [Sp.inr, Bool.and_eq_false_iff, decide_eq_false_iff_not] at e;rw [if_neg (by omega)] at h;exact h
noncomputable def pc_has : PC Try.prog := ⟨84, ats_has, [(false, [.bool])], fun _ => True, res_has, okhas⟩
open Go.RowKit
set_option maxRecDepth 100000
namespace Sp
def way (ls : Dt) (i : Nat) (l c s h : Int) : Bool :=
  if (cel ls i 4).int = 0 then (if (cel ls i 0).int = l \/ (cel ls i 1).int = c then !apart (cel ls i 2).int (cel ls i 3).int s h else false) else false
def blocked (ls : Dt) (but l c s h : Int) : Nat -> Nat -> Bool
  | _, 0 => false
  | i, n + 1 => (if (i : Int) = but then false else way ls i l c s h) || blocked ls but l c s h (i + 1) n
end Sp
noncomputable def T22 : Tab Try.prog := ⟨[pc_in, pc_Fits, pc_Apart, pc_Drives, pc_fee, pc_Check, pc_dry, pc_has], [], []⟩
def sp_clear [InW] (e : List Ed) (K : Nat -> List Ed -> Prop) : Prop := match e with
  | [.i but, .i i, .ro _ ls, .ro _ km, .ro _ si, .ro _ ac, .ro _ ws, .ro _ ps, .i tm, .i l, .i c, .i s, .i h, .i st] =>
    Pre (0 <= i /\ i <= (ls.xs.length : Int) /\ Sp.Small s /\ Sp.Small h /\ ∀ j, Sp.Small (cel ls.xs j 2).int /\ Sp.Small (cel ls.xs j 3).int)
      (Vif (Sp.blocked ls.xs but l c s h i.toNat (ls.xs.length - i.toNat)) (K 1 []) (K 0 []))
  | _ => False
def lc_clear : LC where
  len := 51
  T := [(2, .int .i64), (3, (.ptr 1 0)), (4, (.ptr 4 0)), (7, .int .i64)]
  H := [(1, .blk 98 [.rs Iv5, .rs [.int .i64], .rs [.int .i64], .rs [.int .i64], .rs [.int .i64, .int .i64], .rs Iv4, .int .i64]), (4, .blk 63 [.int .i64, .int .i64, .int .i64, .int .i64, .int .i64])]
  W := [6, 8, 9, 10, 11, 12, 13, 14, 15, 16, 17, 18, 19, 20, 21, 22, 23, 24, 25, 26, 27, 28, 29, 30, 31, 32, 33, 34, 35, 36, 37, 38, 39, 40, 41, 42, 43, 44, 45, 46, 47, 48, 49, 50]
  outs := [⟨.exit 0, [], [], [2, 3, 4, 6, 7, 8, 9, 10, 11, 12, 13, 14, 15, 16, 17, 18, 19, 20, 21, 22, 23, 24, 25, 26, 27, 28, 29, 30, 31, 32, 33, 34, 35, 36, 37, 38, 39, 40, 41, 42, 43, 44, 45, 46, 47, 48, 49, 50]⟩, ⟨.ret, [(6, (.lit (.bool false)))], [], [2, 3, 4, 7, 8, 9, 10, 11, 12, 13, 14, 15, 16, 17, 18, 19, 20, 21, 22, 23, 24, 25, 26, 27, 28, 29, 30, 31, 32, 33, 34, 35, 36, 37, 38, 39, 40, 41, 42, 43, 44, 45, 46, 47, 48, 49, 50]⟩]
  spec := sp_clear
def VCL_clear [W : InW] (but i : Int) (ls : Ro Iv5) (km si ac : Ro [.int .i64]) (ws : Ro [.int .i64, .int .i64]) (ps : Ro Iv4) (tm l c s h st : Int) (A : List Ed -> Prop) (K : Nat -> List Ed -> Prop) : Prop :=
  Vif (decide (i < (↑(ls.xs.length) : Int))) (Need (decide ((0 : Int) <= i) && decide (i < (↑(ls.xs.length) : Int))) (Need (decide (i.toNat < ls.xs.length)) (Vif (!decide (i = but)) (Vif (decide ((cel ls.xs i.toNat (0+1+1+1+1 : Nat)).int = (0 : Int))) (Vif (decide ((cel ls.xs i.toNat (0 : Nat)).int = l)) (Pre (Sp.Small (cel ls.xs i.toNat (0+1+1 : Nat)).int /\ Sp.Small (cel ls.xs i.toNat (0+1+1+1 : Nat)).int /\ Sp.Small s /\ Sp.Small h) (Vif (!Sp.apart (cel ls.xs i.toNat (0+1+1 : Nat)).int (cel ls.xs i.toNat (0+1+1+1 : Nat)).int s h) (K (0+1 : Nat) []) (Ar .i64 (i + (1 : Int)) fun z => A [.i but, .i z, .ro _ ls, .ro _ km, .ro _ si, .ro _ ac, .ro _ ws, .ro _ ps, .i tm, .i l, .i c, .i s, .i h, .i st]))) (Vif (decide ((cel ls.xs i.toNat (0+1 : Nat)).int = c)) (Pre (Sp.Small (cel ls.xs i.toNat (0+1+1 : Nat)).int /\ Sp.Small (cel ls.xs i.toNat (0+1+1+1 : Nat)).int /\ Sp.Small s /\ Sp.Small h) (Vif (!Sp.apart (cel ls.xs i.toNat (0+1+1 : Nat)).int (cel ls.xs i.toNat (0+1+1+1 : Nat)).int s h) (K (0+1 : Nat) []) (Ar .i64 (i + (1 : Int)) fun z => A [.i but, .i z, .ro _ ls, .ro _ km, .ro _ si, .ro _ ac, .ro _ ws, .ro _ ps, .i tm, .i l, .i c, .i s, .i h, .i st]))) (Ar .i64 (i + (1 : Int)) fun z => A [.i but, .i z, .ro _ ls, .ro _ km, .ro _ si, .ro _ ac, .ro _ ws, .ro _ ps, .i tm, .i l, .i c, .i s, .i h, .i st]))) (Ar .i64 (i + (1 : Int)) fun z => A [.i but, .i z, .ro _ ls, .ro _ km, .ro _ si, .ro _ ac, .ro _ ws, .ro _ ps, .i tm, .i l, .i c, .i s, .i h, .i st])) (Ar .i64 (i + (1 : Int)) fun z => A [.i but, .i z, .ro _ ls, .ro _ km, .ro _ si, .ro _ ac, .ro _ ws, .ro _ ps, .i tm, .i l, .i c, .i s, .i h, .i st])))) (K (0 : Nat) [])
theorem vcl_clear (W : InW) (but i ls km si ac ws ps tm l c s h st A K) : vcTop { cxT Try.prog TT T22 1000 50 with fn := 76 } 1000 (loopAt Try.prog 76 3) (tmOut 51 [(2, .si .i64 but), (3, .ptr 1 0), (4, .ptr 4 0), (7, .si .i64 i)] [6, 8, 9, 10, 11, 12, 13, 14, 15, 16, 17, 18, 19, 20, 21, 22, 23, 24, 25, 26, 27, 28, 29, 30, 31, 32, 33, 34, 35, 36, 37, 38, 39, 40, 41, 42, 43, 44, 45, 46, 47, 48, 49, 50]) [(1, .blk 98 [.rs _ ls, .rs _ km, .rs _ si, .rs _ ac, .rs _ ws, .rs _ ps, .si .i64 tm]), (4, .blk 63 [.si .i64 l, .si .i64 c, .si .i64 s, .si .i64 h, .si .i64 st])] (roundL lc_clear A K) = VCL_clear but i ls km si ac ws ps tm l c s h st A K := by kernel_rfl
def okLt_clear : Prop := ∀ (W : InW) (body a : Code), (Try.prog.funcs[76]?).bind (·.body) = some body -> a ∈ loopsIn body -> keyOf a = 3 -> @LoopOk W Try.prog a (@loopRun W lc_clear)
theorem okl_clear (meas : [InW] -> List Ed -> Nat) (hyp_ : ∀ (W : InW) (but : Int) (i : Int) (ls : Ro Iv5) (km : Ro [.int .i64]) (si : Ro [.int .i64]) (ac : Ro [.int .i64]) (ws : Ro [.int .i64, .int .i64]) (ps : Ro Iv4) (tm : Int) (l : Int) (c : Int) (s : Int) (h : Int) (st : Int) (K : Nat -> List Ed -> Prop), sp_clear [.i but, .i i, .ro _ ls, .ro _ km, .ro _ si, .ro _ ac, .ro _ ws, .ro _ ps, .i tm, .i l, .i c, .i s, .i h, .i st] K -> ∀ A : List Ed -> Prop, (∀ e, meas e < meas [.i but, .i i, .ro _ ls, .ro _ km, .ro _ si, .ro _ ac, .ro _ ws, .ro _ ps, .i tm, .i l, .i c, .i s, .i h, .i st] -> sp_clear e K -> A e) -> VCL_clear but i ls km si ac ws ps tm l c s h st A K) : okLt_clear :=
  LE.okOf' (fun W => @TT W) (fun W => @TT_ok W) mixed_ok T22 1000 50 (by kernel_rfl) lc_clear (fun W => @meas W) fun W but i ls km si ac ws ps tm l c s h st K hs =>
    (vcl_clear W but i ls km si ac ws ps tm l c s h st (fun e => meas e < meas [.i but, .i i, .ro _ ls, .ro _ km, .ro _ si, .ro _ ac, .ro _ ws, .ro _ ps, .i tm, .i l, .i c, .i s, .i h, .i st] /\ sp_clear e K) K).mpr (hyp_ W but i ls km si ac ws ps tm l c s h st K hs _ fun e h1 h2 => ⟨h1, h2⟩)
theorem okLclear : okLt_clear := okl_clear (fun e => match e with | _ :: .i i :: .ro _ ls :: _ => ((ls.xs.length : Int) - i).toNat | _ => 0) fun W but i ls km si ac ws ps tm l c s h st K hs A hA => by
  obtain ⟨⟨h0, h1, h2, h3, h4⟩, hk⟩ := hs;unfold VCL_clear;have hm := ls.len;simp only [maxLen] at hm;simp only [Nat.zero_add, Nat.reduceAdd];refine vifd (fun e => ?_) fun e => ?_
  · rw [show ls.xs.length - i.toNat = (ls.xs.length - (i.toNat + 1)) + 1 by omega] at hk;rw [Sp.blocked, Int.toNat_of_nonneg h0] at hk;have again : (if i = but then false else Sp.way ls.xs i.toNat l c s h) = false -> A [.i but, .i (i + 1), .ro _ ls, .ro _ km, .ro _ si, .ro _ ac, .ro _ ws, .ro _ ps, .i tm, .i l, .i c, .i s, .i h, .i st] := fun f => hA _ (by show ((ls.xs.length : Int) - (i + 1)).toNat < ((ls.xs.length : Int) - i).toNat; omega) ⟨⟨by omega, by omega, h2, h3, h4⟩, by
      rw [show (i + 1).toNat = i.toNat + 1 by omega];rw [f, Bool.false_or] at hk;exact hk⟩
    have stop : (if i = but then false else Sp.way ls.xs i.toNat l c s h) = true -> K 1 [] := fun f => hk.1 (by rw [f]; rfl);clear hk hA;have hp : Sp.Small (cel ls.xs i.toNat 2).int /\ Sp.Small (cel ls.xs i.toNat 3).int /\ Sp.Small s /\ Sp.Small h := ⟨(h4 _).1, (h4 _).2, h2, h3⟩;refine ned (by simp; omega) (nedd (by omega) (vif (fun e2 => ?_) fun e2 => ar64 (by omega) (again (if_pos (by simpa using e2)))));have e2' : ¬ i = but := by simpa using e2
    rw [if_neg e2'] at again stop;unfold Sp.way at again stop;refine vifd (fun e3 => ?_) fun e3 => ar64 (by omega) (again (if_neg e3));rw [if_pos e3] at again stop;refine vifd (fun e4 => ⟨hp, vif (fun e5 => stop (by rw [if_pos (.inl e4)]; exact e5)) fun e5 => ar64 (by omega) (again (by rw [if_pos (.inl e4)]; exact e5))⟩) fun e4 => vifd (fun e6 => ⟨hp, vif (fun e5 => stop (by rw [if_pos (.inr e6)]; exact e5)) fun e5 => ar64 (by omega) (again (by rw [if_pos (.inr e6)]; exact e5))⟩) fun e6 => ar64 (by omega) (again (if_neg (fun hh => hh.elim e4 e6)))
  · rw [show ls.xs.length - i.toNat = 0 by omega] at hk;exact hk.2 rfl
noncomputable def le_clear : LE Try.prog := ⟨76, 3, fun W => @loopRun W lc_clear, okLclear⟩
noncomputable def T23 : Tab Try.prog := ⟨T22.pcs, [le_clear], []⟩
def VC_clear [W : InW] (b_Lessons : Ro [.int .i64, .int .i64, .int .i64, .int .i64, .int .i64]) (b_Km b_Since b_Accounts : Ro [.int .i64]) (b_Weathers : Ro [.int .i64, .int .i64]) (b_Postings : Ro [.int .i64, .int .i64, .int .i64, .int .i64]) (b_Time x_Learner x_Car x_Start x_Hours x_State but : Int) (Q : DS -> Prop) : Prop :=
  Pre ((0 : Int) <= (0 : Int) /\ (0 : Int) <= (↑(b_Lessons.xs.length) : Int) /\ Sp.Small x_Start /\ Sp.Small x_Hours /\ ∀ (j : Nat), Sp.Small (cel (rsK._proof_1 [Ty.int IntKind.i64, Ty.int IntKind.i64, Ty.int IntKind.i64, Ty.int IntKind.i64, Ty.int IntKind.i64] [Ty.int IntKind.i64, Ty.int IntKind.i64, Ty.int IntKind.i64, Ty.int IntKind.i64, Ty.int IntKind.i64] rfl ▸ b_Lessons).xs j (2 : Nat)).int /\ Sp.Small (cel (rsK._proof_1 [Ty.int IntKind.i64, Ty.int IntKind.i64, Ty.int IntKind.i64, Ty.int IntKind.i64, Ty.int IntKind.i64] [Ty.int IntKind.i64, Ty.int IntKind.i64, Ty.int IntKind.i64, Ty.int IntKind.i64, Ty.int IntKind.i64] rfl ▸ b_Lessons).xs j (3 : Nat)).int) (Vif (Sp.blocked b_Lessons.xs but x_Learner x_Car x_Start x_Hours (Int.toNat (0 : Int)) (b_Lessons.xs.length - Int.toNat (0 : Int))) (Q [[Cl.b false]]) (Q [[Cl.b true]]))
theorem vc_clear (W : InW) (b_Lessons b_Km b_Since b_Accounts b_Weathers b_Postings b_Time x_Learner x_Car x_Start x_Hours x_State but Q) : bodyK (cxT Try.prog TT T23 1000 50) 1000 76 [.agg [.rs _ b_Lessons, .rs _ b_Km, .rs _ b_Since, .rs _ b_Accounts, .rs _ b_Weathers, .rs _ b_Postings, .si .i64 b_Time], .agg [.si .i64 x_Learner, .si .i64 x_Car, .si .i64 x_Start, .si .i64 x_Hours, .si .i64 x_State], .si .i64 but] [] 0 (leafK [(false, [.bool])] Q) (fun _ _ _ _ => Stuck 421) = VC_clear b_Lessons b_Km b_Since b_Accounts b_Weathers b_Postings b_Time x_Learner x_Car x_Start x_Hours x_State but Q := by kernel_rfl
abbrev ats_clear : List AT := [.agg [.sl Iv5, .sl [.int .i64], .sl [.int .i64], .sl [.int .i64], .sl [.int .i64, .int .i64], .sl Iv4, .int .i64], .agg [.int .i64, .int .i64, .int .i64, .int .i64, .int .i64], .one (.int .i64)]
theorem ok_clear {pre : DS -> Prop} {res : DS -> DS} (hyp_ : ∀ (W : InW) (b_Lessons : Ro Iv5) (b_Km : Ro [.int .i64]) (b_Since : Ro [.int .i64]) (b_Accounts : Ro [.int .i64]) (b_Weathers : Ro [.int .i64, .int .i64]) (b_Postings : Ro Iv4) (b_Time : Int) (x_Learner : Int) (x_Car : Int) (x_Start : Int) (x_Hours : Int) (x_State : Int) (but : Int), pre [[.l b_Lessons.xs, .l b_Km.xs, .l b_Since.xs, .l b_Accounts.xs, .l b_Weathers.xs, .l b_Postings.xs, .i b_Time], [.i x_Learner, .i x_Car, .i x_Start, .i x_Hours, .i x_State], [.i but]] -> ∀ Q : DS -> Prop, Q (res [[.l b_Lessons.xs, .l b_Km.xs, .l b_Since.xs, .l b_Accounts.xs, .l b_Weathers.xs, .l b_Postings.xs, .i b_Time], [.i x_Learner, .i x_Car, .i x_Start, .i x_Hours, .i x_State], [.i but]]) -> VC_clear b_Lessons b_Km b_Since b_Accounts b_Weathers b_Postings b_Time x_Learner x_Car x_Start x_Hours x_State but Q) : PureOk Try.prog 76 ats_clear [(false, [.bool])] pre res :=
  PureOk.of' (fun W => @TT W) (fun W => @TT_ok W) mixed_ok T23 1000 50 fun W b_Lessons b_Km b_Since b_Accounts b_Weathers b_Postings b_Time x_Learner x_Car x_Start x_Hours x_State but hp =>
    (vc_clear W b_Lessons b_Km b_Since b_Accounts b_Weathers b_Postings b_Time x_Learner x_Car x_Start x_Hours x_State but (fun o => o = res [[.l b_Lessons.xs, .l b_Km.xs, .l b_Since.xs, .l b_Accounts.xs, .l b_Weathers.xs, .l b_Postings.xs, .i b_Time], [.i x_Learner, .i x_Car, .i x_Start, .i x_Hours, .i x_State], [.i but]])).mpr (hyp_ W b_Lessons b_Km b_Since b_Accounts b_Weathers b_Postings b_Time x_Learner x_Car x_Start x_Hours x_State but hp _ rfl)
abbrev res_clear (ds : DS) : DS := match ds with | [[.l ls, _, _, _, _, _, _], [.i l, .i c, .i s, .i h, _], [.i but]] => [[.b (!Sp.blocked ls but l c s h 0 ls.length)]] | _ => []
abbrev pre_clear (ds : DS) : Prop := match ds with | [[.l ls, _, _, _, _, _, _], [_, _, .i s, .i h, _], _] => Sp.Small s /\ Sp.Small h /\ ∀ j, Sp.Small (cel ls j 2).int /\ Sp.Small (cel ls j 3).int | _ => False
theorem okclear : PureOk Try.prog 76 ats_clear [(false, [.bool])] pre_clear res_clear :=
  ok_clear fun W ls _ _ _ _ _ _ l c s h _ but hp Q hh => by
    obtain ⟨h1, h2, h3⟩ := hp;unfold VC_clear;rw [show Int.toNat 0 = 0 from rfl, Nat.sub_zero];refine ⟨⟨by omega, by omega, h1, h2, h3⟩, vif (fun e => ?_) fun e => ?_⟩
    · simp only [res_clear, e] at hh; exact hh
    · simp only [res_clear, e] at hh; exact hh
noncomputable def pc_clear : PC Try.prog := ⟨76, ats_clear, [(false, [.bool])], pre_clear, res_clear, okclear⟩
open Go.RowKit
set_option maxRecDepth 100000
namespace Sp
def booked (rl rc : Dt) (lo hi : Int) (ls ws : Dt) (at_ l c s h : Int) : Int :=
  if !(inr l 0 ((rl.length : Int) - 1) && inr c 0 ((rc.length : Int) - 1)) then 4
  else if !(inr h 1 4 && inr s 0 4800) then 7
  else if s <= at_ then 2
  else if !fits lo hi s h then 2
  else if wet (cel rc c.toNat 3).int ws (s.tdiv 24) 0 ws.length then 9
  else if blocked ls (-1) l c s h 0 ls.length then 5 else 0
end Sp
noncomputable def T24 : Tab Try.prog := ⟨pc_clear :: T22.pcs, [], []⟩
def VC_booked [W : InW] (s_Learners : Ro [.str]) (s_Cars : Ro Ivs) (s_Price s_Excess s_Lo s_Hi : Int) (s_Terms : Ro [.int .i64, .int .i64]) (b_Lessons : Ro Iv5) (b_Km b_Since b_Accounts : Ro [.int .i64]) (b_Weathers : Ro [.int .i64, .int .i64]) (b_Postings : Ro Iv4) (b_Time at_ x_Learner x_Car x_Start x_Hours x_State : Int) (Q : DS -> Prop) : Prop :=
  Ar .i64 ((↑(s_Learners.xs.length) : Int) - (1 : Int)) fun z => Pre True (Vif (!Sp.inr x_Learner (0 : Int) z) (Q [[Cl.i (4 : Int)]]) (Ar .i64 ((↑(s_Cars.xs.length) : Int) - (1 : Int)) fun z => Pre True (Vif (!Sp.inr x_Car (0 : Int) z) (Q [[Cl.i (4 : Int)]]) (Pre True (Vif (!Sp.inr x_Hours (1 : Int) (4 : Int)) (Q [[Cl.i (7 : Int)]]) (Pre True (Vif (!Sp.inr x_Start (0 : Int) (4800 : Int)) (Q [[Cl.i (7 : Int)]]) (Vif (decide (x_Start <= at_)) (Q [[Cl.i (2 : Int)]]) (Pre (Sp.Small x_Hours) (Vif (!Sp.fits s_Lo s_Hi x_Start x_Hours) (Q [[Cl.i (2 : Int)]]) (Ar .i64 (x_Start.tdiv (24 : Int)) fun z => Pre ((0 : Int) <= x_Car /\ x_Car < (↑(s_Cars.xs.length) : Int) /\ Sp.I64 (cel s_Cars.xs x_Car.toNat (3 : Nat)).int /\ ∀ (j : Nat), Sp.Small (cel b_Weathers.xs j (1 : Nat)).int) (Vif (!!Sp.wet (cel s_Cars.xs x_Car.toNat (3 : Nat)).int b_Weathers.xs z (0 : Nat) (b_Weathers.xs.length)) (Q [[Cl.i (9 : Int)]]) (Pre (Sp.Small x_Start /\ Sp.Small x_Hours /\ ∀ (j : Nat), Sp.Small (cel b_Lessons.xs j (2 : Nat)).int /\ Sp.Small (cel b_Lessons.xs j (3 : Nat)).int) (Vif (!!Sp.blocked b_Lessons.xs (-1 : Int) x_Learner x_Car x_Start x_Hours (0 : Nat) (b_Lessons.xs.length)) (Q [[Cl.i (5 : Int)]]) (Q [[Cl.i (0 : Int)]])))))))))))))))
theorem vc_booked (W : InW) (s_Learners s_Cars s_Price s_Excess s_Lo s_Hi s_Terms b_Lessons b_Km b_Since b_Accounts b_Weathers b_Postings b_Time at_ x_Learner x_Car x_Start x_Hours x_State Q) : bodyK (cxT Try.prog TT T24 1000 50) 1000 56 [.agg [.rs _ s_Learners, .rs _ s_Cars, .si .i64 s_Price, .si .i64 s_Excess, .si .i64 s_Lo, .si .i64 s_Hi, .rs _ s_Terms], .agg [.rs _ b_Lessons, .rs _ b_Km, .rs _ b_Since, .rs _ b_Accounts, .rs _ b_Weathers, .rs _ b_Postings, .si .i64 b_Time], .si .i64 at_, .agg [.si .i64 x_Learner, .si .i64 x_Car, .si .i64 x_Start, .si .i64 x_Hours, .si .i64 x_State]] [] 0 (leafK [(false, [.int .i64])] Q) (fun _ _ _ _ => Stuck 421) = VC_booked s_Learners s_Cars s_Price s_Excess s_Lo s_Hi s_Terms b_Lessons b_Km b_Since b_Accounts b_Weathers b_Postings b_Time at_ x_Learner x_Car x_Start x_Hours x_State Q := by kernel_rfl
abbrev ats_booked : List AT := [.agg [.sl [.str], .sl Ivs, .int .i64, .int .i64, .int .i64, .int .i64, .sl [.int .i64, .int .i64]], .agg [.sl Iv5, .sl [.int .i64], .sl [.int .i64], .sl [.int .i64], .sl [.int .i64, .int .i64], .sl Iv4, .int .i64], .one (.int .i64), .agg [.int .i64, .int .i64, .int .i64, .int .i64, .int .i64]]
theorem ok_booked {pre : DS -> Prop} {res : DS -> DS} (hyp_ : ∀ (W : InW) (s_Learners : Ro [.str]) (s_Cars : Ro Ivs) (s_Price : Int) (s_Excess : Int) (s_Lo : Int) (s_Hi : Int) (s_Terms : Ro [.int .i64, .int .i64]) (b_Lessons : Ro Iv5) (b_Km : Ro [.int .i64]) (b_Since : Ro [.int .i64]) (b_Accounts : Ro [.int .i64]) (b_Weathers : Ro [.int .i64, .int .i64]) (b_Postings : Ro Iv4) (b_Time : Int) (at_ : Int) (x_Learner : Int) (x_Car : Int) (x_Start : Int) (x_Hours : Int) (x_State : Int), pre [[.l s_Learners.xs, .l s_Cars.xs, .i s_Price, .i s_Excess, .i s_Lo, .i s_Hi, .l s_Terms.xs], [.l b_Lessons.xs, .l b_Km.xs, .l b_Since.xs, .l b_Accounts.xs, .l b_Weathers.xs, .l b_Postings.xs, .i b_Time], [.i at_], [.i x_Learner, .i x_Car, .i x_Start, .i x_Hours, .i x_State]] -> ∀ Q : DS -> Prop, Q (res [[.l s_Learners.xs, .l s_Cars.xs, .i s_Price, .i s_Excess, .i s_Lo, .i s_Hi, .l s_Terms.xs], [.l b_Lessons.xs, .l b_Km.xs, .l b_Since.xs, .l b_Accounts.xs, .l b_Weathers.xs, .l b_Postings.xs, .i b_Time], [.i at_], [.i x_Learner, .i x_Car, .i x_Start, .i x_Hours, .i x_State]]) -> VC_booked s_Learners s_Cars s_Price s_Excess s_Lo s_Hi s_Terms b_Lessons b_Km b_Since b_Accounts b_Weathers b_Postings b_Time at_ x_Learner x_Car x_Start x_Hours x_State Q) : PureOk Try.prog 56 ats_booked [(false, [.int .i64])] pre res :=
  PureOk.of' (fun W => @TT W) (fun W => @TT_ok W) mixed_ok T24 1000 50 fun W s_Learners s_Cars s_Price s_Excess s_Lo s_Hi s_Terms b_Lessons b_Km b_Since b_Accounts b_Weathers b_Postings b_Time at_ x_Learner x_Car x_Start x_Hours x_State hp =>
    (vc_booked W s_Learners s_Cars s_Price s_Excess s_Lo s_Hi s_Terms b_Lessons b_Km b_Since b_Accounts b_Weathers b_Postings b_Time at_ x_Learner x_Car x_Start x_Hours x_State (fun o => o = res [[.l s_Learners.xs, .l s_Cars.xs, .i s_Price, .i s_Excess, .i s_Lo, .i s_Hi, .l s_Terms.xs], [.l b_Lessons.xs, .l b_Km.xs, .l b_Since.xs, .l b_Accounts.xs, .l b_Weathers.xs, .l b_Postings.xs, .i b_Time], [.i at_], [.i x_Learner, .i x_Car, .i x_Start, .i x_Hours, .i x_State]])).mpr (hyp_ W s_Learners s_Cars s_Price s_Excess s_Lo s_Hi s_Terms b_Lessons b_Km b_Since b_Accounts b_Weathers b_Postings b_Time at_ x_Learner x_Car x_Start x_Hours x_State hp _ rfl)
abbrev res_booked (ds : DS) : DS := match ds with | [[.l rl, .l rc, _, _, .i lo, .i hi, _], [.l ls, _, _, _, .l ws, _, _], [.i at_], [.i l, .i c, .i s, .i h, _]] => [[.i (Sp.booked rl rc lo hi ls ws at_ l c s h)]] | _ => []
namespace Sp
structure Calm (rc ls ws : Dt) : Prop where
  never : ∀ j, j < rc.length -> I64 (cel rc j 3).int
  ws : ∀ j, Small (cel ws j 1).int
  ls : ∀ j, Small (cel ls j 2).int /\ Small (cel ls j 3).int
end Sp
abbrev pre_booked (ds : DS) : Prop := match ds with | [[_, .l rc, _, _, _, _, _], [.l ls, _, _, _, .l ws, _, _], _, _] => Sp.Calm rc ls ws | _ => False
theorem okbooked : PureOk Try.prog 56 ats_booked [(false, [.int .i64])] pre_booked res_booked :=
  ok_booked fun W rl rc _ _ lo hi _ ls _ _ _ ws _ _ at_ l c s h _ hp Q hh => by
    have hm := rl.len;have hm2 := rc.len;simp only [maxLen] at hm hm2;unfold VC_booked;simp only [res_booked, Sp.booked] at hh;refine ar64 (by omega) ⟨trivial, vif (fun e1 => ?_) fun e1 => ar64 (by omega) ⟨trivial, vif (fun e2 => ?_) fun e2 => ⟨trivial, vif (fun e3 => ?_) fun e3 => ⟨trivial, vif (fun e4 => ?_) fun e4 => vifd (fun e5 => ?_) fun e5 => ?_⟩⟩⟩⟩
    · simp_all
    · simp_all
    · simp_all
    · simp_all
    · simp_all
    rw [Bool.not_eq_false'] at e1 e2 e3 e4;have r2 := e2;have r3 := e3;have r4 := e4;simp only [Sp.inr, Bool.and_eq_true, decide_eq_true_eq] at r2 r3 r4;rw [if_neg (by simp [e1, e2]), if_neg (by simp [e3, e4]), if_neg e5] at hh;refine ⟨by unfold Sp.Small; omega, vif (fun e6 => ?_) fun e6 => ?_⟩
    · rw [if_pos e6] at hh; exact hh
    rw [if_neg (by rw [e6]; simp)] at hh;have hd : 0 <= s.tdiv 24 /\ s.tdiv 24 <= 4800 := by rw [Int.tdiv_eq_ediv_of_nonneg (by omega)]; omega
    refine ar64 (by omega) ⟨⟨by omega, by omega, hp.never _ (by omega), hp.ws⟩, vif (fun e7 => ?_) fun e7 => ⟨⟨by unfold Sp.Small; omega, by unfold Sp.Small; omega, hp.ls⟩, vif (fun e8 => ?_) fun e8 => ?_⟩⟩
    · rw [Bool.not_not] at e7; rw [if_pos e7] at hh; exact hh
    · rw [Bool.not_not] at e7 e8; rw [if_neg (by rw [e7]; simp), if_pos e8] at hh; exact hh
    · rw [Bool.not_not] at e7 e8; rw [if_neg (by rw [e7]; simp), if_neg (by rw [e8]; simp)] at hh; exact hh
noncomputable def pc_booked : PC Try.prog := ⟨56, ats_booked, [(false, [.int .i64])], pre_booked, res_booked, okbooked⟩
open Go.RowKit
def rfIn : Code -> List LI
  | .seq a b => rfIn a ++ rfIn b
  | .cond _ a b => rfIn a ++ rfIn b
  | .block _ a => rfIn a
  | .loop a => rfIn a
  | .scope a => rfIn a
  | .rangeFunc _ ps asg b => ⟨.ready, none, ps, asg, b⟩ :: rfIn b
  | _ => []
def lpAt (P : Program) (g : FuncId) (k : Nat) : LI := (rfIn (bodyOf P g)).getD k ⟨.ready, none, #[], .skip, .skip⟩
def LI.left (L : LI) (j : Code) : LI := { L with st := .done, pend := some j }
open Go.RowKit
set_option maxRecDepth 100000
namespace Sp
def dryB (rc : Dt) (es : List (Int × Int)) (car hour : Int) : Bool := decide (andI .i64 (cel rc car.toNat 3).int (getI es (hour.tdiv 24)) = 0)
end Sp
noncomputable def TP0 : Tab Try.prog := ⟨[], [], []⟩
def sp_dryP [InW] (e : List Ed) (K : Nat -> List Ed -> Prop) : Prop := match e with
  | [.i car, .i hour, .ro _ rc, .m es] => Pre (0 <= car /\ car < (rc.xs.length : Int) /\ 0 <= hour /\ Sp.Small hour) (K 0 [.b (Sp.dryB rc.xs es car hour), .ro _ rc, .m es])
  | _ => False
noncomputable def cc_dryP : CC where
  g := 73
  args := [(.ptr 1 0), .int .i64, .int .i64]
  H := [(1, .blk 95 [(.opq 22), .rs Ivs, (.opq 25), (.opq 28), (.opq 31), (.opq 34), (.opq 37), (.opq 40), (.opq 43), (.opq 46), (.opq 49), (.mp 16), (.opq 52), (.opq 55), (.opq 58)]), (16, .mpI)]
  outs := [⟨false, .bool, [(1, .blk 95 [(.opq 22), .rs Ivs, (.opq 25), (.opq 28), (.opq 31), (.opq 34), (.opq 37), (.opq 40), (.opq 43), (.opq 46), (.opq 49), (.mp 16), (.opq 52), (.opq 55), (.opq 58)]), (16, .mpI)], false⟩]
  spec := sp_dryP
def VCC_dryP [W : InW] (car hour : Int) (rc : Ro Ivs) (es : List (Int × Int)) (K : Nat -> List Ed -> Prop) : Prop :=
  Need (decide ((0 : Int) <= car) && decide (car < (↑(rc.xs.length) : Int))) (Need (decide (car.toNat < rc.xs.length)) (Ar .i64 (hour.tdiv (24 : Int)) fun z => K (0 : Nat) [.b (decide (andI IntKind.i64 (cel rc.xs car.toNat (nat_lit 2 + (1 : Nat))).int (getI es z) = (0 : Int))), .ro _ rc, .m es]))
theorem vcc_dryP (W : InW) (car hour rc es K) : coreK (cxT Try.prog TT TP0 1000 50) 1000 73 [.ptr 1 0, .si .i64 car, .si .i64 hour] [(1, .blk 95 [.opq 22, .rs _ rc, .opq 25, .opq 28, .opq 31, .opq 34, .opq 37, .opq 40, .opq 43, .opq 46, .opq 49, .mp 16, .opq 52, .opq 55, .opq 58]), (16, .obj (.mpI es))] (fun v h => outC cc_dryP.H [.ro _ rc, .m es] cc_dryP.outs 0 false v h K) (fun v h => outC cc_dryP.H [.ro _ rc, .m es] cc_dryP.outs 0 true v h K) = VCC_dryP car hour rc es K := by kernel_rfl
theorem okc_dryP (hyp_ : ∀ (W : InW) (car : Int) (hour : Int) (rc : Ro Ivs) (es : List (Int × Int)) (K : Nat -> List Ed -> Prop), sp_dryP [.i car, .i hour, .ro _ rc, .m es] K -> VCC_dryP car hour rc es K) : ∀ W : InW, @CallC W Try.prog cc_dryP :=
  CC.okOf (fun W => @TT W) (fun W => @TT_ok W) mixed_ok TP0 1000 50 cc_dryP fun W car hour rc es K hs => (vcc_dryP W car hour rc es K).mpr (hyp_ W car hour rc es K hs)
theorem okdryP : ∀ W : InW, @CallC W Try.prog cc_dryP := okc_dryP fun W car hour rc es K hs => by
  obtain ⟨⟨h1, h2, h3, h4⟩, hk⟩ := hs;unfold VCC_dryP;simp only [Sp.Small] at h4;have h5 : 0 <= hour.tdiv 24 /\ hour.tdiv 24 <= hour := by rw [Int.tdiv_eq_ediv_of_nonneg h3]; omega
  exact ned (by simp; omega) (nedd (by omega) (ar64 (by omega) hk))
noncomputable def ce_dryP : CE Try.prog := ceOf cc_dryP okdryP
noncomputable abbrev LPclr : LI := lpAt Try.prog 74 0
noncomputable abbrev LPclrR : LI := (lpAt Try.prog 74 0).left .ret
def sp_clrP [InW] (e : List Ed) (K : Nat -> List Ed -> Prop) : Prop := match e with
  | [.i n, .i i, .l ls, .i but, .i l, .i c, .i s, .i h, .i st] => Pre (n = (ls.length : Int) /\ 0 <= i /\ i <= n /\ n <= 1000 /\ Sp.Small s /\ Sp.Small h /\ ∀ j, Sp.Small (cel ls j 2).int /\ Sp.Small (cel ls j 3).int)
      (Vif (Sp.blocked ls but l c s h i.toNat (ls.length - i.toNat)) (K 1 [.l ls, .i but, .i l, .i c, .i s, .i h, .i st]) (K 0 [.l ls, .i but, .i l, .i c, .i s, .i h, .i st]))
  | _ => False
noncomputable def lc_clrP : LC where
  len := 26
  T := [(0, (.yl 1)), (9, (.row 4)), (10, .int .i64), (11, .int .i64)]
  H := [(1, .lp LPclr [(.opq 1501), (.opq 1504), (.opq 1507), (.opq 1510), (.ptr 10 0), (.opq 1516), (.ptr 13 0), (.ptr 19 0), (.ptr 22 0), (.opq 324), (.opq 1531), (.opq 1534), (.opq 1537), (.opq 1540), (.opq 339), (.opq 342), (.opq 345), (.opq 348), (.opq 351), (.opq 354), (.opq 357), (.opq 360), (.opq 363), (.opq 366), (.opq 369), (.opq 372), (.opq 375), (.opq 378), (.opq 381)]), (4, .arr 63 Iv5), (10, .blk 90 [(.ptr 28 0)]), (28, .blk 95 [(.opq 1021), (.opq 1060), (.opq 1024), (.opq 1027), (.opq 1030), (.opq 1033), (.opq 1036), (.row 4), (.opq 1042), (.opq 1045), (.opq 1048), (.opq 1063), (.opq 1051), (.opq 1054), (.opq 1057)]), (13, .blk 3 [.int .i64]), (19, .blk 4 [(.lit (.bool false))]), (22, .blk 135 [(.fn (.func 87) [] [(.ptr 31 0)])]), (31, .blk 63 [.int .i64, .int .i64, .int .i64, .int .i64, .int .i64])]
  W := [3, 4, 12, 13, 14, 15, 16, 17, 18, 19, 20, 21, 22, 23, 24, 25]
  outs := [⟨.exit 0, [], [(1, .lp LPclr [(.opq 1501), (.opq 1504), (.opq 1507), (.opq 1510), (.ptr 10 0), (.opq 1516), (.ptr 13 0), (.ptr 19 0), (.ptr 22 0), (.opq 624), (.opq 1531), (.opq 1534), (.opq 1537), (.opq 1540), (.opq 639), (.opq 642), (.opq 645), (.opq 648), (.opq 651), (.opq 654), (.opq 657), (.opq 660), (.opq 663), (.opq 666), (.opq 669), (.opq 672), (.opq 675), (.opq 678), (.opq 681)]), (624, .dead), (639, .dead), (642, .dead), (645, .dead), (648, .dead), (651, .dead), (654, .dead), (657, .dead), (660, .dead), (663, .dead), (666, .dead), (669, .dead), (672, .dead), (675, .dead), (678, .dead), (681, .dead), (4, .arr 63 Iv5), (10, .blk 90 [(.ptr 28 0)]), (28, .blk 95 [(.opq 1021), (.opq 1060), (.opq 1024), (.opq 1027), (.opq 1030), (.opq 1033), (.opq 1036), (.row 4), (.opq 1042), (.opq 1045), (.opq 1048), (.opq 1063), (.opq 1051), (.opq 1054), (.opq 1057)]), (13, .blk 3 [.int .i64]), (19, .blk 4 [(.lit (.bool false))]), (22, .blk 135 [(.fn (.func 87) [] [(.ptr 31 0)])]), (31, .blk 63 [.int .i64, .int .i64, .int .i64, .int .i64, .int .i64])], [0, 3, 4, 9, 10, 11, 12, 13, 14, 15, 16, 17, 18, 19, 20, 21, 22, 23, 24, 25]⟩, ⟨.ret, [], [(1, .lp LPclrR [(.opq 1501), (.opq 1504), (.opq 1507), (.opq 1510), (.ptr 10 0), (.opq 1516), (.ptr 13 0), (.ptr 19 0), (.ptr 22 0), (.opq 624), (.opq 1531), (.opq 1534), (.opq 1537), (.opq 1540), (.opq 639), (.opq 642), (.opq 645), (.opq 648), (.opq 651), (.opq 654), (.opq 657), (.opq 660), (.opq 663), (.opq 666), (.opq 669), (.opq 672), (.opq 675), (.opq 678), (.opq 681)]), (624, .dead), (639, .dead), (642, .dead), (645, .dead), (648, .dead), (651, .dead), (654, .dead), (657, .dead), (660, .dead), (663, .dead), (666, .dead), (669, .dead), (672, .dead), (675, .dead), (678, .dead), (681, .dead), (4, .arr 63 Iv5), (10, .blk 90 [(.ptr 28 0)]), (28, .blk 95 [(.opq 1021), (.opq 1060), (.opq 1024), (.opq 1027), (.opq 1030), (.opq 1033), (.opq 1036), (.row 4), (.opq 1042), (.opq 1045), (.opq 1048), (.opq 1063), (.opq 1051), (.opq 1054), (.opq 1057)]), (13, .blk 3 [.int .i64]), (19, .blk 4 [(.lit (.bool false))]), (22, .blk 135 [(.fn (.func 87) [] [(.ptr 31 0)])]), (31, .blk 63 [.int .i64, .int .i64, .int .i64, .int .i64, .int .i64])], [0, 3, 4, 9, 10, 11, 12, 13, 14, 15, 16, 17, 18, 19, 20, 21, 22, 23, 24, 25]⟩]
  spec := sp_clrP
def VCL_clrP [W : InW] (n i : Int) (ls : Dt) (but l c s h st : Int) (A : List Ed -> Prop) (K : Nat -> List Ed -> Prop) : Prop :=
  Vif (decide (i < n)) (Need (decide ((0 : Int) <= i) && decide (i < (↑(ls.length) : Int))) (Need (decide (i.toNat < ls.length)) (Vif (decide ((cel ls i.toNat (0+1+1+1+1 : Nat)).int = (0 : Int))) (Vif (!decide (i = but)) (Need (decide ((0 : Int) <= i) && decide (i < (↑(ls.length) : Int))) (Need (decide (i.toNat < ls.length)) (Vif (decide ((cel ls i.toNat (0 : Nat)).int = l)) (Ar .i64 (s + h) fun z => Vif (decide ((cel ls i.toNat (0+1+1 : Nat)).int < z)) (Ar .i64 ((cel ls i.toNat (0+1+1 : Nat)).int + (cel ls i.toNat (0+1+1+1 : Nat)).int) fun z => Vif (decide (s < z)) (PreL LPclrR LPclrR (K (0+1 : Nat) [.l ls, .i but, .i l, .i c, .i s, .i h, .i st])) (Ar .i64 (i + (1 : Int)) fun z => PreL LPclr LPclr (A [.i n, .i z, .l ls, .i but, .i l, .i c, .i s, .i h, .i st]))) (Ar .i64 (i + (1 : Int)) fun z => PreL LPclr LPclr (A [.i n, .i z, .l ls, .i but, .i l, .i c, .i s, .i h, .i st]))) (Vif (decide ((cel ls i.toNat (0+1 : Nat)).int = c)) (Ar .i64 (s + h) fun z => Vif (decide ((cel ls i.toNat (0+1+1 : Nat)).int < z)) (Ar .i64 ((cel ls i.toNat (0+1+1 : Nat)).int + (cel ls i.toNat (0+1+1+1 : Nat)).int) fun z => Vif (decide (s < z)) (PreL LPclrR LPclrR (K (0+1 : Nat) [.l ls, .i but, .i l, .i c, .i s, .i h, .i st])) (Ar .i64 (i + (1 : Int)) fun z => PreL LPclr LPclr (A [.i n, .i z, .l ls, .i but, .i l, .i c, .i s, .i h, .i st]))) (Ar .i64 (i + (1 : Int)) fun z => PreL LPclr LPclr (A [.i n, .i z, .l ls, .i but, .i l, .i c, .i s, .i h, .i st]))) (Ar .i64 (i + (1 : Int)) fun z => PreL LPclr LPclr (A [.i n, .i z, .l ls, .i but, .i l, .i c, .i s, .i h, .i st])))))) (Ar .i64 (i + (1 : Int)) fun z => PreL LPclr LPclr (A [.i n, .i z, .l ls, .i but, .i l, .i c, .i s, .i h, .i st]))) (Ar .i64 (i + (1 : Int)) fun z => PreL LPclr LPclr (A [.i n, .i z, .l ls, .i but, .i l, .i c, .i s, .i h, .i st]))))) (PreL LPclr LPclr (K (0 : Nat) [.l ls, .i but, .i l, .i c, .i s, .i h, .i st]))
theorem vcl_clrP (W : InW) (n i ls but l c s h st A K) : vcTop { cxT Try.prog TT TP0 1000 50 with fn := 97 } 1000 (loopAt Try.prog 97 2) (tmOut 26 [(0, .yl 1), (9, .rw 4), (10, .si .i64 n), (11, .si .i64 i)] [3, 4, 12, 13, 14, 15, 16, 17, 18, 19, 20, 21, 22, 23, 24, 25]) [(1, .lp LPclr [.opq 1501, .opq 1504, .opq 1507, .opq 1510, .ptr 10 0, .opq 1516, .ptr 13 0, .ptr 19 0, .ptr 22 0, .opq 324, .opq 1531, .opq 1534, .opq 1537, .opq 1540, .opq 339, .opq 342, .opq 345, .opq 348, .opq 351, .opq 354, .opq 357, .opq 360, .opq 363, .opq 366, .opq 369, .opq 372, .opq 375, .opq 378, .opq 381]), (4, .arr 63 Iv5 ls), (10, .blk 90 [.ptr 28 0]), (28, .blk 95 [.opq 1021, .opq 1060, .opq 1024, .opq 1027, .opq 1030, .opq 1033, .opq 1036, .rw 4, .opq 1042, .opq 1045, .opq 1048, .opq 1063, .opq 1051, .opq 1054, .opq 1057]), (13, .blk 3 [.si .i64 but]), (19, .blk 4 [.v (.bool false)]), (22, .blk 135 [.fn (.func 87) [] [.ptr 31 0]]), (31, .blk 63 [.si .i64 l, .si .i64 c, .si .i64 s, .si .i64 h, .si .i64 st])] (roundL lc_clrP A K) = VCL_clrP n i ls but l c s h st A K := by kernel_rfl
def okLt_clrP : Prop := ∀ (W : InW) (body a : Code), (Try.prog.funcs[97]?).bind (·.body) = some body -> a ∈ loopsIn body -> keyOf a = 2 -> @LoopOk W Try.prog a (@loopRun W lc_clrP)
theorem okl_clrP (meas : [InW] -> List Ed -> Nat) (hyp_ : ∀ (W : InW) (n : Int) (i : Int) (ls : Dt) (but : Int) (l : Int) (c : Int) (s : Int) (h : Int) (st : Int) (K : Nat -> List Ed -> Prop), sp_clrP [.i n, .i i, .l ls, .i but, .i l, .i c, .i s, .i h, .i st] K -> ∀ A : List Ed -> Prop, (∀ e, meas e < meas [.i n, .i i, .l ls, .i but, .i l, .i c, .i s, .i h, .i st] -> sp_clrP e K -> A e) -> VCL_clrP n i ls but l c s h st A K) : okLt_clrP :=
  LE.okOf' (fun W => @TT W) (fun W => @TT_ok W) mixed_ok TP0 1000 50 (by kernel_rfl) lc_clrP (fun W => @meas W) fun W n i ls but l c s h st K hs =>
    (vcl_clrP W n i ls but l c s h st (fun e => meas e < meas [.i n, .i i, .l ls, .i but, .i l, .i c, .i s, .i h, .i st] /\ sp_clrP e K) K).mpr (hyp_ W n i ls but l c s h st K hs _ fun e h1 h2 => ⟨h1, h2⟩)
theorem okLclrP : okLt_clrP := okl_clrP (fun e => match e with | .i n :: .i i :: _ => (n - i).toNat | _ => 0) fun W n i ls but l c s h st K hs A hA => by
  obtain ⟨⟨rfl, h0, h1, hm, h2, h3, h4⟩, hk⟩ := hs;unfold VCL_clrP;simp only [Nat.zero_add, Nat.reduceAdd];refine vifd (fun e => ?_) fun e => ?_
  · rw [show ls.length - i.toNat = (ls.length - (i.toNat + 1)) + 1 by omega] at hk;rw [Sp.blocked, Int.toNat_of_nonneg h0] at hk;have again : (if i = but then false else Sp.way ls i.toNat l c s h) = false -> A [.i (ls.length : Int), .i (i + 1), .l ls, .i but, .i l, .i c, .i s, .i h, .i st] := fun f => hA _ (by show ((ls.length : Int) - (i + 1)).toNat < ((ls.length : Int) - i).toNat; omega) ⟨⟨rfl, by omega, by omega, hm, h2, h3, h4⟩, by
      rw [show (i + 1).toNat = i.toNat + 1 by omega];rw [f, Bool.false_or] at hk;exact hk⟩
    have stop : (if i = but then false else Sp.way ls i.toNat l c s h) = true -> K 1 [.l ls, .i but, .i l, .i c, .i s, .i h, .i st] := fun f => hk.1 (by rw [f]; rfl);clear hk hA;have hx := h4 i.toNat;simp only [Sp.Small] at hx h2 h3;have next : (if i = but then false else Sp.way ls i.toNat l c s h) = false -> Ar IntKind.i64 (i + 1) fun z => PreL LPclr LPclr (A [.i (ls.length : Int), .i z, .l ls, .i but, .i l, .i c, .i s, .i h, .i st]) := fun f => ar64 (by omega) ⟨rfl, again f⟩
    unfold Sp.way Sp.apart at next stop
    have test : ∀ hc : (cel ls i.toNat 0).int = l \/ (cel ls i.toNat 1).int = c, (cel ls i.toNat 4).int = 0 -> ¬ i = but -> Ar IntKind.i64 (s + h) fun z => Vif (decide ((cel ls i.toNat 2).int < z)) (Ar IntKind.i64 ((cel ls i.toNat 2).int + (cel ls i.toNat 3).int) fun z => Vif (decide (s < z)) (PreL LPclrR LPclrR (K 1 [.l ls, .i but, .i l, .i c, .i s, .i h, .i st])) (Ar IntKind.i64 (i + 1) fun z => PreL LPclr LPclr (A [.i (ls.length : Int), .i z, .l ls, .i but, .i l, .i c, .i s, .i h, .i st]))) (Ar IntKind.i64 (i + 1) fun z => PreL LPclr LPclr (A [.i (ls.length : Int), .i z, .l ls, .i but, .i l, .i c, .i s, .i h, .i st])) := fun hc hs hb => by
      rw [if_neg hb, if_pos hs, if_pos hc] at next stop
      refine ar64 (by omega) (vifd (fun e1 => ar64 (by omega) (vifd (fun e2 => ⟨rfl, stop ?_⟩) fun e2 => next ?_)) fun e1 => next ?_)
      · simp; omega
      · simp; omega
      · simp; omega
    refine ned (by simp; omega) (nedd (by omega) (vifd (fun e1 => vif (fun e2 => ?_) fun e2 => next (if_pos (by simpa using e2))) fun e1 => next ?_))
    · have hb : ¬ i = but := by simpa using e2
      refine ned (by simp; omega) (nedd (by omega) (vifd (fun e3 => test (.inl e3) e1 hb) fun e3 => vifd (fun e4 => test (.inr e4) e1 hb) fun e4 => next ?_));rw [if_neg hb, if_pos e1, if_neg (fun hh => hh.elim e3 e4)]
    · rw [if_neg e1]; split <;> rfl
  · rw [show ls.length - i.toNat = 0 by omega] at hk;exact ⟨rfl, hk.2 rfl⟩
noncomputable def le_clrP : LE Try.prog := ⟨97, 2, fun W => @loopRun W lc_clrP, okLclrP⟩
noncomputable def TP1 : Tab Try.prog := ⟨[], [le_clrP], []⟩
def sp_clear74 [InW] (e : List Ed) (K : Nat -> List Ed -> Prop) : Prop := match e with
  | [.i l, .i c, .i s, .i h, .i st, .i but, .l ls] => Pre ((ls.length : Int) <= 1000 /\ Sp.Small s /\ Sp.Small h /\ ∀ j, Sp.Small (cel ls j 2).int /\ Sp.Small (cel ls j 3).int) (K 0 [.b (!Sp.blocked ls but l c s h 0 ls.length), .l ls])
  | _ => False
noncomputable def cc_clear74 : CC where
  g := 74
  args := [(.ptr 1 0), .agg [.int .i64, .int .i64, .int .i64, .int .i64, .int .i64], .int .i64]
  H := [(1, .blk 95 [(.opq 1021), (.opq 1060), (.opq 1024), (.opq 1027), (.opq 1030), (.opq 1033), (.opq 1036), (.row 4), (.opq 1042), (.opq 1045), (.opq 1048), (.opq 1063), (.opq 1051), (.opq 1054), (.opq 1057)]), (4, .arr 63 Iv5)]
  outs := [⟨false, .bool, [(1, .blk 95 [(.opq 1021), (.opq 1060), (.opq 1024), (.opq 1027), (.opq 1030), (.opq 1033), (.opq 1036), (.row 4), (.opq 1042), (.opq 1045), (.opq 1048), (.opq 1063), (.opq 1051), (.opq 1054), (.opq 1057)]), (4, .arr 63 Iv5)], false⟩]
  spec := sp_clear74
def VCC_clear74 [W : InW] (l c s h st but : Int) (ls : Dt) (K : Nat -> List Ed -> Prop) : Prop :=
  PreL LPclr LPclr (Pre ((↑(ls.length) : Int) = (↑(ls.length) : Int) /\ (0 : Int) <= (0 : Int) /\ (0 : Int) <= (↑(ls.length) : Int) /\ (↑(ls.length) : Int) <= (1000 : Int) /\ Sp.Small s /\ Sp.Small h /\ ∀ (j : Nat), Sp.Small (cel ls j (2 : Nat)).int /\ Sp.Small (cel ls j (3 : Nat)).int) (Vif (Sp.blocked ls but l c s h (Int.toNat (0 : Int)) (ls.length - Int.toNat (0 : Int))) (K (0 : Nat) [.b false, .l ls]) (K (0 : Nat) [.b true, .l ls])))
theorem vcc_clear74 (W : InW) (l c s h st but ls K) : coreK (cxT Try.prog TT TP1 1000 50) 1000 74 [.ptr 1 0, .agg [.si .i64 l, .si .i64 c, .si .i64 s, .si .i64 h, .si .i64 st], .si .i64 but] [(1, .blk 95 [.opq 1021, .opq 1060, .opq 1024, .opq 1027, .opq 1030, .opq 1033, .opq 1036, .rw 4, .opq 1042, .opq 1045, .opq 1048, .opq 1063, .opq 1051, .opq 1054, .opq 1057]), (4, .arr 63 Iv5 ls)] (fun v h => outC cc_clear74.H [.l ls] cc_clear74.outs 0 false v h K) (fun v h => outC cc_clear74.H [.l ls] cc_clear74.outs 0 true v h K) = VCC_clear74 l c s h st but ls K := by kernel_rfl
theorem okc_clear74 (hyp_ : ∀ (W : InW) (l : Int) (c : Int) (s : Int) (h : Int) (st : Int) (but : Int) (ls : Dt) (K : Nat -> List Ed -> Prop), sp_clear74 [.i l, .i c, .i s, .i h, .i st, .i but, .l ls] K -> VCC_clear74 l c s h st but ls K) : ∀ W : InW, @CallC W Try.prog cc_clear74 :=
  CC.okOf (fun W => @TT W) (fun W => @TT_ok W) mixed_ok TP1 1000 50 cc_clear74 fun W l c s h st but ls K hs => (vcc_clear74 W l c s h st but ls K).mpr (hyp_ W l c s h st but ls K hs)
theorem okclear74 : ∀ W : InW, @CallC W Try.prog cc_clear74 := okc_clear74 fun W l c s h st but ls K hs => by
  obtain ⟨⟨h1, h2, h3, h4⟩, hk⟩ := hs;unfold VCC_clear74;refine ⟨rfl, ⟨rfl, by omega, by omega, h1, h2, h3, h4⟩, ?_⟩;exact vif (fun e => by rw [show Int.toNat 0 = 0 from rfl, Nat.sub_zero] at e; rw [e] at hk; exact hk) fun e => by rw [show Int.toNat 0 = 0 from rfl, Nat.sub_zero] at e; rw [e] at hk; exact hk
noncomputable def ce_clear74 : CE Try.prog := ceOf cc_clear74 okclear74
noncomputable def TP2 : Tab Try.prog := ⟨[pc_out], [], [ce_dryP, ce_clear74]⟩
namespace Sp
def canE (rl rc : Dt) (lo hi : Int) (ls : Dt) (es : List (Int × Int)) (at_ l c s h : Int) : Int :=
  if !(inr l 0 ((rl.length : Int) - 1) && inr c 0 ((rc.length : Int) - 1)) then 4
  else if !(inr h 1 4 && inr s 0 4800) then 7
  else if s <= at_ then 2
  else if !fits lo hi s h then 2
  else if !dryB rc es c s then 9
  else if blocked ls (-1) l c s h 0 ls.length then 5 else 0
structure CalmP (ls : Dt) : Prop where
  many : (ls.length : Int) <= 1000
  ls : ∀ j, Small (cel ls j 2).int /\ Small (cel ls j 3).int
end Sp
def sp_can [InW] (e : List Ed) (K : Nat -> List Ed -> Prop) : Prop := match e with
  | [.i l, .i c, .i s, .i h, .i st, .i at_, .ro _ rl, .ro _ rc, .i lo, .i hi, .l ls, .m es] => Pre (Sp.CalmP ls)
      (Vif (decide (Sp.canE rl.xs rc.xs lo hi ls es at_ l c s h = 0)) (K 0 [.ro _ rl, .ro _ rc, .i lo, .i hi, .l ls, .m es])
      (Vif (decide (Sp.canE rl.xs rc.xs lo hi ls es at_ l c s h = 4)) (K 1 [.ro _ rl, .ro _ rc, .i lo, .i hi, .l ls, .m es])
      (Vif (decide (Sp.canE rl.xs rc.xs lo hi ls es at_ l c s h = 7)) (K 2 [.ro _ rl, .ro _ rc, .i lo, .i hi, .l ls, .m es])
      (Vif (decide (Sp.canE rl.xs rc.xs lo hi ls es at_ l c s h = 2)) (K 3 [.ro _ rl, .ro _ rc, .i lo, .i hi, .l ls, .m es])
      (Vif (decide (Sp.canE rl.xs rc.xs lo hi ls es at_ l c s h = 9)) (K 4 [.ro _ rl, .ro _ rc, .i lo, .i hi, .l ls, .m es])
      (K 5 [.ro _ rl, .ro _ rc, .i lo, .i hi, .l ls, .m es]))))))
  | _ => False
noncomputable def cc_can : CC where
  g := 55
  args := [(.ptr 1 0), .agg [.int .i64, .int .i64, .int .i64, .int .i64, .int .i64], .int .i64]
  H := [(1, .blk 95 [.rs [.str], .rs Ivs, (.opq 1024), (.opq 1027), .int .i64, .int .i64, (.opq 1036), (.row 4), (.opq 1042), (.opq 1045), (.opq 1048), (.mp 16), (.opq 1051), (.opq 1054), (.opq 1057)]), (4, .arr 63 Iv5), (16, .mpI)]
  outs := [⟨false, .tup [], [(1, .blk 95 [.rs [.str], .rs Ivs, (.opq 1024), (.opq 1027), .int .i64, .int .i64, (.opq 1036), (.row 4), (.opq 1042), (.opq 1045), (.opq 1048), (.mp 16), (.opq 1051), (.opq 1054), (.opq 1057)]), (4, .arr 63 Iv5), (16, .mpI)], false⟩, ⟨true, (.lit (.iface 30 (.int .i64 4))), [(1, .blk 95 [.rs [.str], .rs Ivs, (.opq 1024), (.opq 1027), .int .i64, .int .i64, (.opq 1036), (.row 4), (.opq 1042), (.opq 1045), (.opq 1048), (.mp 16), (.opq 1051), (.opq 1054), (.opq 1057)]), (4, .arr 63 Iv5), (16, .mpI)], false⟩, ⟨true, (.lit (.iface 30 (.int .i64 7))), [(1, .blk 95 [.rs [.str], .rs Ivs, (.opq 1024), (.opq 1027), .int .i64, .int .i64, (.opq 1036), (.row 4), (.opq 1042), (.opq 1045), (.opq 1048), (.mp 16), (.opq 1051), (.opq 1054), (.opq 1057)]), (4, .arr 63 Iv5), (16, .mpI)], false⟩, ⟨true, (.lit (.iface 30 (.int .i64 2))), [(1, .blk 95 [.rs [.str], .rs Ivs, (.opq 1024), (.opq 1027), .int .i64, .int .i64, (.opq 1036), (.row 4), (.opq 1042), (.opq 1045), (.opq 1048), (.mp 16), (.opq 1051), (.opq 1054), (.opq 1057)]), (4, .arr 63 Iv5), (16, .mpI)], false⟩, ⟨true, (.lit (.iface 30 (.int .i64 9))), [(1, .blk 95 [.rs [.str], .rs Ivs, (.opq 1024), (.opq 1027), .int .i64, .int .i64, (.opq 1036), (.row 4), (.opq 1042), (.opq 1045), (.opq 1048), (.mp 16), (.opq 1051), (.opq 1054), (.opq 1057)]), (4, .arr 63 Iv5), (16, .mpI)], false⟩, ⟨true, (.lit (.iface 30 (.int .i64 5))), [(1, .blk 95 [.rs [.str], .rs Ivs, (.opq 1024), (.opq 1027), .int .i64, .int .i64, (.opq 1036), (.row 4), (.opq 1042), (.opq 1045), (.opq 1048), (.mp 16), (.opq 1051), (.opq 1054), (.opq 1057)]), (4, .arr 63 Iv5), (16, .mpI)], false⟩]
  spec := sp_can
def VCC_can [W : InW] (l c s h st at_ : Int) (rl : Ro [.str]) (rc : Ro Ivs) (lo hi : Int) (ls : Dt) (es : List (Int × Int)) (K : Nat -> List Ed -> Prop) : Prop :=
  Ar .i64 ((↑(rl.xs.length) : Int) - (1 : Int)) fun z => Pre True (Vif (!Sp.out (0 : Int) z [[Cl.i l]]) (Ar .i64 ((↑(rc.xs.length) : Int) - (1 : Int)) fun z => Pre True (Vif (!!Sp.out (0 : Int) z [[Cl.i c]]) (K (0+1 : Nat) [.ro _ rl, .ro _ rc, .i lo, .i hi, .l ls, .m es]) (Pre True (Vif (!Sp.out (1 : Int) (4 : Int) [[Cl.i h]]) (Pre True (Vif (!!Sp.out (0 : Int) (4800 : Int) [[Cl.i s]]) (K (0+1+1 : Nat) [.ro _ rl, .ro _ rc, .i lo, .i hi, .l ls, .m es]) (Vif (decide (at_ < s)) (Vif (decide (lo <= s.tmod (24 : Int))) (Ar .i64 (s.tmod (24 : Int) + h) fun z => Vif (!decide (z <= hi)) (K (0+1+1+1 : Nat) [.ro _ rl, .ro _ rc, .i lo, .i hi, .l ls, .m es]) (Pre ((0 : Int) <= c /\ c < (↑(rc.xs.length) : Int) /\ (0 : Int) <= s /\ Sp.Small s) (Vif (!Sp.dryB rc.xs es c s) (K (0+1+1+1+1 : Nat) [.ro _ rl, .ro _ rc, .i lo, .i hi, .l ls, .m es]) (Pre ((↑(ls.length) : Int) <= (1000 : Int) /\ Sp.Small s /\ Sp.Small h /\ ∀ (j : Nat), Sp.Small (cel ls j (2 : Nat)).int /\ Sp.Small (cel ls j (3 : Nat)).int) (Vif (!!Sp.blocked ls (-1 : Int) l c s h (0 : Nat) (ls.length)) (K (0+1+1+1+1+1 : Nat) [.ro _ rl, .ro _ rc, .i lo, .i hi, .l ls, .m es]) (K (0 : Nat) [.ro _ rl, .ro _ rc, .i lo, .i hi, .l ls, .m es])))))) (K (0+1+1+1 : Nat) [.ro _ rl, .ro _ rc, .i lo, .i hi, .l ls, .m es])) (K (0+1+1+1 : Nat) [.ro _ rl, .ro _ rc, .i lo, .i hi, .l ls, .m es])))) (K (0+1+1 : Nat) [.ro _ rl, .ro _ rc, .i lo, .i hi, .l ls, .m es]))))) (K (0+1 : Nat) [.ro _ rl, .ro _ rc, .i lo, .i hi, .l ls, .m es]))
theorem vcc_can (W : InW) (l c s h st at_ rl rc lo hi ls es K) : coreK (cxT Try.prog TT TP2 1000 50) 1000 55 [.ptr 1 0, .agg [.si .i64 l, .si .i64 c, .si .i64 s, .si .i64 h, .si .i64 st], .si .i64 at_] [(1, .blk 95 [.rs _ rl, .rs _ rc, .opq 1024, .opq 1027, .si .i64 lo, .si .i64 hi, .opq 1036, .rw 4, .opq 1042, .opq 1045, .opq 1048, .mp 16, .opq 1051, .opq 1054, .opq 1057]), (4, .arr 63 Iv5 ls), (16, .obj (.mpI es))] (fun v h => outC cc_can.H [.ro _ rl, .ro _ rc, .i lo, .i hi, .l ls, .m es] cc_can.outs 0 false v h K) (fun v h => outC cc_can.H [.ro _ rl, .ro _ rc, .i lo, .i hi, .l ls, .m es] cc_can.outs 0 true v h K) = VCC_can l c s h st at_ rl rc lo hi ls es K := by kernel_rfl
theorem okc_can (hyp_ : ∀ (W : InW) (l : Int) (c : Int) (s : Int) (h : Int) (st : Int) (at_ : Int) (rl : Ro [.str]) (rc : Ro Ivs) (lo : Int) (hi : Int) (ls : Dt) (es : List (Int × Int)) (K : Nat -> List Ed -> Prop), sp_can [.i l, .i c, .i s, .i h, .i st, .i at_, .ro _ rl, .ro _ rc, .i lo, .i hi, .l ls, .m es] K -> VCC_can l c s h st at_ rl rc lo hi ls es K) : ∀ W : InW, @CallC W Try.prog cc_can :=
  CC.okOf (fun W => @TT W) (fun W => @TT_ok W) mixed_ok TP2 1000 50 cc_can fun W l c s h st at_ rl rc lo hi ls es K hs => (vcc_can W l c s h st at_ rl rc lo hi ls es K).mpr (hyp_ W l c s h st at_ rl rc lo hi ls es K hs)
theorem can_cases [InW] {e : Int} {k0 k1 k2 k3 k4 k5 : Prop} (h : Vif (decide (e = 0)) k0 (Vif (decide (e = 4)) k1 (Vif (decide (e = 7)) k2 (Vif (decide (e = 2)) k3 (Vif (decide (e = 9)) k4 k5))))) : (e = 0 -> k0) /\ (e = 4 -> k1) /\ (e = 7 -> k2) /\ (e = 2 -> k3) /\ (e = 9 -> k4) /\ (e = 5 -> k5) := by
  simp only [Vif_iff, decide_eq_true_eq, decide_eq_false_iff_not] at h;obtain ⟨a0, a⟩ := h;refine ⟨a0, fun e1 => (a (by omega)).1 e1, fun e1 => ((a (by omega)).2 (by omega)).1 e1, fun e1 => (((a (by omega)).2 (by omega)).2 (by omega)).1 e1, fun e1 => ((((a (by omega)).2 (by omega)).2 (by omega)).2 (by omega)).1 e1, fun e1 => ((((a (by omega)).2 (by omega)).2 (by omega)).2 (by omega)).2 (by omega)⟩
theorem okcan : ∀ W : InW, @CallC W Try.prog cc_can := okc_can fun W l c s h st at_ rl rc lo hi ls es K hs => by
  obtain ⟨hc, hk⟩ := hs;have hm := rl.len;have hm2 := rc.len;simp only [maxLen] at hm hm2;obtain ⟨k0, k4, k7, k2, k9, k5⟩ := can_cases hk;clear hk;generalize hE : Sp.canE rl.xs rc.xs lo hi ls es at_ l c s h = E at *;unfold Sp.canE at hE;unfold VCC_can;simp only [out1, Bool.not_not, Nat.zero_add, Nat.reduceAdd];have ht := tm24 s;refine ar64 (by omega) ⟨trivial, vif (fun e1 => ar64 (by omega) ⟨trivial, vif (fun e2 => k4 ?_) fun e2 => ⟨trivial, vif (fun e3 => ⟨trivial, vif (fun e4 => k7 ?_) fun e4 => ?_⟩) fun e3 => k7 ?_⟩⟩) fun e1 => k4 ?_⟩
  · rw [Bool.not_eq_true'] at e2;rw [<- hE, e2]; simp
  · rw [Bool.not_eq_true'] at e4;rw [<- hE, e1, e3, e4];rw [Bool.not_eq_false'] at e2;rw [e2]; simp
  · rw [Bool.not_eq_false'] at e2 e4;rw [e1, e2, e3, e4] at hE;simp only [Bool.and_self, Bool.not_true, Bool.false_eq_true, if_false] at hE;simp only [Sp.inr, Bool.and_eq_true, decide_eq_true_eq] at e1 e2 e3 e4;refine vifd (fun e5 => vifd (fun e6 => ar64 (by omega) (vif (fun e7 => k2 ?_) fun e7 => ⟨⟨by omega, by omega, by omega, by unfold Sp.Small; omega⟩, vif (fun e8 => k9 ?_) fun e8 => ⟨⟨hc.many, by unfold Sp.Small; omega, by unfold Sp.Small; omega, hc.ls⟩, vif (fun e9 => k5 ?_) fun e9 => k0 ?_⟩⟩)) fun e6 => k2 ?_) fun e5 => k2 ?_
    · rw [<- hE, if_neg (by omega), if_pos];simp only [Sp.fits];simp at e7;simp; omega
    · rw [<- hE, if_neg (by omega), if_neg, if_pos e8];simp only [Sp.fits];simp at e7;simp; omega
    · rw [Bool.not_eq_false'] at e8;rw [<- hE, if_neg (by omega), if_neg, e8, if_neg (by simp), if_pos (by simpa using e9)];simp only [Sp.fits];simp at e7;simp; omega
    · rw [Bool.not_eq_false'] at e8;rw [<- hE, if_neg (by omega), if_neg, e8, if_neg (by simp), if_neg (by simpa using e9)];simp only [Sp.fits];simp at e7;simp; omega
    · rw [<- hE, if_neg (by omega), if_pos];simp only [Sp.fits];simp; omega
    · rw [<- hE, if_pos (by omega)]
  · rw [Bool.not_eq_false'] at e2;rw [<- hE, e1, e2, e3]; simp
  · rw [<- hE, e1]; simp
noncomputable def ce_can : CE Try.prog := ceOf cc_can okcan
open Go.RowKit
set_option maxRecDepth 100000
namespace Sp
def addA (acc : Dt) (i c : Int) : Dt := acc.set i.toNat [.i ((cel acc i.toNat 0).int + c)]
def postA (acc : Dt) (src dst c : Int) : Dt := if c = 0 then acc else addA (addA acc src (-c)) dst c
def postP (ps : Dt) (ev src dst c : Int) : Dt := if c = 0 then ps else ps ++ [[.i ev, .i src, .i dst, .i c]]
end Sp
noncomputable def TP3 : Tab Try.prog := ⟨[pc_out, pc_bfee], [], []⟩
def sp_post [InW] (e : List Ed) (K : Nat -> List Ed -> Prop) : Prop := match e with
  | [.i src, .i dst, .i c, .i ev, .l acc, .l ps] => Pre (0 <= src /\ src < (acc.length : Int) /\ 0 <= dst /\ dst < (acc.length : Int) /\ Sp.Small c /\ (∀ j, Sp.Small (cel acc j 0).int) /\ (ps.length : Int) <= 1000)
      (K 0 [.i ev, .l (Sp.postA acc src dst c), .l (Sp.postP ps ev src dst c)])
  | _ => False
noncomputable def cc_post : CC where
  g := 99
  args := [(.ptr 1 0), .int .i64, .int .i64, .int .i64]
  H := [(1, .blk 95 [(.opq 1021), (.opq 1060), (.opq 1024), (.opq 1027), (.opq 1030), (.opq 1033), (.opq 1036), (.opq 1063), (.opq 1042), (.opq 1045), (.row 13), (.opq 1048), (.row 19), (.opq 1051), .int .i64]), (13, .arr 3 [.int .i64]), (19, .arr 61 Iv4)]
  outs := [⟨false, .tup [], [(1, .blk 95 [(.opq 1021), (.opq 1060), (.opq 1024), (.opq 1027), (.opq 1030), (.opq 1033), (.opq 1036), (.opq 1063), (.opq 1042), (.opq 1045), (.row 13), (.opq 1048), (.row 66), (.opq 1051), .int .i64]), (13, .arr 3 [.int .i64]), (66, .arr 61 Iv4)], false⟩]
  spec := sp_post
def VCC_post [W : InW] (src dst c ev : Int) (acc ps : Dt) (K : Nat -> List Ed -> Prop) : Prop :=
  Vif (decide (c = (0 : Int))) (K (0 : Nat) [.i ev, .l acc, .l ps]) (Need (decide ((ps.length + [[Cl.i ev, Cl.i src, Cl.i dst, Cl.i c]].length) * (32 : Nat) <= (140737488355328 : Nat))) (Need (decide ((0 : Int) <= src) && decide (src < (↑(acc.length) : Int))) (Need (decide (src.toNat < acc.length)) (Ar .i64 ((cel acc src.toNat (0 : Nat)).int - c) fun z => Need (decide ((0 : Int) <= src) && decide (src < (↑(acc.length) : Int))) (Need (decide (src.toNat < acc.length)) (Need (decide ((0 : Int) <= dst) && decide (dst < (↑(List.set acc src.toNat [Cl.i z]).length : Int))) (Need (decide (dst.toNat < (List.set acc src.toNat [Cl.i z]).length)) (Ar .i64 ((cel (List.set acc src.toNat [Cl.i z]) dst.toNat (0 : Nat)).int + c) fun z_1 => Need (decide ((0 : Int) <= dst) && decide (dst < (↑(List.set acc src.toNat [Cl.i z]).length : Int))) (Need (decide (dst.toNat < (List.set acc src.toNat [Cl.i z]).length)) (K (0 : Nat) [.i ev, .l ((List.set acc src.toNat [Cl.i z]).set dst.toNat [Cl.i z_1]), .l (ps ++ [[Cl.i ev, Cl.i src, Cl.i dst, Cl.i c]])]))))))))))
theorem vcc_post (W : InW) (src dst c ev acc ps K) : coreK (cxT Try.prog TT TP3 1000 50) 1000 99 [.ptr 1 0, .si .i64 src, .si .i64 dst, .si .i64 c] [(1, .blk 95 [.opq 1021, .opq 1060, .opq 1024, .opq 1027, .opq 1030, .opq 1033, .opq 1036, .opq 1063, .opq 1042, .opq 1045, .rw 13, .opq 1048, .rw 19, .opq 1051, .si .i64 ev]), (13, .arr 3 [.int .i64] acc), (19, .arr 61 Iv4 ps)] (fun v h => outC cc_post.H [.i ev, .l acc, .l ps] cc_post.outs 0 false v h K) (fun v h => outC cc_post.H [.i ev, .l acc, .l ps] cc_post.outs 0 true v h K) = VCC_post src dst c ev acc ps K := by kernel_rfl
theorem okc_post (hyp_ : ∀ (W : InW) (src : Int) (dst : Int) (c : Int) (ev : Int) (acc : Dt) (ps : Dt) (K : Nat -> List Ed -> Prop), sp_post [.i src, .i dst, .i c, .i ev, .l acc, .l ps] K -> VCC_post src dst c ev acc ps K) : ∀ W : InW, @CallC W Try.prog cc_post :=
  CC.okOf (fun W => @TT W) (fun W => @TT_ok W) mixed_ok TP3 1000 50 cc_post fun W src dst c ev acc ps K hs => (vcc_post W src dst c ev acc ps K).mpr (hyp_ W src dst c ev acc ps K hs)
theorem cel_set (xs : Dt) (i j k : Nat) (r : List Cl) : cel (xs.set i r) j k = if i = j /\ i < xs.length then r.getD k .z else cel xs j k := by
  unfold cel;rw [List.getD_eq_getElem?_getD, List.getD_eq_getElem?_getD, List.getElem?_set]
  by_cases h : i = j
  · subst h
    by_cases h2 : i < xs.length
    · simp [h2]
    · simp [h2, List.getElem?_eq_none (Nat.le_of_not_lt h2)]
  · simp [h, List.getD_eq_getElem?_getD]
theorem okpost : ∀ W : InW, @CallC W Try.prog cc_post := okc_post fun W src dst c ev acc ps K hs => by
  obtain ⟨⟨h1, h2, h3, h4, h5, h6, h7⟩, hk⟩ := hs;unfold VCC_post;have a1 := h6 src.toNat;have a2 := h6 dst.toNat;simp only [Sp.Small] at a1 a2 h5;refine vifd (fun e => ?_) fun e => ?_
  · simpa [Sp.postA, Sp.postP, e] using hk
  · refine nedd (by simp; omega) (ned (by simp; omega) (nedd (by omega) (ar64 (by omega) (ned (by simp; omega) (nedd (by omega) (ned (by simp; omega) (nedd (by simp; omega) (ar64 ?_ (ned (by simp; omega) (nedd (by simp; omega) ?_))))))))))
    · rw [cel_set]
      split
      · simp; omega
      · omega
    · rw [Sp.postA, Sp.postP, if_neg e, if_neg e] at hk;unfold Sp.addA at hk;rw [<- Int.sub_eq_add_neg] at hk;exact hk
noncomputable def ce_post : CE Try.prog := ceOf cc_post okpost
def sp_school [InW] (e : List Ed) (K : Nat -> List Ed -> Prop) : Prop := match e with
  | [.ro _ rl] => Pre ((rl.xs.length : Int) <= 1000) (K 0 [.i ((rl.xs.length : Int))])
  | _ => False
noncomputable def cc_school : CC where
  g := 100
  args := [(.ptr 1 0)]
  H := [(1, .blk 95 [.rs [.str], (.opq 1060), (.opq 1024), (.opq 1027), (.opq 1030), (.opq 1033), (.opq 1036), (.opq 1063), (.opq 1042), (.opq 1045), (.opq 1066), (.opq 1048), (.opq 1069), (.opq 1051), (.opq 1054)])]
  outs := [⟨false, .int .i64, [], true⟩]
  spec := sp_school
def VCC_school [W : InW] (rl : Ro [.str]) (K : Nat -> List Ed -> Prop) : Prop :=
  [Ed.ro [Ty.str] (rsK._proof_1 [Ty.str] [Ty.str] rfl ▸ rl)] ++ ([] ++ ([] ++ ([] ++ ([] ++ ([] ++ ([] ++ ([] ++ ([] ++ ([] ++ ([] ++ ([] ++ ([] ++ ([] ++ ([] ++ [])))))))))))))) ++ [] = [Ed.ro _ rl] /\ K (0 : Nat) [Ed.i (↑(rl.xs.length) : Int)]
theorem vcc_school (W : InW) (rl K) : coreK (cxT Try.prog TT TP0 1000 50) 1000 100 [.ptr 1 0] [(1, .blk 95 [.rs _ rl, .opq 1060, .opq 1024, .opq 1027, .opq 1030, .opq 1033, .opq 1036, .opq 1063, .opq 1042, .opq 1045, .opq 1066, .opq 1048, .opq 1069, .opq 1051, .opq 1054])] (fun v h => outC cc_school.H [.ro _ rl] cc_school.outs 0 false v h K) (fun v h => outC cc_school.H [.ro _ rl] cc_school.outs 0 true v h K) = VCC_school rl K := by kernel_rfl
theorem okc_school (hyp_ : ∀ (W : InW) (rl : Ro [.str]) (K : Nat -> List Ed -> Prop), sp_school [.ro _ rl] K -> VCC_school rl K) : ∀ W : InW, @CallC W Try.prog cc_school :=
  CC.okOf (fun W => @TT W) (fun W => @TT_ok W) mixed_ok TP0 1000 50 cc_school fun W rl K hs => (vcc_school W rl K).mpr (hyp_ W rl K hs)
theorem okschool : ∀ W : InW, @CallC W Try.prog cc_school := okc_school fun W rl K hs => by
  obtain ⟨h1, hk⟩ := hs;exact ⟨rfl, hk⟩
noncomputable def ce_school : CE Try.prog := ceOf cc_school okschool
def sp_garage [InW] (e : List Ed) (K : Nat -> List Ed -> Prop) : Prop := match e with
  | [.ro _ rl] => Pre ((rl.xs.length : Int) <= 1000) (K 0 [.i ((rl.xs.length : Int) + 1)])
  | _ => False
noncomputable def cc_garage : CC where
  g := 103
  args := [(.ptr 1 0)]
  H := [(1, .blk 95 [.rs [.str], (.opq 1060), (.opq 1024), (.opq 1027), (.opq 1030), (.opq 1033), (.opq 1036), (.opq 1063), (.opq 1042), (.opq 1045), (.opq 1066), (.opq 1048), (.opq 1069), (.opq 1051), (.opq 1054)])]
  outs := [⟨false, .int .i64, [], true⟩]
  spec := sp_garage
def VCC_garage [W : InW] (rl : Ro [.str]) (K : Nat -> List Ed -> Prop) : Prop :=
  Ar .i64 ((↑(rl.xs.length) : Int) + (1 : Int)) fun z => [Ed.ro [Ty.str] (rsK._proof_1 [Ty.str] [Ty.str] rfl ▸ rl)] ++ ([] ++ ([] ++ ([] ++ ([] ++ ([] ++ ([] ++ ([] ++ ([] ++ ([] ++ ([] ++ ([] ++ ([] ++ ([] ++ ([] ++ [])))))))))))))) ++ [] = [Ed.ro _ rl] /\ K (0 : Nat) [Ed.i z]
theorem vcc_garage (W : InW) (rl K) : coreK (cxT Try.prog TT TP0 1000 50) 1000 103 [.ptr 1 0] [(1, .blk 95 [.rs _ rl, .opq 1060, .opq 1024, .opq 1027, .opq 1030, .opq 1033, .opq 1036, .opq 1063, .opq 1042, .opq 1045, .opq 1066, .opq 1048, .opq 1069, .opq 1051, .opq 1054])] (fun v h => outC cc_garage.H [.ro _ rl] cc_garage.outs 0 false v h K) (fun v h => outC cc_garage.H [.ro _ rl] cc_garage.outs 0 true v h K) = VCC_garage rl K := by kernel_rfl
theorem okc_garage (hyp_ : ∀ (W : InW) (rl : Ro [.str]) (K : Nat -> List Ed -> Prop), sp_garage [.ro _ rl] K -> VCC_garage rl K) : ∀ W : InW, @CallC W Try.prog cc_garage :=
  CC.okOf (fun W => @TT W) (fun W => @TT_ok W) mixed_ok TP0 1000 50 cc_garage fun W rl K hs => (vcc_garage W rl K).mpr (hyp_ W rl K hs)
theorem okgarage : ∀ W : InW, @CallC W Try.prog cc_garage := okc_garage fun W rl K hs => by
  obtain ⟨h1, hk⟩ := hs;exact ar64 (by omega) ⟨rfl, hk⟩
noncomputable def ce_garage : CE Try.prog := ceOf cc_garage okgarage
def sp_insurer [InW] (e : List Ed) (K : Nat -> List Ed -> Prop) : Prop := match e with
  | [.ro _ rl] => Pre ((rl.xs.length : Int) <= 1000) (K 0 [.i ((rl.xs.length : Int) + 2)])
  | _ => False
noncomputable def cc_insurer : CC where
  g := 104
  args := [(.ptr 1 0)]
  H := [(1, .blk 95 [.rs [.str], (.opq 1060), (.opq 1024), (.opq 1027), (.opq 1030), (.opq 1033), (.opq 1036), (.opq 1063), (.opq 1042), (.opq 1045), (.opq 1066), (.opq 1048), (.opq 1069), (.opq 1051), (.opq 1054)])]
  outs := [⟨false, .int .i64, [], true⟩]
  spec := sp_insurer
def VCC_insurer [W : InW] (rl : Ro [.str]) (K : Nat -> List Ed -> Prop) : Prop :=
  Ar .i64 ((↑(rl.xs.length) : Int) + (2 : Int)) fun z => [Ed.ro [Ty.str] (rsK._proof_1 [Ty.str] [Ty.str] rfl ▸ rl)] ++ ([] ++ ([] ++ ([] ++ ([] ++ ([] ++ ([] ++ ([] ++ ([] ++ ([] ++ ([] ++ ([] ++ ([] ++ ([] ++ ([] ++ [])))))))))))))) ++ [] = [Ed.ro _ rl] /\ K (0 : Nat) [Ed.i z]
theorem vcc_insurer (W : InW) (rl K) : coreK (cxT Try.prog TT TP0 1000 50) 1000 104 [.ptr 1 0] [(1, .blk 95 [.rs _ rl, .opq 1060, .opq 1024, .opq 1027, .opq 1030, .opq 1033, .opq 1036, .opq 1063, .opq 1042, .opq 1045, .opq 1066, .opq 1048, .opq 1069, .opq 1051, .opq 1054])] (fun v h => outC cc_insurer.H [.ro _ rl] cc_insurer.outs 0 false v h K) (fun v h => outC cc_insurer.H [.ro _ rl] cc_insurer.outs 0 true v h K) = VCC_insurer rl K := by kernel_rfl
theorem okc_insurer (hyp_ : ∀ (W : InW) (rl : Ro [.str]) (K : Nat -> List Ed -> Prop), sp_insurer [.ro _ rl] K -> VCC_insurer rl K) : ∀ W : InW, @CallC W Try.prog cc_insurer :=
  CC.okOf (fun W => @TT W) (fun W => @TT_ok W) mixed_ok TP0 1000 50 cc_insurer fun W rl K hs => (vcc_insurer W rl K).mpr (hyp_ W rl K hs)
theorem okinsurer : ∀ W : InW, @CallC W Try.prog cc_insurer := okc_insurer fun W rl K hs => by
  obtain ⟨h1, hk⟩ := hs;exact ar64 (by omega) ⟨rfl, hk⟩
noncomputable def ce_insurer : CE Try.prog := ceOf cc_insurer okinsurer
def sp_outside [InW] (e : List Ed) (K : Nat -> List Ed -> Prop) : Prop := match e with
  | [.ro _ rl] => Pre ((rl.xs.length : Int) <= 1000) (K 0 [.i ((rl.xs.length : Int) + 3)])
  | _ => False
noncomputable def cc_outside : CC where
  g := 105
  args := [(.ptr 1 0)]
  H := [(1, .blk 95 [.rs [.str], (.opq 1060), (.opq 1024), (.opq 1027), (.opq 1030), (.opq 1033), (.opq 1036), (.opq 1063), (.opq 1042), (.opq 1045), (.opq 1066), (.opq 1048), (.opq 1069), (.opq 1051), (.opq 1054)])]
  outs := [⟨false, .int .i64, [], true⟩]
  spec := sp_outside
def VCC_outside [W : InW] (rl : Ro [.str]) (K : Nat -> List Ed -> Prop) : Prop :=
  Ar .i64 ((↑(rl.xs.length) : Int) + (3 : Int)) fun z => [Ed.ro [Ty.str] (rsK._proof_1 [Ty.str] [Ty.str] rfl ▸ rl)] ++ ([] ++ ([] ++ ([] ++ ([] ++ ([] ++ ([] ++ ([] ++ ([] ++ ([] ++ ([] ++ ([] ++ ([] ++ ([] ++ ([] ++ [])))))))))))))) ++ [] = [Ed.ro _ rl] /\ K (0 : Nat) [Ed.i z]
theorem vcc_outside (W : InW) (rl K) : coreK (cxT Try.prog TT TP0 1000 50) 1000 105 [.ptr 1 0] [(1, .blk 95 [.rs _ rl, .opq 1060, .opq 1024, .opq 1027, .opq 1030, .opq 1033, .opq 1036, .opq 1063, .opq 1042, .opq 1045, .opq 1066, .opq 1048, .opq 1069, .opq 1051, .opq 1054])] (fun v h => outC cc_outside.H [.ro _ rl] cc_outside.outs 0 false v h K) (fun v h => outC cc_outside.H [.ro _ rl] cc_outside.outs 0 true v h K) = VCC_outside rl K := by kernel_rfl
theorem okc_outside (hyp_ : ∀ (W : InW) (rl : Ro [.str]) (K : Nat -> List Ed -> Prop), sp_outside [.ro _ rl] K -> VCC_outside rl K) : ∀ W : InW, @CallC W Try.prog cc_outside :=
  CC.okOf (fun W => @TT W) (fun W => @TT_ok W) mixed_ok TP0 1000 50 cc_outside fun W rl K hs => (vcc_outside W rl K).mpr (hyp_ W rl K hs)
theorem okoutside : ∀ W : InW, @CallC W Try.prog cc_outside := okc_outside fun W rl K hs => by
  obtain ⟨h1, hk⟩ := hs;exact ar64 (by omega) ⟨rfl, hk⟩
noncomputable def ce_outside : CE Try.prog := ceOf cc_outside okoutside
namespace Sp
structure Sch where
  rl : Dt
  rc : Dt
  pr : Int
  ex : Int
  lo : Int
  hi : Int
  rt : Dt
structure Bks where
  ls : Dt
  km : Dt
  si : Dt
  ac : Dt
  es : List (Int × Int)
  ps : Dt
  tm : Int
  ev : Int
structure Evt where
  kind : Int
  at_ : Int
  l : Int
  c : Int
  b : Int
  s : Int
  h : Int
  d : Int
  w : Int
  k : Int
  m : Int
def Sch.Ok (s : Sch) : Prop := SchOk s.rl s.rc s.pr s.ex s.lo s.hi s.rt
def Bks.post (b : Bks) (src dst c : Int) : Bks := { b with ac := postA b.ac src dst c, ps := postP b.ps b.ev src dst c }
def setSt (ls : Dt) (i st : Int) : Dt := ls.set i.toNat (setCls (ls.getD i.toNat []) 4 [.i st])
def hasB (ls : Dt) (i st : Int) : Bool := inr i 0 ((ls.length : Int) - 1) && decide ((cel ls i.toNat 4).int = st)
def school (s : Sch) : Int := s.rl.length
def moveTo (rc ls : Dt) (es : List (Int × Int)) (l c h i : Int) : Nat -> Int -> Option Int
  | 0, _ => none
  | n + 1, s => if s + h <= 4800 then (if dryB rc es c s && !blocked ls i l c s h 0 ls.length then some s else moveTo rc ls es l c h i n (s + 24)) else none
def days (s : Int) : Nat := ((4801 - s).toNat + 23) / 24
def moveL (rc ls : Dt) (es : List (Int × Int)) (i : Int) : Dt :=
  match moveTo rc ls es (cel ls i.toNat 0).int (cel ls i.toNat 1).int (cel ls i.toNat 3).int i (days ((cel ls i.toNat 2).int + 24)) ((cel ls i.toNat 2).int + 24) with
  | some s => ls.set i.toNat [.i (cel ls i.toNat 0).int, .i (cel ls i.toNat 1).int, .i s, .i (cel ls i.toNat 3).int, .i (cel ls i.toNat 4).int]
  | none => setSt ls i 1
def hit (rc ls : Dt) (i : Int) (x : Evt) : Bool :=
  decide ((cel ls i.toNat 4).int = 0) && (decide ((cel ls i.toNat 2).int.tdiv 24 = x.d) && (decide (x.at_ < (cel ls i.toNat 2).int) && decide (andI .i64 ((cel rc (cel ls i.toNat 1).int.toNat 3).int.fdiv (2 ^ x.w.toNat)) 1 = 1)))
def weatherL (rc : Dt) (es : List (Int × Int)) (x : Evt) : Nat -> Int -> Dt -> Dt
  | 0, _, ls => ls
  | n + 1, i, ls => weatherL rc es x n (i + 1) (if hit rc ls i x then moveL rc ls es i else ls)
def seeE (es : List (Int × Int)) (d w : Int) : List (Int × Int) := setI es d (orI .i64 (getI es d) (2 ^ w.toNat))
def err (s : Sch) (b : Bks) (x : Evt) : Int :=
  if x.kind = 0 then canE s.rl s.rc s.lo s.hi b.ls b.es x.at_ x.l x.c x.s x.h
  else if x.kind = 1 then (if !hasB b.ls x.b 0 then 4 else if x.at_ < (cel b.ls x.b.toNat 2).int then 0 else 2)
  else if x.kind = 2 then (if inr x.d 0 200 && inr x.w 0 7 then 0 else 7)
  else if x.kind = 3 then (if !hasB b.ls x.b 0 then 4 else if x.at_ < (cel b.ls x.b.toNat 2).int + (cel b.ls x.b.toNat 3).int then 2 else if !inr x.k 0 400 then 7
    else if (cel s.rc (cel b.ls x.b.toNat 1).int.toNat 2).int < (cel b.si (cel b.ls x.b.toNat 1).int.toNat 0).int then 9 else 0)
  else if x.kind = 4 then (if !inr x.c 0 ((s.rc.length : Int) - 1) then 4 else if !inr x.m 0 10000000 then 7 else 0)
  else if x.kind = 5 then (if !hasB b.ls x.b 2 then 4 else if !inr x.m 0 10000000 then 7 else 0)
  else (if !inr x.l 0 ((s.rl.length : Int) - 1) then 4 else if !inr x.m 0 10000000 then 7 else 0)
def eff (s : Sch) (b : Bks) (x : Evt) : Bks :=
  let L := (cel b.ls x.b.toNat 0).int
  let C := (cel b.ls x.b.toNat 1).int
  if x.kind = 0 then { b with ls := b.ls ++ [[.i x.l, .i x.c, .i x.s, .i x.h, .i 0]] }
  else if x.kind = 1 then { b with ls := setSt b.ls x.b 1 }.post L (school s) (fee s.rt s.pr (cel b.ls x.b.toNat 3).int ((cel b.ls x.b.toNat 2).int - x.at_))
  else if x.kind = 2 then { b with es := seeE b.es x.d x.w, ls := weatherL s.rc (seeE b.es x.d x.w) x b.ls.length 0 b.ls }
  else if x.kind = 3 then { b with ls := setSt b.ls x.b 2, km := addA b.km C x.k, si := addA b.si C x.k }.post L (school s) ((cel b.ls x.b.toNat 3).int * s.pr)
  else if x.kind = 4 then { b with si := b.si.set x.c.toNat [.i 0] }.post (school s) (school s + 1) x.m
  else if x.kind = 5 then ({ b with ls := setSt b.ls x.b 3 }.post (school s) (school s + 1) (min x.m s.ex)).post (school s + 2) (school s + 1) (x.m - min x.m s.ex)
  else b.post (school s + 3) x.l x.m
def doE (s : Sch) (b : Bks) (n : Int) (x : Evt) : Int :=
  if !inr x.kind 0 6 then 2 else if !inr x.at_ b.tm 4800 then 7 else err s b x
def doB (s : Sch) (b : Bks) (n : Int) (x : Evt) : Bks :=
  if !inr x.kind 0 6 then b else if !inr x.at_ b.tm 4800 then b else if err s b x = 0 then { eff s { b with ev := n } x with tm := x.at_ } else { b with ev := n }
structure Inv (s : Sch) (b : Bks) (n : Int) : Prop where
  nn : 0 <= n /\ n <= 60
  sch : s.Ok
  never : ∀ j, j < s.rc.length -> 0 <= (cel s.rc j 3).int /\ (cel s.rc j 3).int <= 255
  many : (b.ls.length : Int) <= n
  ls : ∀ j, j < b.ls.length -> (0 <= (cel b.ls j 0).int /\ (cel b.ls j 0).int < s.rl.length) /\ (0 <= (cel b.ls j 1).int /\ (cel b.ls j 1).int < s.rc.length) /\ (0 <= (cel b.ls j 2).int /\ (cel b.ls j 2).int <= 4800) /\ (1 <= (cel b.ls j 3).int /\ (cel b.ls j 3).int <= 4)
  km : b.km.length = s.rc.length /\ ∀ j, j < b.km.length -> 0 <= (cel b.km j 0).int /\ (cel b.km j 0).int <= 1000000 + 400 * n
  si : b.si.length = s.rc.length /\ ∀ j, j < b.si.length -> 0 <= (cel b.si j 0).int /\ (cel b.si j 0).int <= 400 * n
  ac : b.ac.length = s.rl.length + 4 /\ ∀ j, -40000000 * n <= (cel b.ac j 0).int /\ (cel b.ac j 0).int <= 40000000 * n
  ps : (b.ps.length : Int) <= 2 * n
  tm : 0 <= b.tm /\ b.tm <= 4800
  es : ∀ d, 0 <= getI b.es d /\ getI b.es d <= 255
theorem Inv.calm {s : Sch} {b : Bks} {n : Int} (h : Inv s b n) : CalmP b.ls := ⟨by have := h.many; have := h.nn; omega, fun j => by
  by_cases hj : j < b.ls.length
  · have := h.ls j hj;unfold Small;omega
  · have e : ∀ k, cel b.ls j k = .z := fun k => by simp [cel, List.getD_eq_getElem?_getD, List.getElem?_eq_none (Nat.le_of_not_lt hj)]
    rw [e, e];unfold Small;simp [Cl.int]⟩
end Sp
end Go.Proofs.Ytiiicnhjjfmpkaa
