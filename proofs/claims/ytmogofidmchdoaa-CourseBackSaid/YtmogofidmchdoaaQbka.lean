/-
  'CourseBack': for every input the law returns true, and what is handed in reads as before. No condition.
-/
import Derived.Test.YtmogofidmchdoaaQd
import Derived.IntWalk
import Derived.Test.YtmogofidmchdoaaProg
set_option linter.unusedVariables false
set_option linter.unusedSectionVars false
set_option linter.unusedSimpArgs false
namespace Go.Proofs.Ytmogofidmchdoaa
abbrev Ja : List Ty := [.int .i64]
abbrev Jb : List Ty := [.str]
abbrev Iv11 : List Ty := [.int .i64, .int .i64, .int .i64, .int .i64, .int .i64, .int .i64, .int .i64, .int .i64, .int .i64, .int .i64, .int .i64]
abbrev Iv5 : List Ty := [.int .i64, .int .i64, .int .i64, .int .i64, .int .i64]
abbrev Iv4 : List Ty := [.int .i64, .int .i64, .int .i64, .int .i64]
abbrev Ivs : List Ty := [.str, .int .i64, .int .i64, .int .i64]
open Go.RowKit
theorem vif [InW] {b : Bool} {A B : Prop} (h : b = true -> A) (h2 : b = false -> B) : Vif b A B := ⟨h, h2⟩
theorem vifd [InW] {p : Prop} {_ : Decidable p} {A B : Prop} (h : p -> A) (h2 : ¬ p -> B) : Vif (decide p) A B := ⟨fun e => h (of_decide_eq_true e), fun e => h2 (of_decide_eq_false e)⟩
theorem ned [InW] {b : Bool} {A : Prop} (h : b = true) (h2 : A) : Need b A := ⟨h, h2⟩
theorem nedd [InW] {p : Prop} {_ : Decidable p} {A : Prop} (h : p) (h2 : A) : Need (decide p) A := ⟨decide_eq_true h, h2⟩
theorem ar64 [InW] {n : Int} {K : Int -> Prop} (h : -9223372036854775808 <= n /\ n <= 9223372036854775807) (k : K n) : Ar .i64 n K := ⟨by rw [IntWalk.i64_in n h]; exact k⟩
theorem notT {b : Bool} (h : (!b) = true) : b = false := by cases b <;> simp_all
theorem notF {b : Bool} (h : (!b) = false) : b = true := by cases b <;> simp_all
theorem vifn [InW] {p : Prop} {_ : Decidable p} {A B : Prop} (h : ¬ p -> A) (h2 : p -> B) : Vif (!decide p) A B := ⟨fun e => h (of_decide_eq_false (notT e)), fun e => h2 (of_decide_eq_true (notF e))⟩
theorem vifb [InW] {b : Bool} {A B : Prop} (h : b = false -> A) (h2 : b = true -> B) : Vif (!b) A B := ⟨fun e => h (notT e), fun e => h2 (notF e)⟩
theorem Xe {p A : Prop} (h : p) (h2 : A) : Pre p A := ⟨h, h2⟩
end Go.Proofs.Ytmogofidmchdoaa
namespace Go.Proofs.Ytmogofidmchdoaa.Bk
structure Car where
 name : ByteArray
 km : Int
 every : Int
 never : Int
structure Term where
 before : Int
 fee : Int
structure School where
 learners : List ByteArray
 cars : List Car
 price : Int
 excess : Int
 lo : Int
 hi : Int
 terms : List Term
def oob (lo hi n : Int) : Bool := decide (n < lo) || decide (hi < n)
def alpha (b : UInt8) : Bool := 97 <= b && b <= 122
def digit (b : UInt8) : Bool := 48 <= b && b <= 57
def nameFrom : List UInt8 -> Nat -> Bool
 | [], _ => true
 | b :: l, i => (alpha b || (i != 0 && digit b)) && nameFrom l (i + 1)
def nameOk (s : ByteArray) : Bool := nameFrom s.data.toList 0 && !oob 1 16 s.size
def idxFrom {α : Type} (p : α -> Bool) : List α -> Nat -> Int
 | [], _ => -1
 | x :: xs, i => if p x then (i : Int) else idxFrom p xs (i + 1)
theorem idxFrom_drop {α : Type} (p : α -> Bool) (xs : List α) (k : Nat) (h : k < xs.length) :
  idxFrom p (xs.drop k) k = if p xs[k] then (k : Int) else idxFrom p (xs.drop (k + 1)) (k + 1) := by
 rw [List.drop_eq_getElem_cons h]; rfl
theorem idxFrom_ge {α : Type} (p : α -> Bool) (xs : List α) (k : Nat) : 0 <= idxFrom p xs k ↔ xs.any p = true := by
 induction xs generalizing k with
 | nil => simp [idxFrom]
 | cons x xs ih =>
  simp only [idxFrom, List.any_cons, Bool.or_eq_true]
  by_cases h : p x = true
  ·simp [h]
  ·simp only [Bool.not_eq_true] at h;simp [h, ih]
def pre (s : School) : Int :=
 if oob 1 8 (s.learners.length : Int) || oob 1 5 (s.cars.length : Int) || decide (4 < (s.terms.length : Int)) then 3
 else if oob 1 10000 s.price || oob 0 10000000 s.excess || oob 0 24 s.lo || oob 0 24 s.hi then 7
 else if decide (s.hi <= s.lo) then 2 else 0
def part (s : School) (before : Int) : Int :=
 match s.terms.find? (fun t => decide (t.before <= before)) with
 | some t => t.fee
 | none => 1000
end Go.Proofs.Ytmogofidmchdoaa.Bk
namespace Go.Proofs.Ytmogofidmchdoaa
open Go.RowKit
namespace Sp
def inr (n lo hi : Int) : Bool := decide (lo <= n) && decide (n <= hi)
def outs (lo hi : Int) (xs : Dt) : Nat -> Nat -> Bool
 | _, 0 => false
 | i, n + 1 => !inr (cel xs i 0).int lo hi || outs lo hi xs (i + 1) n
def out (lo hi : Int) (xs : Dt) : Bool := outs lo hi xs 0 xs.length
def outI (lo hi : Int) (xs : Dt) : Nat -> Nat -> Nat
 | i, 0 => i
 | i, n + 1 => if inr (cel xs i 0).int lo hi = true then outI lo hi xs (i + 1) n else i
def hasE (f : Nat -> Int) : Nat -> Nat -> Bool
 | _, 0 => false
 | i, n + 1 => !decide (f i = 0) || hasE f (i + 1) n
def idxE (f : Nat -> Int) : Nat -> Nat -> Nat
 | i, 0 => i
 | i, n + 1 => if f i = 0 then idxE f (i + 1) n else i
def sumF (f : Nat -> Int) : Nat -> Nat -> Int -> Int
 | _, 0, a => a
 | i, n + 1, a => sumF f (i + 1) n (a + f i)
def nm (xs : Dt) (i : Nat) : ByteArray := (cel xs i 0).str
def dup (xs : Dt) (name : ByteArray) : Nat -> Nat -> Bool
 | _, 0 => false
 | k, n + 1 => eqS (nm xs k) name || dup xs name (k + 1) n
def dupI (xs : Dt) (name : ByteArray) : Nat -> Nat -> Nat
 | k, 0 => k
 | k, n + 1 => if eqS (nm xs k) name = true then k else dupI xs name (k + 1) n
def NamesOk (xs : Dt) : Prop := ∀ i : Nat, (nm xs i).size <= 9223372036854775807
def nameErr (xs : Dt) (i : Nat) : Int := if Bk.nameOk (nm xs i) then (if dup xs (nm xs i) 0 i then 5 else 0) else 6
def nmsE (xs : Dt) : Int := if hasE (nameErr xs) 0 xs.length then nameErr xs (idxE (nameErr xs) 0 xs.length) else 0
def nmsI (xs : Dt) : Int := if hasE (nameErr xs) 0 xs.length then (idxE (nameErr xs) 0 xs.length : Int) else 0
def sets (n : Nat) : Int := (2 : Int) ^ n
def has (s : Int) (n : Nat) : Bool := decide ((s.tdiv (sets n)).tmod 2 = 1)
def lessF (a b : Int) : Nat -> Nat -> Int -> Int
 | _, 0, o => o
 | i, n + 1, o => lessF a b (i + 1) n (if has a i && !has b i then o + sets i else o)
def unF (a b : Int) : Nat -> Nat -> Int -> Int
 | _, 0, o => o
 | i, n + 1, o => unF a b (i + 1) n (if has a i || has b i then o + sets i else o)
def sFr (st : Dt) (i : Nat) : Int := (cel st i 0).int
def sTo (st : Dt) (i : Nat) : Int := (cel st i 1).int
def sMe (st : Dt) (i : Nat) : Int := (cel st i 2).int
def sLo (st : Dt) (i : Nat) : Int := (cel st i 3).int
def sHi (st : Dt) (i : Nat) : Int := (cel st i 4).int
def sBo (st : Dt) (i : Nat) : Bool := (cel st i 5).bool
def sSh (st : Dt) (i : Nat) : Dt := (cel st i 6).lst
def stErr (np ns nt : Nat) (st : Dt) (i : Nat) : Int :=
  if inr (sFr st i) 0 ((np : Int) - 1) && inr (sTo st i) 0 ((np : Int) - 1) then
    (if sFr st i = sTo st i then 2
     else if ((sSh st i).length : Int) = nt then
      (if inr (sMe st i) 1 10000 && (inr (sLo st i) 0 60 && (inr (sHi st i) 0 60 && !out 0 (sets ns - 1) (sSh st i))) then (if sHi st i < sLo st i then 2 else 0) else 7)
     else 3)
  else 4
def tchk (pl sh ti st : Dt) : Int × Int × Int :=
  if inr pl.length 1 16 && (!decide (6 < (sh.length : Int)) && (inr ti.length 1 4 && !decide (40 < (st.length : Int)))) then
    (if nmsE pl = 0 then
      (if nmsE sh = 0 then
        (if nmsE ti = 0 then
          (if hasE (stErr pl.length sh.length ti.length st) 0 st.length then (5, idxE (stErr pl.length sh.length ti.length st) 0 st.length, stErr pl.length sh.length ti.length st (idxE (stErr pl.length sh.length ti.length st) 0 st.length)) else (0, 0, 0))
         else (4, nmsI ti, nmsE ti))
       else (3, nmsI sh, nmsE sh))
     else (2, nmsI pl, nmsE pl))
  else (1, 0, 3)
def tchkP (pl sh ti st : Dt) : Int := (tchk pl sh ti st).1
def tchkI (pl sh ti st : Dt) : Int := (tchk pl sh ti st).2.1
def tchkE (pl sh ti st : Dt) : Int := (tchk pl sh ti st).2.2
def xS (l : Dt) (i : Nat) : Int := (cel l i 0).int
def xB (l : Dt) (i : Nat) : Bool := (cel l i 1).bool
def xFr (st l : Dt) (i : Nat) : Int := if xB l i then sTo st (xS l i).toNat else sFr st (xS l i).toNat
def xTo (st l : Dt) (i : Nat) : Int := if xB l i then sFr st (xS l i).toNat else sTo st (xS l i).toNat
def folT (st l : Dt) : Nat -> Nat -> Int -> Int
 | _, 0, p => p
 | i, n + 1, p => if inr (xS l i) 0 ((st.length : Int) - 1) then (if xB l i && !sBo st (xS l i).toNat then 0 else if xFr st l i = p then folT st l (i + 1) n (xTo st l i) else 0) else 0
def folE (st l : Dt) : Nat -> Nat -> Int -> Int
 | _, 0, _ => 0
 | i, n + 1, p => if inr (xS l i) 0 ((st.length : Int) - 1) then (if xB l i && !sBo st (xS l i).toNat then 2 else if xFr st l i = p then folE st l (i + 1) n (xTo st l i) else 9) else 4
def stepsT (st l : Dt) (p : Int) : Int := if 1100 < (l.length : Int) then 0 else folT st l 0 l.length p
def stepsE (st l : Dt) (p : Int) : Int := if 1100 < (l.length : Int) then 3 else folE st l 0 l.length p
def orF (f : Nat -> Int) : Nat -> Nat -> Int -> Int
 | _, 0, a => a
 | i, n + 1, a => orF f (i + 1) n (unF a (f i) 0 6 0)
def shT (st l : Dt) (time : Nat) (i : Nat) : Int := (cel (sSh st (xS l i).toNat) time 0).int
def drvE (pl sh ti st : Dt) (p time : Int) (l : Dt) : Int :=
 if tchkE pl sh ti st = 0 then (if inr p 0 ((pl.length : Int) - 1) && inr time 0 ((ti.length : Int) - 1) then stepsE st l p else 4) else tchkE pl sh ti st
def hBa (hd : Dt) (i : Nat) : Int := (cel hd i 0).int
def hPe (hd : Dt) (i : Nat) : Int := (cel hd i 1).int
def hLo (hd : Dt) (i : Nat) : Int := (cel hd i 2).int
def hHi (hd : Dt) (i : Nat) : Int := (cel hd i 3).int
def hdErr (hd : Dt) (i : Nat) : Int :=
 if inr (hBa hd i) 0 1000 && (inr (hPe hd i) 0 100 && (inr (hLo hd i) 0 100 && inr (hHi hd i) 0 100)) then (if hHi hd i < hLo hd i then 2 else 0) else 7
def rtL (rt : Dt) (i : Nat) : Dt := (cel rt i 0).lst
def rtErr (st rt : Dt) (ce : Int) (i : Nat) : Int :=
 if inr (rtL rt i).length 1 60 then (if stepsE st (rtL rt i) ce = 0 then (if stepsT st (rtL rt i) ce = ce then 0 else 9) else stepsE st (rtL rt i) ce) else 3
def cchk (pl sh ti st : Dt) (ce : Int) (hd rt : Dt) : Int × Int × Int :=
  if tchkE pl sh ti st = 0 then
    (if inr ce 0 ((pl.length : Int) - 1) then
      (if (hd.length : Int) = st.length /\ ¬ 10 < (rt.length : Int) then
        (if hasE (hdErr hd) 0 hd.length then (2, idxE (hdErr hd) 0 hd.length, hdErr hd (idxE (hdErr hd) 0 hd.length))
         else if hasE (rtErr st rt ce) 0 rt.length then (3, idxE (rtErr st rt ce) 0 rt.length, rtErr st rt ce (idxE (rtErr st rt ce) 0 rt.length))
         else (0, 0, 0))
       else (1, 0, 3))
     else (1, 0, 4))
  else (1, 0, tchkE pl sh ti st)
def cP (pl sh ti st : Dt) (ce : Int) (hd rt : Dt) : Int := (cchk pl sh ti st ce hd rt).1
def cI (pl sh ti st : Dt) (ce : Int) (hd rt : Dt) : Int := (cchk pl sh ti st ce hd rt).2.1
def cE (pl sh ti st : Dt) (ce : Int) (hd rt : Dt) : Int := (cchk pl sh ti st ce hd rt).2.2
def cnt (l : Dt) (s : Nat) : Nat -> Nat -> Int -> Int
 | _, 0, a => a
 | i, n + 1, a => cnt l s (i + 1) n (if xS l i = s then a + 1 else a)
def tms (rt : Dt) (a s : Nat) : Int := cnt (rtL rt a) s 0 (rtL rt a).length 0
def atH (hd : Dt) (s : Nat) (t : Int) : Int := hBa hd s + hPe hd s * t
def leT (hd : Dt) (n : Int) (s : Nat) : Int := if hPe hd s = 0 then hLo hd s else if n < 0 then hHi hd s else hLo hd s
def grT (hd : Dt) (n : Int) (s : Nat) : Int := if hPe hd s = 0 then hLo hd s else if 0 < n then hHi hd s else hLo hd s
def dif (rt : Dt) (a b s : Nat) : Int := tms rt a s - tms rt b s
def apLo (hd rt : Dt) (a b : Nat) : Int := sumF (fun s => dif rt a b s * atH hd s (leT hd (dif rt a b s) s)) 0 hd.length 0
def apHi (hd rt : Dt) (a b : Nat) : Int := sumF (fun s => dif rt a b s * atH hd s (grT hd (dif rt a b s) s)) 0 hd.length 0
def apLe (hd rt : Dt) (a b n : Nat) : Dt := (List.range n).map fun s => [Cl.i (leT hd (dif rt a b s) s)]
def apGr (hd rt : Dt) (a b n : Nat) : Dt := (List.range n).map fun s => [Cl.i (grT hd (dif rt a b s) s)]
def most (hd rt : Dt) (a b : Nat) : Int := max (-apLo hd rt a b) (apHi hd rt a b)
def dfF (rt : Dt) (a b : Nat) : Nat -> Nat -> Dt
 | _, 0 => []
 | s, n + 1 => if decide (0 < tms rt a s) = decide (0 < tms rt b s) then dfF rt a b (s + 1) n else [Cl.i s] :: dfF rt a b (s + 1) n
end Sp
namespace Pk
section
variable {α : Type} (ok : List α -> α -> Bool) (now : List α -> α -> Int -> Int)
def lv : List α -> Nat -> List α -> Int -> List (List α × Int)
 | _, 0, l, b => [(l, b)]
 | [], _ + 1, _, _ => []
 | a :: cs, m + 1, l, b => (if ok l a then lv cs m (l ++ [a]) (now l a b) else []) ++ lv cs (m + 1) l b
def stp (x y : List α × Int) : List α × Int := if x.1.isEmpty || decide (y.2 < x.2) then y else x
def ch : List α -> Nat -> List α -> Int -> List α × Int -> List α × Int
 | _, 0, l, b, _ => (l, b)
 | [], _ + 1, _, _, x => x
 | a :: cs, m + 1, l, b, x => ch cs (m + 1) l b (if ok l a && (x.1.isEmpty || decide (now l a b < x.2)) then ch cs m (l ++ [a]) (now l a b) x else x)
def okAll : List α -> List α -> Prop
 | _, [] => True
 | l, a :: e => ok l a = true /\ okAll (l ++ [a]) e
def nowAll : List α -> List α -> Int -> Int
 | _, [], b => b
 | l, a :: e, b => nowAll (l ++ [a]) e (now l a b)
variable {ok now}
theorem mem_lv : ∀ {cs : List α} {m : Nat} {l : List α} {b : Int} {y : List α × Int}, y ∈ lv ok now cs m l b ↔ ∃ e, e.Sublist cs /\ e.length = m /\ y.1 = l ++ e /\ okAll ok l e /\ y.2 = nowAll now l e b
 | cs, 0, l, b, y => by
  rw [show lv ok now cs 0 l b = [(l, b)] by cases cs <;> rfl, List.mem_singleton];constructor
  ·rintro rfl; exact ⟨[], List.nil_sublist _, rfl, by simp, trivial, rfl⟩
  ·rintro ⟨e, h1, h2, h3, h4, h5⟩;have := List.length_eq_zero_iff.1 h2;subst this;simp only [List.append_nil, nowAll] at h3 h5;exact Prod.ext h3 h5
 | [], m + 1, l, b, y => by
  simp only [lv, List.not_mem_nil, false_iff];rintro ⟨e, h1, h2, _⟩;rw [List.sublist_nil.1 h1] at h2;simp at h2
 | a :: cs, m + 1, l, b, y => by
  simp only [lv, List.mem_append];rw [mem_lv (cs := cs) (m := m + 1)];constructor
  ·rintro (h | ⟨e, h1, h2, h3⟩)
   ·split at h
    ·rename_i ho;obtain ⟨e, h1, h2, h3, h4, h5⟩ := mem_lv.1 h;exact ⟨a :: e, h1.cons_cons a, by simp [h2], by simp [h3], ⟨ho, h4⟩, h5⟩
    ·cases h
   ·exact ⟨e, h1.cons a, h2, h3⟩
  ·rintro ⟨e, h1, h2, h3, h4, h5⟩;cases h1 with
   | cons _ h => exact .inr ⟨e, h, h2, h3, h4, h5⟩
   | cons_cons _ h =>
    rename_i e';obtain ⟨ho, h4⟩ := h4;refine .inl ?_;rw [if_pos ho];exact mem_lv.2 ⟨e', h, by simpa using h2, by simp [h3], h4, h5⟩
theorem nowAll_ge (hm : ∀ l a b, b <= now l a b) : ∀ (e l : List α) (b : Int), b <= nowAll now l e b
 | [], _, _ => Int.le_refl _
 | a :: e, l, b => Int.le_trans (hm l a b) (nowAll_ge hm e (l ++ [a]) (now l a b))
theorem fold_keep {x : List α × Int} (hx : x.1 ≠ []) : ∀ {L : List (List α × Int)}, (∀ y ∈ L, x.2 <= y.2) -> L.foldl stp x = x
 | [], _ => rfl
 | y :: L, h => by
  have h1 := h y (by simp);have e : stp x y = x := by
   unfold stp;rw [if_neg];simp only [Bool.or_eq_true, List.isEmpty_iff, decide_eq_true_eq, not_or];exact ⟨hx, by omega⟩
  rw [List.foldl_cons, e];exact fold_keep hx fun y hy => h y (by simp [hy])
theorem ch_eq (hm : ∀ l a b, b <= now l a b) : ∀ (cs : List α) (m : Nat) (l : List α) (b : Int) (x : List α × Int), (m ≠ 0 \/ x.1 = [] \/ b < x.2) -> ch ok now cs m l b x = (lv ok now cs m l b).foldl stp x
 | cs, 0, l, b, x, h => by
  rw [show lv ok now cs 0 l b = [(l, b)] by cases cs <;> rfl, show ch ok now cs 0 l b x = (l, b) by cases cs <;> rfl];simp only [List.foldl_cons, List.foldl_nil, stp];rw [if_pos];simp only [Bool.or_eq_true, List.isEmpty_iff, decide_eq_true_eq];simpa using h
 | [], m + 1, l, b, x, _ => rfl
 | a :: cs, m + 1, l, b, x, _ => by
  simp only [ch, lv, List.foldl_append];rw [ch_eq hm cs (m + 1) l b _ (.inl (by omega))]
  congr 1
  by_cases ho : ok l a = true
  ·rw [if_pos ho]
   by_cases hc : x.1.isEmpty = true \/ now l a b < x.2
   ·rw [if_pos (by simpa [ho] using hc), ch_eq hm cs m _ _ x (.inr (by simpa using hc))]
   ·have hc' : x.1 ≠ [] /\ x.2 <= now l a b := by
     simp only [List.isEmpty_iff, not_or] at hc;exact ⟨hc.1, by omega⟩
    rw [if_neg (by simpa [ho] using hc)];refine (fold_keep hc'.1 fun y hy => ?_).symm;obtain ⟨e, _, _, _, _, h5⟩ := mem_lv.1 hy;rw [h5];exact Int.le_trans hc'.2 (nowAll_ge hm e _ _)
  ·rw [if_neg ho, if_neg (by simp [ho])];rfl
variable (key : α -> Int)
def lx : List α -> List α -> Prop
 | a :: x, b :: y => key a < key b \/ key a = key b /\ lx x y
 | _, _ => False
variable {key}
theorem lx_append (l : List α) {x y : List α} (h : lx key x y) : lx key (l ++ x) (l ++ y) := by
 induction l with
 | nil => exact h
 | cons a l ih => exact .inr ⟨rfl, ih⟩
theorem lx_asym : ∀ {x y : List α}, lx key x y -> ¬ lx key y x
 | [], _, h, _ => by cases h
 | _ :: _, [], h, _ => by cases h
 | a :: x, b :: y, h, h2 => by
  rcases h with h | ⟨e, h⟩ <;> rcases h2 with h2 | ⟨e2, h2⟩
  ·omega
  ·omega
  ·omega
  ·exact lx_asym h h2
theorem lx_trans : ∀ {x y z : List α}, lx key x y -> lx key y z -> lx key x z
 | [], _, _, h, _ => by cases h
 | _ :: _, [], _, h, _ => by cases h
 | _ :: _, _ :: _, [], _, h => by cases h
 | a :: x, b :: y, c :: z, h, h2 => by
  rcases h with h | ⟨e, h⟩ <;> rcases h2 with h2 | ⟨e2, h2⟩
  ·exact .inl (by omega)
  ·exact .inl (by omega)
  ·exact .inl (by omega)
  ·exact .inr ⟨by omega, lx_trans h h2⟩
theorem lv_sorted : ∀ {cs : List α} {m : Nat} {l : List α} {b : Int}, cs.Pairwise (fun a b => key a < key b) -> (lv ok now cs m l b).Pairwise fun x y => lx key x.1 y.1
 | cs, 0, l, b, _ => by
  rw [show lv ok now cs 0 l b = [(l, b)] by cases cs <;> rfl];exact List.pairwise_singleton _ _
 | [], m + 1, l, b, _ => List.Pairwise.nil
 | a :: cs, m + 1, l, b, h => by
  obtain ⟨h1, h2⟩ := List.pairwise_cons.1 h;simp only [lv];refine List.pairwise_append.2 ⟨?_, lv_sorted h2, fun x hx y hy => ?_⟩
  ·split
   ·exact lv_sorted h2
   ·exact List.Pairwise.nil
  ·split at hx
   ·obtain ⟨e, _, _, h5, _⟩ := mem_lv.1 hx;obtain ⟨e2, s2, n2, h6, _⟩ := mem_lv.1 hy;cases e2 with
    | nil => simp at n2
    | cons c e2 =>
     rw [h5, h6, List.append_assoc];exact lx_append l (.inl (h1 c (s2.subset (by simp))))
   ·cases hx
def Least (key : α -> Int) (L : List (List α × Int)) (r : List α × Int) : Prop := r ∈ L /\ ∀ y ∈ L, r.2 < y.2 \/ r.2 = y.2 /\ (y.1 = r.1 \/ lx key r.1 y.1)
theorem Least.unique {L L' : List (List α × Int)} {r r' : List α × Int} (hL : ∀ y, y ∈ L ↔ y ∈ L') (h : Least key L r) (h' : Least key L' r') : r = r' := by
 have a := h.2 r' ((hL _).2 h'.1);have b := h'.2 r ((hL _).1 h.1);rcases a with a | ⟨a, a2⟩ <;> rcases b with b | ⟨b, b2⟩
 ·omega
 ·omega
 ·omega
 ·refine Prod.ext ?_ a;rcases a2 with a2 | a2
  ·exact a2.symm
  ·rcases b2 with b2 | b2
   ·exact b2
   ·exact absurd b2 (lx_asym a2)
theorem fold_least : ∀ {L : List (List α × Int)} {x : List α × Int}, x.1 ≠ [] -> (∀ y ∈ L, y.1 ≠ []) -> (∀ y ∈ L, lx key x.1 y.1) -> L.Pairwise (fun x y => lx key x.1 y.1) -> Least key (x :: L) (L.foldl stp x)
 | [], x, _, _, _, _ => ⟨by simp, fun y hy => by simp at hy; subst hy; exact .inr ⟨rfl, .inl rfl⟩⟩
 | y :: L, x, hx, hn, hl, hp => by
  obtain ⟨p1, p2⟩ := List.pairwise_cons.1 hp;rw [List.foldl_cons]
  by_cases hc : y.2 < x.2
  ·have e : stp x y = y := by unfold stp; rw [if_pos (by simp [hc])]
   rw [e];obtain ⟨h1, h2⟩ := fold_least (hn y (by simp)) (fun z hz => hn z (by simp [hz])) p1 p2;refine ⟨by simp at h1 ⊢; exact .inr h1, fun z hz => ?_⟩;rcases List.mem_cons.1 hz with rfl | hz
   ·have := h2 y (by simp);exact .inl (by omega)
   ·exact h2 z hz
  ·have e : stp x y = x := by unfold stp; rw [if_neg (by simp [hc, hx])]
   rw [e];obtain ⟨h1, h2⟩ := fold_least (L := L) hx (fun z hz => hn z (by simp [hz])) (fun z hz => hl z (by simp [hz])) p2;refine ⟨by rcases List.mem_cons.1 h1 with h | h <;> simp [h], fun z hz => ?_⟩;rcases List.mem_cons.1 hz with rfl | hz
   ·exact h2 z (by simp)
   ·rcases List.mem_cons.1 hz with rfl | hz
    ·have h3 := h2 x (by simp);have h4 := hl z (by simp);rcases h3 with h3 | ⟨h3, h5⟩
     ·exact .inl (by omega)
     ·rcases Int.lt_or_eq_of_le (show x.2 <= z.2 by omega) with h6 | h6
      ·exact .inl (by omega)
      ·refine .inr ⟨by omega, .inr ?_⟩;rcases h5 with h5 | h5
       ·rw [<- h5]; exact h4
       ·exact lx_trans h5 h4
    ·exact h2 z (by simp [hz])
theorem ch_least (hm : ∀ l a b, b <= now l a b) {cs : List α} {m : Nat} (hp : cs.Pairwise (fun a b => key a < key b)) (hm0 : m ≠ 0) (b : Int) :
  (lv ok now cs m [] 0 = [] /\ ch ok now cs m [] 0 ([], b) = ([], b)) \/ Least key (lv ok now cs m [] 0) (ch ok now cs m [] 0 ([], b)) := by
 rw [ch_eq hm cs m [] 0 ([], b) (.inl hm0)];have hn : ∀ y ∈ lv ok now cs m [] 0, y.1 ≠ [] := fun y hy => by
  obtain ⟨e, _, h2, h3, _⟩ := mem_lv.1 hy;rw [h3, List.nil_append];intro h;rw [h] at h2;exact hm0 h2.symm
 have hs := lv_sorted (ok := ok) (now := now) (m := m) (l := []) (b := 0) hp;revert hn hs;generalize lv ok now cs m [] 0 = L;intro hn hs;cases L with
 | nil => exact .inl ⟨rfl, rfl⟩
 | cons y L =>
  obtain ⟨p1, p2⟩ := List.pairwise_cons.1 hs;refine .inr ?_;rw [List.foldl_cons, show stp ([], b) y = y from rfl];exact fold_least (hn y (by simp)) (fun z hz => hn z (by simp [hz])) p1 p2
def stpR (lxB : List α -> List α -> Bool) (x y : List α × Int) : List α × Int := if x.1.isEmpty || (decide (y.2 < x.2) || (decide (y.2 = x.2) && lxB y.1 x.1)) then y else x
theorem foldR_least {lxB : List α -> List α -> Bool} {Q : List α -> Prop} (hb : ∀ x y : List α, Q x -> Q y -> (lxB x y = true ↔ lx key x y)) (hk : ∀ x y : List α, Q x -> Q y -> lx key x y \/ x = y \/ lx key y x) : ∀ {L : List (List α × Int)} {x : List α × Int}, x.1 ≠ [] -> Q x.1 -> (∀ y ∈ L, y.1 ≠ [] /\ Q y.1) -> Least key (x :: L) (L.foldl (stpR lxB) x)
 | [], x, _, _, _ => ⟨by simp, fun y hy => by simp at hy; subst hy; exact .inr ⟨rfl, .inl rfl⟩⟩
 | y :: L, x, hx, hxn, hn => by
  have hy := hn y (by simp);rw [List.foldl_cons]
  by_cases hc : y.2 < x.2 \/ y.2 = x.2 /\ lx key y.1 x.1
  ·have e : stpR lxB x y = y := by unfold stpR; rw [if_pos (by simp [hb _ _ hy.2 hxn, hc])]
   rw [e];obtain ⟨h1, h2⟩ := foldR_least (L := L) hb hk hy.1 hy.2 fun z hz => hn z (by simp [hz]);refine ⟨by simp at h1 ⊢; exact .inr h1, fun z hz => ?_⟩;rcases List.mem_cons.1 hz with rfl | hz
   ·have h3 := h2 y (by simp);rcases hc with hc | ⟨hc, hc2⟩
    ·exact .inl (by omega)
    ·rcases h3 with h3 | ⟨h3, h5⟩
     ·exact .inl (by omega)
     ·refine .inr ⟨by omega, .inr ?_⟩;rcases h5 with h5 | h5
      ·rw [<- h5]; exact hc2
      ·exact lx_trans h5 hc2
   ·exact h2 z hz
  ·have e : stpR lxB x y = x := by unfold stpR; rw [if_neg (by simpa [hb _ _ hy.2 hxn, hx] using hc)]
   rw [e];obtain ⟨h1, h2⟩ := foldR_least (L := L) hb hk hx hxn fun z hz => hn z (by simp [hz]);refine ⟨by rcases List.mem_cons.1 h1 with h | h <;> simp [h], fun z hz => ?_⟩;rcases List.mem_cons.1 hz with rfl | hz
   ·exact h2 z (by simp)
   ·rcases List.mem_cons.1 hz with rfl | hz
    ·have h3 := h2 x (by simp);rcases h3 with h3 | ⟨h3, h5⟩
     ·exact .inl (by omega)
     ·rcases Int.lt_or_eq_of_le (show x.2 <= z.2 by omega) with h6 | h6
      ·exact .inl (by omega)
      ·refine .inr ⟨by omega, ?_⟩;rcases hk x.1 z.1 hxn hy.2 with t | t | t
       ·rcases h5 with h5 | h5
        ·rw [<- h5]; exact .inr t
        ·exact .inr (lx_trans h5 t)
       ·rw [<- t];rcases h5 with h5 | h5
        ·exact .inl h5
        ·exact .inr h5
       ·exact absurd (.inr ⟨h6.symm, t⟩) hc
    ·exact h2 z (by simp [hz])
theorem foldR_all {lxB : List α -> List α -> Bool} {Q : List α -> Prop} (hb : ∀ x y : List α, Q x -> Q y -> (lxB x y = true ↔ lx key x y)) (hk : ∀ x y : List α, Q x -> Q y -> lx key x y \/ x = y \/ lx key y x) {L : List (List α × Int)} (b : Int) (hn : ∀ y ∈ L, y.1 ≠ [] /\ Q y.1) :
  (L = [] /\ L.foldl (stpR lxB) ([], b) = ([], b)) \/ Least key L (L.foldl (stpR lxB) ([], b)) := by
 cases L with
 | nil => exact .inl ⟨rfl, rfl⟩
 | cons y L =>
  refine .inr ?_;rw [List.foldl_cons, show stpR lxB ([], b) y = y from rfl];exact foldR_least hb hk (hn y (by simp)).1 (hn y (by simp)).2 fun z hz => hn z (by simp [hz])
theorem ch_foldR {lxB : List α -> List α -> Bool} {Q : List α -> Prop} (hb : ∀ x y : List α, Q x -> Q y -> (lxB x y = true ↔ lx key x y)) (hk : ∀ x y : List α, Q x -> Q y -> lx key x y \/ x = y \/ lx key y x) (hm : ∀ l a b, b <= now l a b) {cs : List α} {m : Nat} (hp : cs.Pairwise (fun a b => key a < key b)) (hm0 : m ≠ 0) (b : Int) {L : List (List α × Int)} (hL : ∀ y, y ∈ L ↔ y ∈ lv ok now cs m [] 0) (hn : ∀ y ∈ L, Q y.1) :
  ch ok now cs m [] 0 ([], b) = L.foldl (stpR lxB) ([], b) := by
 have hne : ∀ y ∈ L, y.1 ≠ [] /\ Q y.1 := fun y hy => ⟨by
  obtain ⟨e, _, h2, h3, _⟩ := mem_lv.1 ((hL y).1 hy);rw [h3, List.nil_append];intro h;rw [h] at h2;exact hm0 h2.symm, hn y hy⟩
 rcases ch_least (ok := ok) hm hp hm0 b with ⟨h1, h2⟩ | h1 <;> rcases foldR_all hb hk b hne with ⟨h3, h4⟩ | h3
 ·rw [h2, h4]
 ·have := (hL _).1 h3.1;rw [h1] at this;cases this
 ·have := (hL _).2 h1.1;rw [h3] at this;cases this
 ·exact Least.unique (fun y => (hL y).symm) h1 h3
end
end Pk
namespace Sp
def selF (p : Nat -> Bool) : Nat -> Nat -> Dt
 | _, 0 => []
 | i, n + 1 => if p i then [Cl.i i] :: selF p (i + 1) n else selF p (i + 1) n
def rwF : Nat -> Nat -> Dt
 | _, 0 => []
 | i, n + 1 => [Cl.i i] :: rwF (i + 1) n
theorem has_nat (s k : Nat) : has (s : Int) k = decide (s / 2 ^ k % 2 = 1) := by
 unfold has sets;have e1 : ((s : Int).tdiv ((2 : Int) ^ k)).tmod 2 = ((s / 2 ^ k % 2 : Nat) : Int) := by
  rw [show ((2 : Int) ^ k) = ((2 ^ k : Nat) : Int) by simp, Int.tdiv_eq_ediv_of_nonneg (by omega), Int.tmod_eq_emod_of_nonneg (Int.ediv_nonneg (by omega) (Int.natCast_nonneg _))];simp
 rw [e1]
 by_cases h : s / 2 ^ k % 2 = 1
 ·simp [h]
 ·rw [decide_eq_false h, decide_eq_false]; omega
theorem lsF_sub (s : Int) : ∀ (n i : Nat), (selF (has s) i n).Sublist (rwF i n)
 | 0, _ => List.Sublist.slnil
 | n + 1, i => by
  simp only [selF, rwF]
  split
  ·exact (lsF_sub s n (i + 1)).cons_cons _
  ·exact (lsF_sub s n (i + 1)).cons _
theorem lsF_same {s t : Nat} : ∀ (n i : Nat), (∀ k, i <= k -> s / 2 ^ k = t / 2 ^ k) -> selF (has s) i n = selF (has t) i n
 | 0, _, _ => rfl
 | n + 1, i, h => by
  simp only [selF];rw [has_nat, has_nat, h i (Nat.le_refl _), lsF_same n (i + 1) fun k hk => h k (by omega)]
theorem lsF_all : ∀ (n i : Nat) (e : Dt), e.Sublist (rwF i n) -> ∃ s, s < 2 ^ n /\ selF (has ((s * 2 ^ i : Nat) : Int)) i n = e
 | 0, i, e, h => ⟨0, by simp, (List.sublist_nil.1 h).symm⟩
 | n + 1, i, e, h => by
  have same : ∀ s b, b < 2 -> selF (has (((2 * s + b) * 2 ^ i : Nat) : Int)) (i + 1) n = selF (has ((s * 2 ^ (i + 1) : Nat) : Int)) (i + 1) n := fun s b hb => by
   refine lsF_same n (i + 1) fun k hk => ?_;obtain ⟨j, rfl⟩ := Nat.exists_eq_add_of_le hk;rw [Nat.pow_add, <- Nat.div_div_eq_div_mul, <- Nat.div_div_eq_div_mul, Nat.mul_div_cancel _ (Nat.two_pow_pos _), Nat.pow_succ, <- Nat.div_div_eq_div_mul, Nat.mul_div_cancel _ (Nat.two_pow_pos _)]
   congr 1
   omega
  have hb : ∀ s b, b < 2 -> has (((2 * s + b) * 2 ^ i : Nat) : Int) i = decide (b = 1) := fun s b hb => by
   rw [has_nat, Nat.mul_div_cancel _ (Nat.two_pow_pos _)];have : (2 * s + b) % 2 = b := by omega
   rw [this]
  cases h with
  | cons _ h =>
   obtain ⟨s, h1, h2⟩ := lsF_all n (i + 1) e h;refine ⟨2 * s + 0, by rw [Nat.pow_succ]; omega, ?_⟩;simp only [selF];rw [hb s 0 (by omega), same s 0 (by omega), h2];rfl
  | cons_cons _ h =>
   rename_i e';obtain ⟨s, h1, h2⟩ := lsF_all n (i + 1) e' h;refine ⟨2 * s + 1, by rw [Nat.pow_succ]; omega, ?_⟩;simp only [selF];rw [hb s 1 (by omega), same s 1 (by omega), h2];rfl
theorem lsF_zero : ∀ (n i : Nat), selF (has 0) i n = []
 | 0, _ => rfl
 | n + 1, i => by
  simp only [selF];rw [show has 0 i = false from by have := has_nat 0 i; simpa using this];exact lsF_zero n (i + 1)
theorem selF_mem {p : Nat -> Bool} : ∀ {n i : Nat} {e : Dt}, e.Sublist (selF p i n) ↔ e.Sublist (rwF i n) /\ ∀ k : Nat, [Cl.i k] ∈ e -> p k = true
 | 0, i, e => by
  simp only [selF, rwF, List.sublist_nil];exact ⟨fun h => ⟨h, fun k hk => by rw [h] at hk; cases hk⟩, fun h => h.1⟩
 | n + 1, i, e => by
  simp only [selF, rwF]
  by_cases h : p i = true
  ·rw [if_pos h];constructor
   ·intro h1;cases h1 with
    | cons _ h1 => exact ⟨(selF_mem.1 h1).1.cons _, (selF_mem.1 h1).2⟩
    | cons_cons _ h1 =>
     refine ⟨(selF_mem.1 h1).1.cons_cons _, fun k hk => ?_⟩;rcases List.mem_cons.1 hk with hk | hk
     ·have : (k : Int) = i := by simpa using hk
      have : k = i := by omega
      rw [this]; exact h
     ·exact (selF_mem.1 h1).2 k hk
   ·rintro ⟨h1, h2⟩;cases h1 with
    | cons _ h1 => exact (selF_mem.2 ⟨h1, h2⟩).cons _
    | cons_cons _ h1 => exact (selF_mem.2 ⟨h1, fun k hk => h2 k (List.mem_cons_of_mem _ hk)⟩).cons_cons _
  ·rw [if_neg h];constructor
   ·intro h1;exact ⟨(selF_mem.1 h1).1.cons _, (selF_mem.1 h1).2⟩
   ·rintro ⟨h1, h2⟩;cases h1 with
    | cons _ h1 => exact selF_mem.2 ⟨h1, h2⟩
    | cons_cons _ h1 => exact absurd (h2 i (by simp)) h
theorem rwF_row : ∀ {n i : Nat} {r : List Cl}, r ∈ rwF i n -> ∃ k : Nat, r = [Cl.i k] /\ i <= k /\ k < i + n
 | 0, _, _, h => by cases h
 | n + 1, i, r, h => by
  rcases List.mem_cons.1 h with h | h
  ·exact ⟨i, h, by omega, by omega⟩
  ·obtain ⟨k, h1, h2, h3⟩ := rwF_row h;exact ⟨k, h1, by omega, by omega⟩
def keyR (r : List Cl) : Int := (r.getD 0 .z).int
theorem rwF_up : ∀ (n i : Nat), (rwF i n).Pairwise fun a b => keyR a < keyR b
 | 0, _ => List.Pairwise.nil
 | n + 1, i => List.pairwise_cons.2 ⟨fun r hr => by
   obtain ⟨k, rfl, h2, _⟩ := rwF_row hr
   show ((i : Nat) : Int) < (k : Int)
   omega, rwF_up n (i + 1)⟩
theorem lsF_mem {n : Nat} {e : Dt} (hne : e ≠ []) : e.Sublist (rwF 0 n) ↔ ∃ s : Nat, 1 <= s /\ s < 2 ^ n /\ selF (has s) 0 n = e := by
 constructor
 ·intro h;obtain ⟨s, h1, h2⟩ := lsF_all n 0 e h;simp only [Nat.pow_zero, Nat.mul_one] at h2;refine ⟨s, ?_, h1, h2⟩;rcases Nat.eq_zero_or_pos s with h3 | h3
  ·subst h3;exact absurd (h2.symm.trans (lsF_zero n 0)) hne
  ·exact h3
 ·rintro ⟨s, _, _, rfl⟩;exact lsF_sub _ _ _
end Sp
namespace Sp
theorem bits6 : ∀ a b : Fin 64, unF (a.val : Int) (b.val : Int) 0 6 0 = orI .i64 a.val b.val /\ (0 <= orI .i64 a.val b.val /\ orI .i64 a.val b.val < 64) /\ (lessF (a.val : Int) (b.val : Int) 0 6 0 = 0 ↔ Yyc .i64 a.val b.val = 0) := by decide +kernel
theorem un_or {a b : Int} (h0 : 0 <= a) (h1 : a < 64) (h2 : 0 <= b) (h3 : b < 64) : unF a b 0 6 0 = orI .i64 a b /\ (0 <= unF a b 0 6 0 /\ unF a b 0 6 0 < 64) /\ (lessF a b 0 6 0 = 0 ↔ Yyc .i64 a b = 0) := by
 have h := bits6 ⟨a.toNat, by omega⟩ ⟨b.toNat, by omega⟩;simp only [Int.toNat_of_nonneg h0, Int.toNat_of_nonneg h2] at h;exact ⟨h.1, h.1 ▸ h.2.1, h.2.2⟩
end Sp
namespace Sp
theorem inr_iff {n lo hi : Int} : Sp.inr n lo hi = true ↔ lo <= n /\ n <= hi := by simp [Sp.inr]
theorem sumF_congr {f g : Nat -> Int} : ∀ {n i : Nat} {a : Int}, (∀ k, i <= k -> k < i + n -> f k = g k) -> sumF f i n a = sumF g i n a
 | 0, _, _, _ => rfl
 | n + 1, i, a, h => by
  simp only [sumF];rw [h i (by omega) (by omega)];exact sumF_congr fun k h1 h2 => h k (by omega) (by omega)
theorem sumF_le {f g : Nat -> Int} : ∀ {n i : Nat} {a b : Int}, (∀ k, i <= k -> k < i + n -> f k <= g k) -> a <= b -> sumF f i n a <= sumF g i n b
 | 0, _, _, _, _, h => h
 | n + 1, i, a, b, h, hab => by
  simp only [sumF];refine sumF_le (fun k h1 h2 => h k (by omega) (by omega)) ?_;have := h i (by omega) (by omega);omega
theorem sumF_sub {f g : Nat -> Int} : ∀ {n i : Nat} {a b : Int}, sumF f i n a - sumF g i n b = sumF (fun k => f k - g k) i n (a - b)
 | 0, _, _, _ => rfl
 | n + 1, i, a, b => by
  simp only [sumF];rw [sumF_sub, show a + f i - (b + g i) = a - b + (f i - g i) by omega]
theorem sumF_neg {f : Nat -> Int} : ∀ {n i : Nat} {a : Int}, sumF (fun k => -f k) i n (-a) = -sumF f i n a
 | 0, _, _ => rfl
 | n + 1, i, a => by
  simp only [sumF];rw [show -a + -f i = -(a + f i) by omega, sumF_neg]
theorem sumF_in {f : Nat -> Int} {c : Int} : ∀ {n i : Nat} {a : Int}, (∀ k, i <= k -> k < i + n -> -c <= f k /\ f k <= c) -> a - n * c <= sumF f i n a /\ sumF f i n a <= a + n * c
 | 0, _, _, _ => by simp [sumF]
 | n + 1, i, a, h => by
  simp only [sumF];have h0 := h i (by omega) (by omega);have := sumF_in (f := f) (c := c) (n := n) (i := i + 1) (a := a + f i) fun k h1 h2 => h k (by omega) (by omega);have e : ((n + 1 : Nat) : Int) * c = n * c + c := by rw [Int.natCast_add, Int.add_mul]; simp
  rw [e];omega
theorem mul_up {n b p t u : Int} (hn : 0 <= n) (hp : 0 <= p) (h : t <= u) : n * (b + p * t) <= n * (b + p * u) :=
 Int.mul_le_mul_of_nonneg_left (Int.add_le_add_left (Int.mul_le_mul_of_nonneg_left h hp) b) hn
theorem mul_dn {n b p t u : Int} (hn : n <= 0) (hp : 0 <= p) (h : t <= u) : n * (b + p * u) <= n * (b + p * t) := by
 have := mul_up (n := -n) (b := b) (by omega) hp h;rw [Int.neg_mul, Int.neg_mul] at this;omega
theorem ap_in {hd : Dt} {n : Int} {s : Nat} {t : Int} (hp : 0 <= hPe hd s) (h0 : hLo hd s <= t) (h1 : t <= hHi hd s) : n * atH hd s (leT hd n s) <= n * atH hd s t /\ n * atH hd s t <= n * atH hd s (grT hd n s) := by
 unfold atH leT grT
 by_cases e : hPe hd s = 0
 ·rw [if_pos e, if_pos e, e]; simp
 rw [if_neg e, if_neg e];rcases Int.lt_trichotomy n 0 with h | h | h
 ·rw [if_pos h, if_neg (by omega)];exact ⟨mul_dn (by omega) hp h1, mul_dn (by omega) hp h0⟩
 ·subst h; simp
 ·rw [if_neg (by omega), if_pos h];exact ⟨mul_up (by omega) hp h0, mul_up (by omega) hp h1⟩
theorem dif_swap (rt : Dt) (a b s : Nat) : dif rt b a s = -dif rt a b s := by unfold dif; omega
theorem le_swap (hd : Dt) (n : Int) (s : Nat) : leT hd (-n) s = grT hd n s := by
 unfold leT grT
 by_cases h : 0 < n
 ·rw [if_pos h, if_pos (by omega : -n < 0)]
 ·rw [if_neg h, if_neg (by omega : ¬ -n < 0)]
theorem gr_swap (hd : Dt) (n : Int) (s : Nat) : grT hd (-n) s = leT hd n s := by
 have := le_swap hd (-n) s;rw [Int.neg_neg] at this;exact this.symm
theorem apLo_swap (hd rt : Dt) (a b : Nat) : apLo hd rt b a = -apHi hd rt a b := by
 unfold apLo apHi;rw [<- sumF_neg];refine sumF_congr fun k _ _ => ?_;rw [dif_swap, le_swap, Int.neg_mul]
theorem apHi_swap (hd rt : Dt) (a b : Nat) : apHi hd rt b a = -apLo hd rt a b := by
 unfold apLo apHi;rw [<- sumF_neg];refine sumF_congr fun k _ _ => ?_;rw [dif_swap, gr_swap, Int.neg_mul]
theorem most_swap (hd rt : Dt) (a b : Nat) : most hd rt b a = most hd rt a b := by
 unfold most;rw [apLo_swap hd rt a b, apHi_swap hd rt a b];omega
theorem df_swap (rt : Dt) (a b : Nat) : ∀ (n s : Nat), dfF rt b a s n = dfF rt a b s n
 | 0, _ => rfl
 | n + 1, s => by
  simp only [dfF];rw [df_swap rt a b n (s + 1)]
  by_cases h : decide (0 < tms rt a s) = decide (0 < tms rt b s)
  ·rw [if_pos h, if_pos h.symm]
  ·rw [if_neg h, if_neg fun e => h e.symm]
theorem cnt_in (l : Dt) (s : Nat) : ∀ (n i : Nat) (a : Int), a <= cnt l s i n a /\ cnt l s i n a <= a + n
 | 0, _, _ => by simp [cnt]
 | n + 1, i, a => by
  simp only [cnt];have := cnt_in l s n (i + 1) (if xS l i = s then a + 1 else a)
  split at this <;> split <;> omega
theorem tms_in (rt : Dt) (a s : Nat) : 0 <= tms rt a s /\ tms rt a s <= (rtL rt a).length := by
 have := cnt_in (rtL rt a) s (rtL rt a).length 0 0;unfold tms; omega
theorem cnt_none (l : Dt) (s : Nat) : ∀ (n i : Nat) (a : Int), (∀ k, i <= k -> k < i + n -> xS l k ≠ s) -> cnt l s i n a = a
 | 0, _, _, _ => rfl
 | n + 1, i, a, h => by
  simp only [cnt];rw [if_neg (h i (by omega) (by omega))];exact cnt_none l s n (i + 1) a fun k h1 h2 => h k (by omega) (by omega)
theorem hasE_ff {f : Nat -> Int} : ∀ {n i : Nat}, hasE f i n = false -> ∀ k, i <= k -> k < i + n -> f k = 0
 | 0, _, _, k, h1, h2 => by omega
 | n + 1, i, h, k, h1, h2 => by
  simp only [hasE, Bool.or_eq_false_iff, Bool.not_eq_false', decide_eq_true_eq] at h;rcases Nat.eq_or_lt_of_le h1 with e | e
  ·rw [<- e]; exact h.1
  ·exact hasE_ff h.2 k e (by omega)
theorem hasE_ix {f : Nat -> Int} : ∀ {n i : Nat}, hasE f i n = true -> i <= idxE f i n /\ idxE f i n < i + n /\ f (idxE f i n) ≠ 0
 | 0, _, h => by simp [hasE] at h
 | n + 1, i, h => by
  simp only [hasE, Bool.or_eq_true, Bool.not_eq_true', decide_eq_false_iff_not] at h;simp only [idxE]
  by_cases e : f i = 0
  ·rw [if_pos e];have := hasE_ix (h.resolve_left fun h => h e);exact ⟨by omega, by omega, this.2.2⟩
  ·rw [if_neg e]; exact ⟨by omega, by omega, e⟩
theorem outs_ff {lo hi : Int} {xs : Dt} : ∀ {n i : Nat}, outs lo hi xs i n = false -> ∀ k, i <= k -> k < i + n -> lo <= (cel xs k 0).int /\ (cel xs k 0).int <= hi
 | 0, _, _, k, h1, h2 => by omega
 | n + 1, i, h, k, h1, h2 => by
  simp only [outs, Bool.or_eq_false_iff, Bool.not_eq_false'] at h;rcases Nat.eq_or_lt_of_le h1 with e | e
  ·rw [<- e]; exact inr_iff.1 h.1
  ·exact outs_ff h.2 k e (by omega)
structure StOk (np ns nt : Nat) (st : Dt) (i : Nat) : Prop where
 fr : 0 <= sFr st i /\ sFr st i < np
 toI : 0 <= sTo st i /\ sTo st i < np
 ne : sFr st i ≠ sTo st i
 len : (sSh st i).length = nt
 me : 1 <= sMe st i /\ sMe st i <= 10000
 lo : 0 <= sLo st i /\ sLo st i <= 60
 hi : 0 <= sHi st i /\ sHi st i <= 60
 le : sLo st i <= sHi st i
 sh : ∀ k, k < nt -> 0 <= (cel (sSh st i) k 0).int /\ (cel (sSh st i) k 0).int < sets ns
theorem stErr_ok {np ns nt : Nat} {st : Dt} {i : Nat} (h : stErr np ns nt st i = 0) : StOk np ns nt st i := by
 unfold stErr at h
 split at h
 ·rename_i h1;simp only [Bool.and_eq_true, inr_iff] at h1
  split at h
  ·omega
  ·rename_i h2
   split at h
   ·rename_i h3
    split at h
    ·rename_i h4;simp only [Bool.and_eq_true, inr_iff, Bool.not_eq_true'] at h4
     split at h
     ·omega
     ·have h5 := outs_ff h4.2.2.2;refine ⟨by omega, by omega, h2, by omega, h4.1, h4.2.1, h4.2.2.1, by omega, fun k hk => ?_⟩;have := h5 k (by omega) (by omega);omega
    ·omega
   ·omega
 ·omega
structure TwOk (pl sh ti st : Dt) : Prop where
 plL : 1 <= pl.length /\ pl.length <= 16
 shL : sh.length <= 6
 tiL : 1 <= ti.length /\ ti.length <= 4
 stL : st.length <= 40
 each : ∀ i, i < st.length -> StOk pl.length sh.length ti.length st i
theorem tchk_ok {pl sh ti st : Dt} (h : tchkE pl sh ti st = 0) : TwOk pl sh ti st := by
 unfold tchkE tchk at h
 split at h
 ·rename_i h1;simp only [Bool.and_eq_true, inr_iff, Bool.not_eq_true', decide_eq_false_iff_not] at h1
  split at h
  ·split at h
   ·split at h
    ·split at h
     ·rename_i h5;exact absurd h (hasE_ix h5).2.2
     ·rename_i h5;exact ⟨by omega, by omega, by omega, by omega, fun i hi => stErr_ok (hasE_ff (by simpa using h5) i (by omega) (by omega))⟩
    ·contradiction
   ·contradiction
  ·contradiction
 ·simp at h
theorem sets_le {k : Nat} (h : k <= 6) : 1 <= sets k /\ sets k <= 64 := by
 unfold sets;have : k = 0 \/ k = 1 \/ k = 2 \/ k = 3 \/ k = 4 \/ k = 5 \/ k = 6 := by omega
 rcases this with rfl | rfl | rfl | rfl | rfl | rfl | rfl <;> decide
theorem sets_in {k : Nat} (h : k <= 20) : 1 <= sets k /\ sets k <= 1048576 := by
 unfold sets;have h1 : (1 : Nat) <= 2 ^ k := Nat.one_le_two_pow;have h2 : (2 : Nat) ^ k <= 2 ^ 20 := Nat.pow_le_pow_right (by omega) h;have e : ((2 : Int) ^ k) = ((2 ^ k : Nat) : Int) := by simp
 rw [e];have : (2 : Nat) ^ 20 = 1048576 := by decide
 omega
structure HdOk (hd : Dt) (i : Nat) : Prop where
 ba : 0 <= hBa hd i /\ hBa hd i <= 1000
 pe : 0 <= hPe hd i /\ hPe hd i <= 100
 lo : 0 <= hLo hd i
 hi : hHi hd i <= 100
 le : hLo hd i <= hHi hd i
theorem hdErr_ok {hd : Dt} {i : Nat} (h : hdErr hd i = 0) : HdOk hd i := by
 unfold hdErr at h
 split at h
 ·rename_i h1;simp only [Bool.and_eq_true, inr_iff] at h1
  split at h
  ·omega
  ·exact ⟨h1.1, h1.2.1, by omega, by omega, by omega⟩
 ·omega
structure RtOk (st rt : Dt) (ce : Int) (i : Nat) : Prop where
 len : 1 <= (rtL rt i).length /\ (rtL rt i).length <= 60
 e : stepsE st (rtL rt i) ce = 0
 toI : stepsT st (rtL rt i) ce = ce
theorem rtErr_ok {st rt : Dt} {ce : Int} {i : Nat} (h : rtErr st rt ce i = 0) : RtOk st rt ce i := by
 unfold rtErr at h
 split at h
 ·rename_i h1;rw [inr_iff] at h1
  split at h
  ·rename_i h2
   split at h
   ·rename_i h3; exact ⟨by omega, h2, h3⟩
   ·omega
  ·contradiction
 ·omega
theorem fol_street {st l : Dt} : ∀ {n i : Nat} {p : Int}, folE st l i n p = 0 -> ∀ k, i <= k -> k < i + n -> 0 <= xS l k /\ xS l k < st.length
 | 0, _, _, _, k, h1, h2 => by omega
 | n + 1, i, p, h, k, h1, h2 => by
  simp only [folE] at h
  split at h
  ·rename_i h3;rw [inr_iff] at h3
   split at h
   ·omega
   ·split at h
    ·rcases Nat.eq_or_lt_of_le h1 with e | e
     ·rw [<- e]; omega
     ·exact fol_street h k e (by omega)
    ·omega
  ·omega
theorem steps_street {st l : Dt} {p : Int} (h : stepsE st l p = 0) : l.length <= 1100 /\ ∀ k, k < l.length -> 0 <= xS l k /\ xS l k < st.length := by
 unfold stepsE at h
 split at h
 ·omega
 ·exact ⟨by omega, fun k hk => fol_street h k (by omega) (by omega)⟩
structure CrOk (pl sh ti st : Dt) (ce : Int) (hd rt : Dt) : Prop where
 tw : TwOk pl sh ti st
 te : tchkE pl sh ti st = 0
 ceI : 0 <= ce /\ ce < pl.length
 hl : hd.length = st.length
 rl : rt.length <= 10
 hdO : ∀ i, i < hd.length -> HdOk hd i
 rtO : ∀ i, i < rt.length -> RtOk st rt ce i
theorem cchk_ok {pl sh ti st : Dt} {ce : Int} {hd rt : Dt} (h : cE pl sh ti st ce hd rt = 0) : CrOk pl sh ti st ce hd rt := by
 unfold cE cchk at h
 split at h
 ·rename_i h1
  split at h
  ·rename_i h2;rw [inr_iff] at h2
   split at h
   ·rename_i h3
    split at h
    ·rename_i h5;exact absurd h (hasE_ix h5).2.2
    ·rename_i h5
     split at h
     ·rename_i h6;exact absurd h (hasE_ix h6).2.2
     ·rename_i h6;exact ⟨tchk_ok h1, h1, by omega, by omega, by omega, fun i hi => hdErr_ok (hasE_ff (by simpa using h5) i (by omega) (by omega)), fun i hi => rtErr_ok (hasE_ff (by simpa using h6) i (by omega) (by omega))⟩
   ·simp at h
  ·simp at h
 ·contradiction
theorem tms_out {pl sh ti st : Dt} {ce : Int} {hd rt : Dt} (h : CrOk pl sh ti st ce hd rt) {a s : Nat} (ha : a < rt.length) (hs : st.length <= s) : tms rt a s = 0 := by
 unfold tms;refine cnt_none _ _ _ _ _ fun k _ hk => ?_;have := (steps_street (h.rtO a ha).e).2 k (by omega);omega
theorem at_in {hd : Dt} {s : Nat} {t : Int} (h : HdOk hd s) (h0 : 0 <= t) (h1 : t <= 100) : 0 <= atH hd s t /\ atH hd s t <= 11000 := by
 have := h.ba;have := h.pe;unfold atH;have a := Int.mul_nonneg h.pe.1 h0;have b : hPe hd s * t <= 100 * 100 := Int.mul_le_mul h.pe.2 h1 h0 (by omega);omega
theorem mul_in {n x : Int} (h0 : -60 <= n) (h1 : n <= 60) (h2 : 0 <= x) (h3 : x <= 11000) : -660000 <= n * x /\ n * x <= 660000 := by
 have a : n * x <= 60 * 11000 := Int.le_trans (Int.mul_le_mul_of_nonneg_right h1 h2) (Int.mul_le_mul_of_nonneg_left h3 (by omega));have b : (-n) * x <= 60 * 11000 := Int.le_trans (Int.mul_le_mul_of_nonneg_right (by omega) h2) (Int.mul_le_mul_of_nonneg_left h3 (by omega));rw [Int.neg_mul] at b;omega
end Sp
namespace Sp
def rI (l : Dt) (k : Nat) : Nat := (cel l k 0).int.toNat
def okF (rt : Dt) (dm : Int) (l : Dt) (a : Nat) : Nat -> Nat -> Bool
 | _, 0 => true
 | k, n + 1 => !decide (((dfF rt a (rI l k) 0 40).length : Int) < dm) && okF rt dm l a (k + 1) n
def okP (rt : Dt) (dm : Int) (l : Dt) (a : List Cl) : Bool := okF rt dm l (keyR a).toNat 0 l.length
def nowF (hd rt l : Dt) (a : Nat) : Nat -> Nat -> Int -> Int
 | _, 0, b => b
 | k, n + 1, b => nowF hd rt l a (k + 1) n (max b (most hd rt a (rI l k)))
def nowP (hd rt : Dt) (l : Dt) (a : List Cl) (b : Int) : Int := nowF hd rt l (keyR a).toNat 0 l.length b
def mkF (rt : Dt) (ns : Nat) (dm : Int) (l : Dt) (i : Nat) : Nat -> Nat -> Bool
 | _, 0 => true
 | k, n + 1 => !(decide (((dfF rt (rI l k) (rI l i) 0 ns).length : Int) < dm) || decide ((cel l k 0).int = (cel l i 0).int)) && mkF rt ns dm l i (k + 1) n
def mtF (p : Nat -> Bool) (rt : Dt) (ns : Nat) (dm : Int) (l : Dt) : Nat -> Nat -> Bool
 | _, 0 => true
 | i, n + 1 => p (rI l i) && (mkF rt ns dm l i 0 i && mtF p rt ns dm l (i + 1) n)
def bkF (hd rt l : Dt) (i : Nat) : Nat -> Nat -> Int -> Int
 | _, 0, b => b
 | k, n + 1, b => bkF hd rt l i (k + 1) n (max b (most hd rt (rI l k) (rI l i)))
def bdF (hd rt l : Dt) : Nat -> Nat -> Int -> Int
 | _, 0, b => b
 | i, n + 1, b => bdF hd rt l (i + 1) n (bkF hd rt l i 0 i b)
def bfF (x y : Dt) : Nat -> Nat -> Bool
 | _, 0 => false
 | i, n + 1 => if (cel x i 0).int = (cel y i 0).int then bfF x y (i + 1) n else decide ((cel x i 0).int < (cel y i 0).int)
def bfB (x y : Dt) : Bool := bfF x y 0 x.length
def meets (p : Nat -> Bool) (rt : Dt) (ns : Nat) (dm many : Int) (l : Dt) : Bool := decide ((l.length : Int) = many) && mtF p rt ns dm l 0 l.length
def refF (p : Nat -> Bool) (hd rt : Dt) (dm many : Int) : Nat -> Nat -> Dt × Int -> Dt × Int
 | _, 0, x => x
 | s, n + 1, x => refF p hd rt dm many (s + 1) n (if meets p rt hd.length dm many (selF (has s) 0 rt.length) then Pk.stpR bfB x (selF (has s) 0 rt.length, bdF hd rt (selF (has s) 0 rt.length) 0 (selF (has s) 0 rt.length).length 0) else x)
def lsts (p : Nat -> Bool) (hd rt : Dt) (dm many : Int) : Nat -> Nat -> List (Dt × Int)
 | _, 0 => []
 | s, n + 1 => if meets p rt hd.length dm many (selF (has s) 0 rt.length) then (selF (has s) 0 rt.length, bdF hd rt (selF (has s) 0 rt.length) 0 (selF (has s) 0 rt.length).length 0) :: lsts p hd rt dm many (s + 1) n else lsts p hd rt dm many (s + 1) n
theorem refF_eq {p : Nat -> Bool} {hd rt : Dt} {dm many : Int} : ∀ (n s : Nat) (x : Dt × Int), refF p hd rt dm many s n x = (lsts p hd rt dm many s n).foldl (Pk.stpR bfB) x
 | 0, _, _ => rfl
 | n + 1, s, x => by
  simp only [refF, lsts];rw [refF_eq n (s + 1)]
  split <;> rfl
theorem mem_lsts {p : Nat -> Bool} {hd rt : Dt} {dm many : Int} {y : Dt × Int} : ∀ {n s : Nat}, y ∈ lsts p hd rt dm many s n ↔ ∃ t, s <= t /\ t < s + n /\ meets p rt hd.length dm many (selF (has t) 0 rt.length) = true /\ y = (selF (has t) 0 rt.length, bdF hd rt (selF (has t) 0 rt.length) 0 (selF (has t) 0 rt.length).length 0)
 | 0, s => by
  simp only [lsts, List.not_mem_nil, false_iff];rintro ⟨t, h1, h2, _⟩; omega
 | n + 1, s => by
  have ih := @mem_lsts p hd rt dm many y n (s + 1);simp only [lsts];constructor
  ·intro h
   split at h
   ·rename_i hm;rcases List.mem_cons.1 h with h | h
    ·exact ⟨s, by omega, by omega, hm, h⟩
    ·obtain ⟨t, h1, h2, h3⟩ := ih.1 h; exact ⟨t, by omega, by omega, h3⟩
   ·obtain ⟨t, h1, h2, h3⟩ := ih.1 h; exact ⟨t, by omega, by omega, h3⟩
  ·rintro ⟨t, h1, h2, h3, h4⟩;rcases Nat.eq_or_lt_of_le h1 with e | e
   ·subst e; rw [if_pos h3]; exact List.mem_cons.2 (.inl h4)
   ·have := ih.2 ⟨t, e, by omega, h3, h4⟩
    split
    ·exact List.mem_cons_of_mem _ this
    ·exact this
theorem cel_at {l : Dt} {k : Nat} (h : k < l.length) : cel l k 0 = l[k].getD 0 .z := by
 unfold cel;rw [show l.getD k [] = l[k] by rw [List.getD_eq_getElem?_getD, List.getElem?_eq_getElem h]; rfl]
theorem cel_app {l e : Dt} {k : Nat} (h : k < l.length) : cel (l ++ e) k 0 = cel l k 0 := by
 rw [cel_at h, cel_at (by simp; omega), List.getElem_append_left h]
theorem cel_app0 {l e : Dt} {a : List Cl} : (cel (l ++ a :: e) l.length 0) = a.getD 0 .z := by
 rw [cel_at (by simp), List.getElem_append_right (Nat.le_refl _)];simp
theorem rI_app {l e : Dt} {k : Nat} (h : k < l.length) : rI (l ++ e) k = rI l k := by unfold rI; rw [cel_app h]
theorem rI_app0 {l e : Dt} {a : List Cl} : rI (l ++ a :: e) l.length = (keyR a).toNat := by unfold rI keyR; rw [cel_app0]
theorem dfF_add (rt : Dt) (a b : Nat) : ∀ (m n s : Nat), dfF rt a b s (m + n) = dfF rt a b s m ++ dfF rt a b (s + m) n
 | 0, n, s => by simp [dfF]
 | m + 1, n, s => by
  rw [show m + 1 + n = (m + n) + 1 by omega];simp only [dfF];rw [dfF_add rt a b m n (s + 1), show s + 1 + m = s + (m + 1) by omega]
  split <;> rfl
theorem dfF_none (rt : Dt) (a b : Nat) : ∀ (n s : Nat), (∀ k, s <= k -> k < s + n -> tms rt a k = 0 /\ tms rt b k = 0) -> dfF rt a b s n = []
 | 0, _, _ => rfl
 | n + 1, s, h => by
  simp only [dfF];rw [if_pos (by rw [(h s (by omega) (by omega)).1, (h s (by omega) (by omega)).2])];exact dfF_none rt a b n (s + 1) fun k h1 h2 => h k (by omega) (by omega)
theorem df40 {pl sh ti st : Dt} {ce : Int} {hd rt : Dt} (h : CrOk pl sh ti st ce hd rt) {a b : Nat} (ha : a < rt.length) (hb : b < rt.length) : dfF rt a b 0 40 = dfF rt a b 0 hd.length := by
 have h1 := h.tw.stL;have h2 := h.hl;rw [show 40 = hd.length + (40 - hd.length) by omega, dfF_add, dfF_none rt a b (40 - hd.length) (0 + hd.length) fun k h3 h4 => ⟨tms_out h ha (by omega), tms_out h hb (by omega)⟩, List.append_nil]
def RowsIn (n : Nat) (l : Dt) : Prop := ∀ k, k < l.length -> rI l k < n
section
variable {pl sh ti st : Dt} {ce : Int} {hd rt : Dt} (h : CrOk pl sh ti st ce hd rt)
include h
theorem ok_mk {dm : Int} {l e : Dt} {a : List Cl} (hr : RowsIn rt.length (l ++ a :: e)) (hd' : ∀ k, k < l.length -> (cel l k 0).int ≠ keyR a) : ∀ (n k : Nat), k + n = l.length -> mkF rt hd.length dm (l ++ a :: e) l.length k n = okF rt dm l (keyR a).toNat k n
 | 0, _, _ => rfl
 | n + 1, k, hk => by
  have h1 : rI l k < rt.length := by have := hr k (by simp; omega); rwa [rI_app (by omega)] at this
  have h2 : (keyR a).toNat < rt.length := by have := hr l.length (by simp); rwa [rI_app0] at this
  simp only [mkF, okF];rw [ok_mk hr hd' n (k + 1) (by omega), rI_app (by omega), rI_app0, df40 h h2 h1, df_swap rt (keyR a).toNat (rI l k), cel_app (by omega : k < l.length), cel_app0, show decide ((cel l k 0).int = (a.getD 0 .z).int) = false from decide_eq_false (hd' k (by omega)), Bool.or_false]
theorem now_bk {l e : Dt} {a : List Cl} : ∀ (n k : Nat) (b : Int), k + n = l.length -> bkF hd rt (l ++ a :: e) l.length k n b = nowF hd rt l (keyR a).toNat k n b
 | 0, _, _, _ => rfl
 | n + 1, k, b, hk => by
  simp only [bkF, nowF];rw [now_bk n (k + 1) _ (by omega), rI_app (by omega), rI_app0, most_swap]
theorem all_mt {p : Nat -> Bool} {dm : Int} : ∀ (e l : Dt), RowsIn rt.length (l ++ e) -> (l ++ e).Pairwise (fun a b => keyR a < keyR b) -> (∀ r ∈ e, p (keyR r).toNat = true) -> (Pk.okAll (okP rt dm) l e ↔ mtF p rt hd.length dm (l ++ e) l.length e.length = true)
 | [], l, _, _, _ => by simp [Pk.okAll, mtF]
 | a :: e, l, hr, hp, hq => by
  have hp2 := List.pairwise_append.1 hp;have hne : ∀ k, k < l.length -> (cel l k 0).int ≠ keyR a := fun k hk => by
   have := hp2.2.2 l[k] (List.getElem_mem hk) a (by simp);rw [cel_at hk];have e : (l[k].getD 0 .z).int = keyR l[k] := rfl;omega
  have ih := all_mt (p := p) (dm := dm) e (l ++ [a]) (by simpa using hr) (by simpa using hp) fun r hr => hq r (by simp [hr]);rw [List.append_assoc, List.singleton_append, List.length_append, List.length_singleton] at ih;simp only [Pk.okAll, mtF, List.length_cons];rw [ih, rI_app0, hq a (by simp), ok_mk h hr hne l.length 0 (by omega), Bool.true_and, Bool.and_eq_true];rfl
theorem all_bd : ∀ (e l : Dt) (b : Int), Pk.nowAll (nowP hd rt) l e b = bdF hd rt (l ++ e) l.length e.length b
 | [], l, b => rfl
 | a :: e, l, b => by
  have ih := all_bd e (l ++ [a]) (nowP hd rt l a b);rw [List.append_assoc, List.singleton_append, List.length_append, List.length_singleton] at ih;simp only [Pk.nowAll, bdF, List.length_cons];rw [ih, now_bk h l.length 0 b (by omega)];rfl
end
theorem nowF_ge (hd rt l : Dt) (a : Nat) : ∀ (n k : Nat) (b : Int), b <= nowF hd rt l a k n b
 | 0, _, _ => Int.le_refl _
 | n + 1, k, b => by
  have := nowF_ge hd rt l a n (k + 1) (max b (most hd rt a (rI l k)));simp only [nowF]; omega
structure Asc (n : Nat) (l : Dt) : Prop where
 sub : l.Sublist (rwF 0 n)
theorem Asc.up {n : Nat} {l : Dt} (h : Asc n l) : l.Pairwise fun a b => keyR a < keyR b := (rwF_up n 0).sublist h.sub
theorem Asc.row {n : Nat} {l : Dt} (h : Asc n l) {r : List Cl} (hr : r ∈ l) : ∃ k : Nat, r = [Cl.i k] /\ k < n := by
 obtain ⟨k, h1, _, h2⟩ := rwF_row (h.sub.subset hr);exact ⟨k, h1, by omega⟩
theorem Asc.rows {n : Nat} {l : Dt} (h : Asc n l) : RowsIn n l := fun k hk => by
 obtain ⟨j, h1, h2⟩ := h.row (List.getElem_mem hk);unfold rI;rw [cel_at hk, h1];simpa [Cl.int] using h2
theorem Asc.cell {n : Nat} {l : Dt} (h : Asc n l) {k : Nat} (hk : k < l.length) : l[k] = [Cl.i (rI l k)] := by
 obtain ⟨j, h1, h2⟩ := h.row (List.getElem_mem hk);have : rI l k = j := by
  unfold rI;rw [cel_at hk, h1];simp [Cl.int]
 rw [this, h1]
theorem key_inj {n : Nat} {x y : Dt} (hx : Asc n x) (hy : Asc n y) (hl : x.length = y.length) : Pk.lx keyR x y \/ x = y \/ Pk.lx keyR y x := by
 have gen : ∀ {x y : Dt}, (∀ r ∈ x, ∃ k : Nat, r = [Cl.i k]) -> (∀ r ∈ y, ∃ k : Nat, r = [Cl.i k]) -> x.length = y.length -> Pk.lx keyR x y \/ x = y \/ Pk.lx keyR y x := fun {x} => by
  induction x with
  | nil =>
   intro y _ _ h3;cases y with
   | nil => exact .inr (.inl rfl)
   | cons _ _ => simp at h3
  | cons a x ih =>
   intro y h1 h2 h3;cases y with
   | nil => simp at h3
   | cons b y =>
    obtain ⟨j, rfl⟩ := h1 a (by simp);obtain ⟨k, rfl⟩ := h2 b (by simp);rcases Int.lt_trichotomy (keyR [Cl.i (j : Int)]) (keyR [Cl.i (k : Int)]) with e | e | e
    ·exact .inl (.inl e)
    ·have e' : (j : Int) = k := e;rcases ih (y := y) (fun r hr => h1 r (by simp [hr])) (fun r hr => h2 r (by simp [hr])) (by simpa using h3) with g | g | g
     ·exact .inl (.inr ⟨e, g⟩)
     ·exact .inr (.inl (by rw [e', g]))
     ·exact .inr (.inr (.inr ⟨e.symm, g⟩))
    ·exact .inr (.inr (.inl e))
 exact gen (fun r hr => by obtain ⟨k, h, _⟩ := hx.row hr; exact ⟨k, h⟩) (fun r hr => by obtain ⟨k, h, _⟩ := hy.row hr; exact ⟨k, h⟩) hl
theorem bf_lx {x y : Dt} : ∀ (n i : Nat), i + n = x.length -> x.length = y.length -> (bfF x y i n = true ↔ Pk.lx keyR (x.drop i) (y.drop i))
 | 0, i, h, hl => by
  rw [List.drop_eq_nil_of_le (by omega)];simp [bfF, Pk.lx]
 | n + 1, i, h, hl => by
  have h1 : i < x.length := by omega
  have h2 : i < y.length := by omega
  rw [List.drop_eq_getElem_cons h1, List.drop_eq_getElem_cons h2];have e1 : (cel x i 0).int = keyR x[i] := by rw [cel_at h1]; rfl
  have e2 : (cel y i 0).int = keyR y[i] := by rw [cel_at h2]; rfl
  have ih := bf_lx n (i + 1) (by omega) hl;simp only [bfF, Pk.lx, e1, e2]
  split
  ·rename_i e;rw [ih];constructor
   ·exact fun g => .inr ⟨e, g⟩
   ·rintro (g | g)
    ·omega
    ·exact g.2
  ·rename_i e;rw [decide_eq_true_eq];constructor
   ·exact fun g => .inl g
   ·rintro (g | g)
    ·exact g
    ·exact absurd g.1 e
theorem mem_both {pl sh ti st : Dt} {ce : Int} {hd rt : Dt} (h : CrOk pl sh ti st ce hd rt) {p : Nat -> Bool} {dm : Int} {m : Nat} (hm : m ≠ 0) (y : Dt × Int) :
  y ∈ lsts p hd rt dm m 1 (2 ^ rt.length - 1) ↔ y ∈ Pk.lv (okP rt dm) (nowP hd rt) (selF p 0 rt.length) m [] 0 := by
 rw [mem_lsts, Pk.mem_lv];have one : ∀ e : Dt, Asc rt.length e -> (meets p rt hd.length dm m e = true ↔ e.length = m /\ (∀ k : Nat, [Cl.i k] ∈ e -> p k = true) /\ Pk.okAll (okP rt dm) [] e) := fun e he => by
  unfold meets;rw [Bool.and_eq_true, decide_eq_true_eq];constructor
  ·rintro ⟨h1, h2⟩;have hp : ∀ (n i : Nat), i + n = e.length -> mtF p rt hd.length dm e i n = true -> ∀ k, i <= k -> k < i + n -> p (rI e k) = true := fun n => by
    induction n with
    | zero => intro i _ _ k h3 h4; omega
    | succ n ih =>
     intro i h3 h4 k h5 h6;simp only [mtF, Bool.and_eq_true] at h4;rcases Nat.eq_or_lt_of_le h5 with e | e
     ·rw [<- e]; exact h4.1
     ·exact ih (i + 1) (by omega) h4.2.2 k e (by omega)
   have hq : ∀ k : Nat, [Cl.i k] ∈ e -> p k = true := fun k hk => by
    obtain ⟨j, hj, e2⟩ := List.getElem_of_mem hk;have := hp e.length 0 (by omega) h2 j (by omega) (by omega);rw [he.cell hj] at e2;have e3 : ((rI e j : Nat) : Int) = k := by simpa using e2
    have e4 : rI e j = k := by omega
    rw [<- e4]; exact this
   refine ⟨by omega, hq, (all_mt h (p := p) e [] he.rows he.up fun r hr => ?_).2 h2⟩;obtain ⟨k, rfl, _⟩ := he.row hr;exact hq k hr
  ·rintro ⟨h1, h2, h3⟩;refine ⟨by omega, (all_mt h (p := p) e [] he.rows he.up fun r hr => ?_).1 h3⟩;obtain ⟨k, rfl, _⟩ := he.row hr;exact h2 k hr
 constructor
 ·rintro ⟨t, h1, h2, h3, rfl⟩;have hs : Asc rt.length (selF (has t) 0 rt.length) := ⟨lsF_sub _ _ _⟩;obtain ⟨g1, g2, g3⟩ := (one _ hs).1 h3;exact ⟨_, selF_mem.2 ⟨hs.sub, g2⟩, g1, rfl, g3, ((all_bd h _ [] 0).symm)⟩
 ·rintro ⟨e, h1, h2, h3, h4, h5⟩;have hs := selF_mem.1 h1;have ha : Asc rt.length e := ⟨hs.1⟩;have hne : e ≠ [] := fun g => by rw [g] at h2; exact hm h2.symm
  obtain ⟨t, t1, t2, rfl⟩ := (lsF_mem hne).1 hs.1;refine ⟨t, t1, by omega, (one _ ha).2 ⟨h2, hs.2, h4⟩, Prod.ext h3 ?_⟩;rw [h5, all_bd h]; rfl
theorem pick_same {pl sh ti st : Dt} {ce : Int} {hd rt : Dt} (h : CrOk pl sh ti st ce hd rt) (p : Nat -> Bool) (dm : Int) {m : Nat} (hm : m ≠ 0) :
  Pk.ch (okP rt dm) (nowP hd rt) (selF p 0 rt.length) m [] 0 ([], 0) = refF p hd rt dm m 1 (2 ^ rt.length - 1) ([], 0) := by
 rw [refF_eq];have hsel : (selF p 0 rt.length).Pairwise fun a b => keyR a < keyR b := (rwF_up rt.length 0).sublist (selF_mem.1 (List.Sublist.refl _)).1;refine Pk.ch_foldR (key := keyR) (Q := fun e => e.length = m /\ Asc rt.length e) (fun x y hx hy => ?_) (fun x y hx hy => key_inj hx.2 hy.2 (by rw [hx.1, hy.1])) (fun l a b => nowF_ge hd rt l _ _ _ _) hsel hm 0 (mem_both h hm) (fun y hy => ?_)
 ·have := bf_lx (x := x) (y := y) x.length 0 (by omega) (by rw [hx.1, hy.1]);simpa [bfB] using this
 ·obtain ⟨t, _, _, h3, rfl⟩ := mem_lsts.1 hy;have hs : Asc rt.length (selF (has t) 0 rt.length) := ⟨lsF_sub _ _ _⟩;unfold meets at h3;rw [Bool.and_eq_true, decide_eq_true_eq] at h3;have h4 := h3.1;exact ⟨by dsimp only; omega, hs⟩
end Sp
namespace Sp
def sumT (hd rt : Dt) (a : Nat) (tr : Dt) : Int := sumF (fun s => tms rt a s * atH hd s (cel tr s 0).int) 0 hd.length 0
structure TrOk (hd tr : Dt) : Prop where
 len : tr.length = hd.length
 each : ∀ s, s < hd.length -> hLo hd s <= (cel tr s 0).int /\ (cel tr s 0).int <= hHi hd s
def trB (hd tr : Dt) (s : Nat) : Int := if inr (cel tr s 0).int (hLo hd s) (hHi hd s) then 0 else 7
def trErr (hd tr : Dt) : Int := if (tr.length : Int) = hd.length then (if hasE (trB hd tr) 0 tr.length then 7 else 0) else 3
theorem sum_dif (hd rt : Dt) (a b : Nat) (tr : Dt) : sumT hd rt a tr - sumT hd rt b tr = sumF (fun s => dif rt a b s * atH hd s (cel tr s 0).int) 0 hd.length 0 := by
 unfold sumT;rw [sumF_sub];refine sumF_congr fun k _ _ => ?_;unfold dif;rw [Int.sub_mul]
theorem cel_gen {f : Nat -> Int} {n s : Nat} (h : s < n) : cel ((List.range n).map fun s => [Cl.i (f s)]) s 0 = Cl.i (f s) := by
 unfold cel;rw [List.getD_eq_getElem?_getD, List.getD_eq_getElem?_getD, List.getElem?_map, List.getElem?_range h];rfl
theorem sum_le (hd rt : Dt) (a b : Nat) : sumT hd rt a (apLe hd rt a b hd.length) - sumT hd rt b (apLe hd rt a b hd.length) = apLo hd rt a b := by
 rw [sum_dif];unfold apLo apLe;exact sumF_congr fun k _ hk => by rw [cel_gen (by omega)]; rfl
theorem sum_gr (hd rt : Dt) (a b : Nat) : sumT hd rt a (apGr hd rt a b hd.length) - sumT hd rt b (apGr hd rt a b hd.length) = apHi hd rt a b := by
 rw [sum_dif];unfold apHi apGr;exact sumF_congr fun k _ hk => by rw [cel_gen (by omega)]; rfl
theorem leT_in {hd : Dt} {n : Int} {s : Nat} (h : HdOk hd s) : hLo hd s <= leT hd n s /\ leT hd n s <= hHi hd s := by
 have := h.le;unfold leT
 repeat' split
 all_goals omega
theorem grT_in {hd : Dt} {n : Int} {s : Nat} (h : HdOk hd s) : hLo hd s <= grT hd n s /\ grT hd n s <= hHi hd s := by
 have := h.le;unfold grT
 repeat' split
 all_goals omega
theorem le_tr {hd rt : Dt} {a b : Nat} (h : ∀ i, i < hd.length -> HdOk hd i) : TrOk hd (apLe hd rt a b hd.length) := ⟨by unfold apLe; simp, fun s hs => by unfold apLe; rw [cel_gen hs]; exact leT_in (h s hs)⟩
theorem gr_tr {hd rt : Dt} {a b : Nat} (h : ∀ i, i < hd.length -> HdOk hd i) : TrOk hd (apGr hd rt a b hd.length) := ⟨by unfold apGr; simp, fun s hs => by unfold apGr; rw [cel_gen hs]; exact grT_in (h s hs)⟩
theorem far_in {hd rt tr : Dt} {a b : Nat} (h : ∀ i, i < hd.length -> HdOk hd i) (ht : TrOk hd tr) : apLo hd rt a b <= sumT hd rt a tr - sumT hd rt b tr /\ sumT hd rt a tr - sumT hd rt b tr <= apHi hd rt a b := by
 rw [sum_dif];unfold apLo apHi;refine ⟨sumF_le (fun k _ hk => ?_) (Int.le_refl _), sumF_le (fun k _ hk => ?_) (Int.le_refl _)⟩
 ·exact (ap_in (h k (by omega)).pe.1 (ht.each k (by omega)).1 (ht.each k (by omega)).2).1
 ·exact (ap_in (h k (by omega)).pe.1 (ht.each k (by omega)).1 (ht.each k (by omega)).2).2
def far (hd rt : Dt) (a b : Nat) (tr : Dt) : Int := max (sumT hd rt a tr - sumT hd rt b tr) (-(sumT hd rt a tr - sumT hd rt b tr))
def haLo (hd rt : Dt) (a : Nat) : Int := sumF (fun s => tms rt a s * atH hd s (hLo hd s)) 0 hd.length 0
def haHi (hd rt : Dt) (a : Nat) : Int := sumF (fun s => tms rt a s * atH hd s (hHi hd s)) 0 hd.length 0
end Sp
namespace Sp
def bound (hd rt l : Dt) : Int := bdF hd rt l 0 l.length 0
def pickR (p : Nat -> Bool) (hd rt : Dt) (dm many : Int) : Dt × Int := refF p hd rt dm many 1 (2 ^ rt.length - 1) ([], 0)
theorem meets_len {p : Nat -> Bool} {rt : Dt} {ns : Nat} {dm many : Int} {l : Dt} (h : meets p rt ns dm many l = true) : (l.length : Int) = many := by
 unfold meets at h;rw [Bool.and_eq_true, decide_eq_true_eq] at h;exact h.1
theorem pick_facts (p : Nat -> Bool) (hd rt : Dt) (dm many : Int) (hm : 1 <= many) :
  (pickR p hd rt dm many = ([], 0) /\ ∀ l, Asc rt.length l -> meets p rt hd.length dm many l = false) \/
  ((pickR p hd rt dm many).1 ≠ [] /\ Asc rt.length (pickR p hd rt dm many).1 /\ meets p rt hd.length dm many (pickR p hd rt dm many).1 = true /\ (pickR p hd rt dm many).2 = bound hd rt (pickR p hd rt dm many).1 /\
   ∀ l, Asc rt.length l -> meets p rt hd.length dm many l = true -> (pickR p hd rt dm many).2 <= bound hd rt l) := by
 have hne : ∀ y ∈ lsts p hd rt dm many 1 (2 ^ rt.length - 1), y.1 ≠ [] /\ ((y.1.length : Int) = many /\ Asc rt.length y.1) := fun y hy => by
  obtain ⟨t, _, _, h3, rfl⟩ := mem_lsts.1 hy;have h4 := meets_len h3;exact ⟨fun g => by dsimp only at g; rw [g] at h4; simp at h4; omega, h4, ⟨lsF_sub _ _ _⟩⟩
 have hmem : ∀ l, Asc rt.length l -> meets p rt hd.length dm many l = true -> (l, bound hd rt l) ∈ lsts p hd rt dm many 1 (2 ^ rt.length - 1) := fun l ha hl => by
  have hn : l ≠ [] := fun g => by
   have h4 := meets_len hl;rw [g] at h4; simp at h4; omega
  obtain ⟨t, t1, t2, rfl⟩ := (lsF_mem hn).1 ha.sub;exact mem_lsts.2 ⟨t, t1, by omega, hl, rfl⟩
 have hall := Pk.foldR_all (key := keyR) (lxB := bfB) (Q := fun e => (e.length : Int) = many /\ Asc rt.length e) (fun x y hx hy => by
  have hl : x.length = y.length := by have := hx.1; have := hy.1; omega
  have := bf_lx (x := x) (y := y) x.length 0 (by omega) hl;simpa [bfB] using this) (fun x y hx hy => key_inj hx.2 hy.2 (by have := hx.1; have := hy.1; omega)) 0 hne
 rw [<- refF_eq] at hall
 change (_ /\ pickR p hd rt dm many = _) \/ Pk.Least keyR _ (pickR p hd rt dm many) at hall
 rcases hall with ⟨h1, h2⟩ | ⟨h1, h2⟩
 ·refine .inl ⟨h2, fun l ha => ?_⟩;cases hl : meets p rt hd.length dm many l with
  | false => rfl
  | true =>
   have := hmem l ha hl;rw [h1] at this;cases this
 ·refine .inr ⟨(hne _ h1).1, (hne _ h1).2.2, ?_, ?_, fun l ha hl => ?_⟩
  ·obtain ⟨t, _, _, h3, h4⟩ := mem_lsts.1 h1;rw [h4]; exact h3
  ·obtain ⟨t, _, _, h3, h4⟩ := mem_lsts.1 h1;rw [h4]; rfl
  ·have := h2 _ (hmem l ha hl);dsimp only at this;omega
theorem bd_mono {hd hd' rt rt' l l' : Dt} : ∀ (n i : Nat) (b b' : Int), b <= b' -> (∀ j, i <= j -> j < i + n -> ∀ k, k < j -> most hd rt (rI l k) (rI l j) <= most hd' rt' (rI l' k) (rI l' j)) -> bdF hd rt l i n b <= bdF hd' rt' l' i n b'
 | 0, _, _, _, h, _ => h
 | n + 1, i, b, b', h, hm => by
  simp only [bdF];refine bd_mono n (i + 1) _ _ ?_ fun j h1 h2 k hk => hm j (by omega) (by omega) k hk;have gen : ∀ (n k : Nat) (b b' : Int), k + n = i -> b <= b' -> bkF hd rt l i k n b <= bkF hd' rt' l' i k n b' := fun n => by
   induction n with
   | zero => intro k b b' _ h; exact h
   | succ n ih =>
    intro k b b' hk h;simp only [bkF];refine ih (k + 1) _ _ (by omega) ?_;have := hm i (by omega) (by omega) k (by omega);omega
  exact gen i 0 b b' (by omega) h
end Sp
namespace Sp
structure Wider (hd hd' : Dt) : Prop where
 len : hd'.length = hd.length
 ba : ∀ s, s < hd.length -> hBa hd' s = hBa hd s
 pe : ∀ s, s < hd.length -> hPe hd' s = hPe hd s
 lo : ∀ s, s < hd.length -> hLo hd' s <= hLo hd s
 hi : ∀ s, s < hd.length -> hHi hd s <= hHi hd' s
theorem Wider.tr {hd hd' tr : Dt} (h : Wider hd hd') (ht : TrOk hd tr) : TrOk hd' tr := ⟨by rw [ht.len, h.len], fun s hs => by
 rw [h.len] at hs;have := ht.each s hs;have := h.lo s hs;have := h.hi s hs;omega⟩
theorem Wider.sum {hd hd' : Dt} (h : Wider hd hd') (rt : Dt) (a : Nat) (tr : Dt) : sumT hd' rt a tr = sumT hd rt a tr := by
 unfold sumT;rw [h.len];refine sumF_congr fun k _ hk => ?_;unfold atH;rw [h.ba k (by omega), h.pe k (by omega)]
theorem Wider.ap {hd hd' : Dt} (h : Wider hd hd') (h1 : ∀ i, i < hd.length -> HdOk hd i) (h2 : ∀ i, i < hd'.length -> HdOk hd' i) (rt : Dt) (a b : Nat) : apLo hd' rt a b <= apLo hd rt a b /\ apHi hd rt a b <= apHi hd' rt a b := by
 have g1 := far_in (rt := rt) (a := a) (b := b) h2 (h.tr (le_tr (rt := rt) (a := a) (b := b) h1));have g2 := far_in (rt := rt) (a := a) (b := b) h2 (h.tr (gr_tr (rt := rt) (a := a) (b := b) h1));rw [h.sum, h.sum] at g1 g2;rw [sum_le] at g1;rw [sum_gr] at g2;omega
theorem Wider.most {hd hd' : Dt} (h : Wider hd hd') (h1 : ∀ i, i < hd.length -> HdOk hd i) (h2 : ∀ i, i < hd'.length -> HdOk hd' i) (rt : Dt) (a b : Nat) : most hd rt a b <= most hd' rt a b := by
 have := h.ap h1 h2 rt a b;unfold Sp.most; omega
theorem Wider.ha {hd hd' : Dt} (h : Wider hd hd') (h1 : ∀ i, i < hd.length -> HdOk hd i) (rt : Dt) (a : Nat) : haLo hd' rt a <= haLo hd rt a /\ haHi hd rt a <= haHi hd' rt a := by
 unfold haLo haHi;rw [h.len];refine ⟨sumF_le (fun k _ hk => ?_) (Int.le_refl _), sumF_le (fun k _ hk => ?_) (Int.le_refl _)⟩
 ·unfold atH;rw [h.ba k (by omega), h.pe k (by omega)];exact mul_up (tms_in rt a k).1 (h1 k (by omega)).pe.1 (h.lo k (by omega))
 ·unfold atH;rw [h.ba k (by omega), h.pe k (by omega)];exact mul_up (tms_in rt a k).1 (h1 k (by omega)).pe.1 (h.hi k (by omega))
theorem Wider.pick {hd hd' : Dt} (h : Wider hd hd') (h1 : ∀ i, i < hd.length -> HdOk hd i) (h2 : ∀ i, i < hd'.length -> HdOk hd' i) {p : Nat -> Bool} {rt : Dt} {dm many : Int} (hm : 1 <= many) (hp : (pickR p hd rt dm many).1 ≠ []) :
  (pickR p hd' rt dm many).1 ≠ [] /\ (pickR p hd rt dm many).2 <= (pickR p hd' rt dm many).2 := by
 rcases pick_facts p hd rt dm many hm with ⟨f, _⟩ | ⟨_, f2, f3, f4, f5⟩
 ·rw [f] at hp; exact absurd rfl hp
 rcases pick_facts p hd' rt dm many hm with ⟨g1, g2⟩ | ⟨g1, g2, g3, g4, g5⟩
 ·have := g2 _ f2;rw [h.len, f3] at this;cases this
 ·refine ⟨g1, ?_⟩;rw [h.len] at g3;have := f5 _ g2 g3;have h3 : bound hd rt (pickR p hd' rt dm many).1 <= bound hd' rt (pickR p hd' rt dm many).1 := bd_mono _ _ _ _ (Int.le_refl _) fun j _ _ k _ => h.most h1 h2 rt _ _;omega
def cut (rt : Dt) (r : Nat) : Dt := rt.take r ++ rt.drop (r + 1)
end Sp
namespace Sp
def hasK (hd rt l : Dt) (bd : Int) (i : Nat) : Nat -> Nat -> Bool
 | _, 0 => false
 | k, n + 1 => !decide (most hd rt (rI l i) (rI l k) <= bd) || hasK hd rt l bd i (k + 1) n
def ixK (hd rt l : Dt) (bd : Int) (i : Nat) : Nat -> Nat -> Nat
 | k, 0 => k
 | k, n + 1 => if most hd rt (rI l i) (rI l k) <= bd then ixK hd rt l bd i (k + 1) n else k
def hasD (hd rt l : Dt) (bd : Int) : Nat -> Nat -> Bool
 | _, 0 => false
 | i, n + 1 => hasK hd rt l bd i (i + 1) n || hasD hd rt l bd (i + 1) n
def ixD (hd rt l : Dt) (bd : Int) : Nat -> Nat -> Nat × Nat
 | i, 0 => (i, i)
 | i, n + 1 => if hasK hd rt l bd i (i + 1) n then (i, ixK hd rt l bd i (i + 1) n) else ixD hd rt l bd (i + 1) n
def worst (hd rt : Dt) (a b : Nat) : Dt := if apHi hd rt a b <= -apLo hd rt a b then apLe hd rt a b hd.length else apGr hd rt a b hd.length
def dbA (hd rt l : Dt) (bd : Int) : Int := if hasD hd rt l bd 0 l.length then (cel l (ixD hd rt l bd 0 l.length).1 0).int else -1
def dbB (hd rt l : Dt) (bd : Int) : Int := if hasD hd rt l bd 0 l.length then (cel l (ixD hd rt l bd 0 l.length).2 0).int else -1
def dbT (hd rt l : Dt) (bd : Int) : Dt := if hasD hd rt l bd 0 l.length then worst hd rt (rI l (ixD hd rt l bd 0 l.length).1) (rI l (ixD hd rt l bd 0 l.length).2) else []
def rcK (hd rt l : Dt) (bd : Int) (i : Nat) : Nat -> Nat -> Bool -> Bool
 | _, 0, f => f
 | k, n + 1, f => rcK hd rt l bd i (k + 1) n (f || (decide (far hd rt (rI l i) (rI l k) (apLe hd rt (rI l i) (rI l k) hd.length) = bd) || decide (far hd rt (rI l i) (rI l k) (apGr hd rt (rI l i) (rI l k) hd.length) = bd)))
end Sp
namespace Sp
structure Way (st l : Dt) (i n : Nat) (p q : Int) (pos : Nat -> Int) : Prop where
 b : pos i = p
 e : pos (i + n) = q
 each : ∀ k, i <= k -> k < i + n -> (0 <= xS l k /\ xS l k < st.length) /\ (xB l k = true -> sBo st (xS l k).toNat = true) /\ xFr st l k = pos k /\ xTo st l k = pos (k + 1)
theorem way_of {st l : Dt} : ∀ {n i : Nat} {p : Int}, folE st l i n p = 0 -> ∃ pos, Way st l i n p (folT st l i n p) pos
 | 0, i, p, _ => ⟨fun _ => p, ⟨rfl, rfl, fun k h1 h2 => by omega⟩⟩
 | n + 1, i, p, h => by
  simp only [folE] at h
  split at h
  ·rename_i h1
   split at h
   ·omega
   ·rename_i h2
    split at h
    ·rename_i h3;obtain ⟨pos, w⟩ := way_of h;have ht : folT st l i (n + 1) p = folT st l (i + 1) n (xTo st l i) := by
      simp only [folT];rw [if_pos h1, if_neg h2, if_pos h3]
     rw [ht];refine ⟨fun k => if k = i then p else pos k, ⟨if_pos rfl, ?_, fun k h4 h5 => ?_⟩⟩
     ·rw [if_neg (by omega), show i + (n + 1) = i + 1 + n by omega];exact w.e
     ·rcases Nat.eq_or_lt_of_le h4 with e | e
      ·subst e;rw [if_pos rfl, if_neg (by omega), w.b];rw [inr_iff] at h1;refine ⟨by omega, fun hb => ?_, h3, rfl⟩;simpa [hb] using h2
      ·rw [if_neg (by omega), if_neg (by omega)];exact w.each k e (by omega)
    ·omega
  ·omega
theorem fol_of {st l : Dt} {pos : Nat -> Int} : ∀ {n i : Nat} {p q : Int}, Way st l i n p q pos -> folE st l i n p = 0 /\ folT st l i n p = q
 | 0, i, p, q, w => ⟨rfl, by have := w.b; have := w.e; simp only [folT]; simp only [Nat.add_zero] at *; omega⟩
 | n + 1, i, p, q, w => by
  have h0 := w.each i (by omega) (by omega);have ih := fol_of (n := n) (i := i + 1) (p := xTo st l i) (q := q) (pos := pos) ⟨h0.2.2.2.symm, by rw [<- w.e]; congr 1; omega, fun k h1 h2 => w.each k (by omega) (by omega)⟩;have h1 : inr (xS l i) 0 ((st.length : Int) - 1) = true := inr_iff.2 (by omega);have h2 : ¬ (xB l i && !sBo st (xS l i).toNat) = true := by
   cases hb : xB l i with
   | false => simp
   | true => simp [h0.2.1 hb]
  simp only [folE, folT];rw [if_pos h1, if_neg h2, if_pos (by rw [h0.2.2.1, w.b]), if_pos h1, if_neg h2, if_pos (by rw [h0.2.2.1, w.b])];exact ih
structure Both (st st' : Dt) : Prop where
 len : st'.length = st.length
 same : ∀ i k, k ≠ 5 -> cel st' i k = cel st i k
 both : ∀ i, i < st.length -> sBo st' i = true
theorem Both.fr {st st' : Dt} (h : Both st st') (i : Nat) : sFr st' i = sFr st i /\ sTo st' i = sTo st i := by
 unfold sFr sTo;rw [h.same i 0 (by omega), h.same i 1 (by omega)];exact ⟨rfl, rfl⟩
theorem Both.xfr {st st' : Dt} (h : Both st st') (l : Dt) (i : Nat) : xFr st' l i = xFr st l i /\ xTo st' l i = xTo st l i := by
 unfold xFr xTo;rw [(h.fr _).1, (h.fr _).2];exact ⟨rfl, rfl⟩
theorem Both.way {st st' l : Dt} {i n : Nat} {p q : Int} {pos : Nat -> Int} (h : Both st st') (w : Way st l i n p q pos) : Way st' l i n p q pos := ⟨w.b, w.e, fun k h1 h2 => by
 have h3 := w.each k h1 h2;rw [h.len, (h.xfr l k).1, (h.xfr l k).2];exact ⟨h3.1, fun _ => h.both _ (by omega), h3.2.2⟩⟩
def backL (l : Dt) : Dt := (List.range l.length).map fun j => [Cl.i (xS l (l.length - 1 - j)), Cl.b (!xB l (l.length - 1 - j))]
theorem back_len (l : Dt) : (backL l).length = l.length := by unfold backL; simp
theorem back_cel {l : Dt} {j : Nat} (h : j < l.length) : xS (backL l) j = xS l (l.length - 1 - j) /\ xB (backL l) j = !xB l (l.length - 1 - j) := by
 unfold xS xB cel;rw [show (backL l).getD j [] = [Cl.i (xS l (l.length - 1 - j)), Cl.b (!xB l (l.length - 1 - j))] by
  unfold backL;rw [List.getD_eq_getElem?_getD, List.getElem?_map, List.getElem?_range h]; rfl]
 exact ⟨rfl, rfl⟩
theorem back_way {st l : Dt} {p q : Int} {pos : Nat -> Int} (hb : ∀ i, i < st.length -> sBo st i = true) (w : Way st l 0 l.length p q pos) : Way st (backL l) 0 (backL l).length q p (fun j => pos (l.length - j)) := by
 rw [back_len];refine ⟨by rw [<- w.e]; simp, by simp only [Nat.zero_add, Nat.sub_self]; exact w.b, fun k _ hk => ?_⟩;have hk' : k < l.length := by omega
 have h0 := w.each (l.length - 1 - k) (by omega) (by omega);have hc := back_cel hk';unfold xFr xTo;rw [hc.1, hc.2];refine ⟨h0.1, fun _ => hb _ (by omega), ?_, ?_⟩
 ·have := h0.2.2.2;unfold xTo at this;rw [show l.length - 1 - k + 1 = l.length - k by omega] at this;rw [<- this];cases xB l (l.length - 1 - k) <;> rfl
 ·have := h0.2.2.1;unfold xFr at this;rw [show l.length - (k + 1) = l.length - 1 - k by omega, <- this];cases xB l (l.length - 1 - k) <;> rfl
theorem steps_back {st st' l : Dt} {p : Int} (h : Both st st') (he : stepsE st l p = 0) :
  (stepsE st' l p = 0 /\ stepsT st' l p = stepsT st l p) /\ (stepsE st' (backL l) (stepsT st l p) = 0 /\ stepsT st' (backL l) (stepsT st l p) = p) := by
 unfold stepsE stepsT at *;rw [back_len]
 split at he
 ·omega
 ·rename_i h1;rw [if_neg h1, if_neg h1, if_neg h1, if_neg h1, if_neg h1];obtain ⟨pos, w⟩ := way_of he;have w' := h.way w;have g := fol_of (back_way (fun i hi => h.both i (by rw [h.len] at hi; exact hi)) w');rw [back_len] at g;exact ⟨fol_of w', g⟩
theorem sumF_acc {f : Nat -> Int} : ∀ {n i : Nat} {a : Int}, sumF f i n a = a + sumF f i n 0
 | 0, _, _ => by simp [sumF]
 | n + 1, i, a => by
  simp only [sumF];rw [sumF_acc (a := a + f i), sumF_acc (a := 0 + f i)];omega
theorem sumF_snoc {f : Nat -> Int} : ∀ {n i : Nat} {a : Int}, sumF f i (n + 1) a = sumF f i n a + f (i + n)
 | 0, _, _ => rfl
 | n + 1, i, a => by
  rw [show sumF f i (n + 1 + 1) a = sumF f (i + 1) (n + 1) (a + f i) from rfl, sumF_snoc, show i + 1 + n = i + (n + 1) by omega];rfl
theorem sumF_shift {f : Nat -> Int} : ∀ {n i : Nat} {a : Int}, sumF f (i + 1) n a = sumF (fun k => f (k + 1)) i n a
 | 0, _, _ => rfl
 | n + 1, i, a => by
  simp only [sumF];exact sumF_shift
theorem sumF_rev {f : Nat -> Int} : ∀ {n : Nat}, sumF (fun k => f (n - 1 - k)) 0 n 0 = sumF f 0 n 0
 | 0 => rfl
 | n + 1 => by
  rw [sumF_snoc (f := f), <- sumF_rev (f := f) (n := n)];simp only [sumF];rw [sumF_acc, sumF_shift];have e : sumF (fun k => f (n + 1 - 1 - (k + 1))) 0 n 0 = sumF (fun k => f (n - 1 - k)) 0 n 0 := sumF_congr fun k _ hk => by congr 1; omega
  rw [e, show n + 1 - 1 - 0 = 0 + n by omega];omega
theorem cnt_sum (l : Dt) (s : Nat) : ∀ (n i : Nat) (a : Int), cnt l s i n a = sumF (fun k => if xS l k = s then 1 else 0) i n a
 | 0, _, _ => rfl
 | n + 1, i, a => by
  simp only [cnt, sumF];rw [<- cnt_sum l s n (i + 1)]
  congr 1
  split <;> omega
theorem back_tms {rt rt' : Dt} {a a' : Nat} (h : rtL rt' a' = backL (rtL rt a)) (s : Nat) : tms rt' a' s = tms rt a s := by
 unfold tms;rw [h, back_len, cnt_sum, cnt_sum, <- sumF_rev (f := fun k => if xS (rtL rt a) k = s then 1 else 0)];exact sumF_congr fun k _ hk => by rw [(back_cel (show k < (rtL rt a).length by omega)).1]
end Sp
open Go.RowKit Bk
theorem Xme (n lo hi : Int) (b c : Nat) (w : World) (hb : w.cell? ⟨b, 0, none⟩ = some (.int .i64 lo)) (hc : w.cell? ⟨c, 0, none⟩ = some (.int .i64 hi)) :
  Calls Try.prog 107 #[.int .i64 n, .pointer (some ⟨b, 0, none⟩), .pointer (some ⟨c, 0, none⟩)] w fun e w' => e = .returned (.bool (oob lo hi n)) /\ w = w' := by
 go_enter Try.func107, Try.ntmps107
 go_wp2
 all_goals go_ret
 all_goals exact ⟨by simp [oob, *], rfl⟩
theorem Xez (g : Nat) (lb : Array Value) (p : Int -> Bool) (xs : List Int) (B : Nat) (v : Value) (w : World)
  (eg : ∀ args w, (callFunc g args).run Try.prog w = .ok (.enter g args) w)
  (hv : Ones w B v (xs.map (Value.int .i64)))
  (hp : ∀ x, Calls Try.prog g (#[.int .i64 x] ++ lb) w fun e w' => e = .returned (.bool (p x)) /\ w = w') :
  Calls Try.prog 91 #[v, .func (.func g) #[] lb] w fun e w' => e = .returned (.int .i64 (idxFrom p xs 0)) /\ w = w' := by
 obtain ⟨A, c, rfl, hcap, hbig⟩ := hv.form;simp only [List.length_map] at hbig hcap hv ⊢
 go_enter Try.func91, Try.ntmps91
 go_wp2
 go_loopg [5, 8] xs.length (fun gg _ s8 wr => ∃ kk : Nat, kk <= xs.length /\ xs.length - kk <= gg /\ s8 = .int .i64 kk /\ w = wr /\ Hid (idxFrom p (xs.drop kk) kk = idxFrom p xs 0))
 case atStart => exact ⟨0, Nat.zero_le _, by omega, rfl, rfl, rfl⟩
 case round =>
  obtain ⟨kk, hkk, hg, rfl, rfl, A⟩ := hrel
  by_cases hlt : kk < xs.length
  ·have hltz : (kk : Int) < (xs.length : Int) := by omega
   obtain ⟨b, off, c', e, hcap', hb, hcell⟩ := hv.at_ (k := kk) (by simpa using hlt);rw [List.length_map] at e; cases e;simp only [List.getElem_map] at hcell;have hcall := hp xs[kk];have B := Lib.hid (idxFrom_drop p xs kk hlt);clear hp hv;generalize xs[kk] = y at hcell hcall B;cases hq : p y with
   | true =>
    rw [hq] at hcall;have Hq := Lib.hid hq;clear hq
    go_wp2_with (go_at_fn g; refine hcall.mono ?_; rintro e w' ⟨rfl, rfl⟩)
    go_ret
    refine ⟨?_, rfl⟩;rw [<- A.out, B.out, Hq.out]; rfl
   | false =>
    rw [hq] at hcall;have Hq := Lib.hid hq;clear hq
    go_wp2_with (go_at_fn g; refine hcall.mono ?_; rintro e w' ⟨rfl, rfl⟩)
    go_roundg (xs.length - (kk + 1))
    case measure => omega
    case rel =>
     refine ⟨kk + 1, by omega, by omega, by go_num, rfl, ?_⟩;rw [<- A.out, B.out, Hq.out]; rfl
  ·have hltz : ¬ (kk : Int) < (xs.length : Int) := by omega
   have : kk = xs.length := by omega
   subst this
   go_wp2
   go_ret
   refine ⟨?_, rfl⟩;rw [<- A.out]; simp [idxFrom]
theorem Xb7 (g : Nat) (lb : Array Value) (p : Int -> Bool) (xs : List Int) (B : Nat) (v : Value) (w : World)
  (eg : ∀ args w, (callFunc g args).run Try.prog w = .ok (.enter g args) w)
  (hv : Ones w B v (xs.map (Value.int .i64)))
  (hp : ∀ x, Calls Try.prog g (#[.int .i64 x] ++ lb) w fun e w' => e = .returned (.bool (p x)) /\ w = w') :
  Calls Try.prog 74 #[v, .func (.func g) #[] lb] w fun e w' => e = .returned (.bool (xs.any p)) /\ w = w' := by
 have hi := Xez g lb p xs B v w eg hv hp;have he := idxFrom_ge p xs 0;clear hp hv eg;have He := Lib.hid he;clear he
 go_enter Try.func74, Try.ntmps74
 go_wp2_with (go_at_call 91; refine hi.mono ?_; rintro e w' ⟨rfl, rfl⟩)
 go_ret
 refine ⟨ret_bool ?_, rfl⟩;rw [Bool.eq_iff_iff, <- He.out]; simp
end Go.Proofs.Ytmogofidmchdoaa
namespace Go.Proofs.Ytmogofidmchdoaa
open Go.RowKit Bk
theorem Ones.mk1 {w : World} {B b : Nat} {x : Value} (hb : b < B) (h : w.cell? ⟨b, 0, none⟩ = some x) : Ones w B (.slice (some ⟨b, 0, none⟩) 1 1) [x] := by
 refine ⟨_, 1, rfl, by simp, by simp, fun _ => ⟨b, 0, rfl, hb, fun k r hk j u hj => ?_⟩⟩
 match k, hk with
 | 0, hk =>
  simp at hk; subst hk
  match j, hj with
  | 0, hj => simp at hj; subst hj; simpa using h
theorem Xsw (lo hi x : Int) (b : Nat) (w : World) (hb : b = w.heap.size) :
  Calls Try.prog 104 #[.int .i64 lo, .int .i64 hi, .slice (some ⟨b, 0, none⟩) 1 1] (w.alloc (.cells #[.int .i64 x] 3)) fun e w' => e = .returned (.bool (oob lo hi x)) /\ Below w.heap.size w w' := by
 subst hb;have hv : Ones (w.alloc (.cells #[.int .i64 x] 3)) (w.heap.size + 1) (.slice (some ⟨w.heap.size, 0, none⟩) 1 1) (([x] : List Int).map (Value.int .i64)) := Ones.mk1 (by omega) (by simp [go_sem]);have hbl : Below (w.heap.size + 1) (w.alloc (.cells #[.int .i64 x] 3)) (((w.alloc (.cells #[.int .i64 x] 3)).alloc (.cells #[.int .i64 lo] 3)).alloc (.cells #[.int .i64 hi] 3)) := ((Below.refl _ _).alloc (by simp) _).alloc (by simp) _;have hcall := Xb7 107 #[.pointer (some ⟨w.heap.size + 1, 0, none⟩), .pointer (some ⟨w.heap.size + 2, 0, none⟩)] (oob lo hi) [x] _ _ _ (enters_of Try.func107 (by kernel_rfl) rfl) (hv.below hbl)
  (fun x => Xme x lo hi (w.heap.size + 1) (w.heap.size + 2) _ (by simp [go_sem]) (by simp [go_sem]))
 clear hv;simp only [List.any_cons, List.any_nil, Bool.or_false] at hcall
 go_enter Try.func104, Try.ntmps104
 go_wp2_with (go_at_call 74; refine hcall.mono ?_; rintro e w' ⟨rfl, rfl⟩)
 go_ret
 exact ⟨rfl, ((Below.refl _ _).alloc (Nat.le_refl _) _).trans (hbl.mono (by omega))⟩
theorem Xn (l : List UInt8) (k : Nat) (h : k < l.length) : nameFrom (l.drop k) k = ((alpha l[k] || (k != 0 && digit l[k])) && nameFrom (l.drop (k + 1)) (k + 1)) := by
 rw [List.drop_eq_getElem_cons h]; rfl
theorem Xl7 (b : UInt8) (k : Nat) : (alpha b || (k != 0 && digit b)) = true ↔ ((97 <= (b.toNat : Int) /\ (b.toNat : Int) <= 122) \/ (k ≠ 0 /\ 48 <= (b.toNat : Int) /\ (b.toNat : Int) <= 57)) := by
 simp only [alpha, digit, Bool.or_eq_true, Bool.and_eq_true, decide_eq_true_eq, bne_iff_ne, UInt8.le_iff_toNat_le];have : (97 : UInt8).toNat = 97 := rfl;have : (122 : UInt8).toNat = 122 := rfl;have : (48 : UInt8).toNat = 48 := rfl;have : (57 : UInt8).toNat = 57 := rfl;omega
theorem Xhb (w : World) (s : ByteArray) (pos : Nat) : Below w.heap.size w (w.iter s pos) := (Below.refl _ _).alloc (Nat.le_refl _) _
theorem Xj3 (s : ByteArray) (pos : Nat) (h : pos < s.size) :
  (∃ b : UInt8, s.data.toList[pos]? = some b /\ (Utf8.decode s pos).1 = b.toNat /\ (Utf8.decode s pos).2 = 1 /\ b.toNat < 128) \/
  (∃ b : UInt8, s.data.toList[pos]? = some b /\ 128 <= b.toNat /\ 128 <= (Utf8.decode s pos).1) := by
 have hl : pos < s.data.toList.length := by simpa using h
 have hg : s.data.toList[pos]? = some (s[pos]'h) := by rw [List.getElem?_eq_getElem hl]; simp; rfl
 by_cases ha : (s[pos]'h).toNat < 128
 ·exact .inl ⟨_, hg, by rw [decode_ascii s pos h ha], by rw [decode_ascii s pos h ha], ha⟩
 ·exact .inr ⟨_, hg, by omega, (decode_high s pos h (by omega)).1⟩
theorem Xcs (l : List UInt8) (k : Nat) (b : UInt8) (h : l[k]? = some b) : nameFrom (l.drop k) k = ((alpha b || (k != 0 && digit b)) && nameFrom (l.drop (k + 1)) (k + 1)) := by
 obtain ⟨hk, rfl⟩ := List.getElem?_eq_some_iff.1 h;exact Xn l k hk
def Xj (c : Int) (k : Nat) : Bool := decide (97 <= c /\ c <= 122) || (decide (k ≠ 0) && decide (48 <= c /\ c <= 57))
theorem Xk1 (s : ByteArray) (pos : Nat) (h : pos < s.size) :
  (Xj (Utf8.decode s pos).1 pos = true /\ (Utf8.decode s pos).2 = 1 /\ nameFrom (s.data.toList.drop pos) pos = nameFrom (s.data.toList.drop (pos + 1)) (pos + 1)) \/
  (Xj (Utf8.decode s pos).1 pos = false /\ nameFrom (s.data.toList.drop pos) pos = false) := by
 have hn := fun b => Xl7 b pos;rcases Xj3 s pos h with ⟨b, hb, e1, e2, hlt⟩ | ⟨b, hb, hlt, hge⟩
 ·rw [Xcs _ _ _ hb, e1];have hb' := hn b
  by_cases hg : Xj b.toNat pos = true
  ·refine .inl ⟨hg, e2, ?_⟩;have : (alpha b || (pos != 0 && digit b)) = true := by rw [hb']; simpa [Xj] using hg
   rw [this]; rfl
  ·refine .inr ⟨by simpa using hg, ?_⟩;have : (alpha b || (pos != 0 && digit b)) = false := by rw [Bool.eq_false_iff, Ne, hb']; simpa [Xj] using hg
   rw [this]; rfl
 ·refine .inr ⟨?_, ?_⟩
  ·simp only [Xj, Bool.or_eq_false_iff, Bool.and_eq_false_iff, decide_eq_false_iff_not]; omega
  ·rw [Xcs _ _ _ hb];have : (alpha b || (pos != 0 && digit b)) = false := by
    rw [Bool.eq_false_iff, Ne, hn b]; omega
   rw [this]; rfl
theorem Xmf (s : ByteArray) (w : World) :
  Calls Try.prog 99 #[.string s] w fun e w' => e = .returned (.bool (nameOk s)) /\ Below w.heap.size w w' := by
 go_enter Try.func99, Try.ntmps99
 go_wp2
 go_loopw [3, 4] (fun _ _ w' => ∃ pos : Nat, w' = w.iter s pos /\ Hid (nameFrom (s.data.toList.drop pos) pos = nameFrom s.data.toList 0)) (fun _ _ w' => s.size - w'.iterPos w.heap.size)
 case atStart => exact ⟨0, rfl, rfl⟩
 case round =>
  obtain ⟨pos, rfl, A⟩ := hrel
  by_cases hp : pos < s.size
  ·have hnx : ∀ ty, (Instr.next (.pointer (some ⟨w.heap.size, 0, none⟩)) true ty).run Try.prog (w.iter s pos) = _ := fun ty => run_next_any w s pos ty hp;rcases Xk1 s pos hp with ⟨hg, h1, hn⟩ | ⟨hg, hn⟩
   ·rw [h1] at hnx;generalize (Utf8.decode s pos).1 = c at hg hnx;have N := Lib.hid hn;clear hn h1;have hg' : (97 <= (c : Int) /\ (c : Int) <= 122) \/ (pos ≠ 0 /\ 48 <= (c : Int) /\ (c : Int) <= 57) := by simpa [Xj] using hg
    clear hg
    by_cases h1 : 97 <= (c : Int) /\ (c : Int) <= 122
    ·obtain ⟨ha, hb⟩ := h1;clear hg'
     go_wp2
     go_roundw
     case rel => exact ⟨pos + 1, rfl, (N.out.symm.trans A.out)⟩
     case measure => simp; omega
    ·have hg2 : pos ≠ 0 /\ 48 <= (c : Int) /\ (c : Int) <= 57 := by omega
     obtain ⟨hp0, ha, hb⟩ := hg2;have hp1 : ((pos : Int) == 0) = false := by rw [beq_eq_false_iff_ne]; omega
     have hp2 : 0 < (pos : Int) := by omega
     clear hg' h1 hp0
     go_wp2
     all_goals go_roundw
     case rel => exact ⟨pos + 1, rfl, (N.out.symm.trans A.out)⟩
     case measure => simp; omega
   ·generalize (Utf8.decode s pos).1 = c at hg hnx;have N := Lib.hid hn;clear hn;have hg' : ¬ ((97 <= (c : Int) /\ (c : Int) <= 122) \/ (pos ≠ 0 /\ 48 <= (c : Int) /\ (c : Int) <= 57)) := by simpa [Xj] using hg
    clear hg;have hfin : nameOk s = false := by unfold nameOk; rw [<- A.out, N.out]; rfl
    have F := Lib.hid hfin;clear hfin A N;rcases (by omega : (c : Int) < 97 \/ 122 < (c : Int)) with h1 | h1
    all_goals
     by_cases hp0 : pos = 0
     ·subst hp0;clear hg'
      go_wp2
      go_ret
      exact ⟨ret_bool F.out.symm, Xhb _ _ _⟩
     ·have hp1 : ((pos : Int) == 0) = false := by rw [beq_eq_false_iff_ne]; omega
      have hp2 : 0 < (pos : Int) := by omega
      rcases (by omega : (c : Int) < 48 \/ 57 < (c : Int)) with h2 | h2
      all_goals
       clear hg' hp0
       go_wp2
       all_goals go_ret
       all_goals exact ⟨ret_bool F.out.symm, Xhb _ _ _⟩
  ·have hnx : ∀ ty, (Instr.next (.pointer (some ⟨w.heap.size, 0, none⟩)) true ty).run Try.prog (w.iter s pos) = _ := fun ty => run_next_end w s pos ty hp;have hfin : nameFrom s.data.toList 0 = true := by
    rw [<- A.out, List.drop_eq_nil_of_le (by simp; omega)]; rfl
   have F := Lib.hid hfin;clear hfin A
   go_wp2_with (go_at_call 104; refine (Xsw _ _ _ _ _ rfl).mono ?_; rintro e w' ⟨rfl, hb⟩)
   go_ret
   refine ⟨ret_bool ?_, ((Xhb _ _ _).trans (hb.mono (by simp [World.iter])))⟩;unfold nameOk;rw [F.out]; simp
end Go.Proofs.Ytmogofidmchdoaa
namespace Go.Proofs.Ytmogofidmchdoaa
open Go.RowKit Bk
theorem Xml (b : UInt8) : alpha b = true ↔ (97 <= (b.toNat : Int) /\ (b.toNat : Int) <= 122) := by
 have := Xl7 b 0;simp at this;exact this
theorem Xmd (b : UInt8) : digit b = true ↔ (48 <= (b.toNat : Int) /\ (b.toNat : Int) <= 57) := by
 simp only [digit, Bool.and_eq_true, decide_eq_true_eq, UInt8.le_iff_toNat_le];have : (48 : UInt8).toNat = 48 := rfl;have : (57 : UInt8).toNat = 57 := rfl;omega
theorem Xli (b : UInt8) : oob 97 122 b.toNat = !alpha b := by
 rw [Bool.eq_iff_iff]; simp only [oob, Bool.or_eq_true, decide_eq_true_eq, Bool.not_eq_true', Bool.eq_false_iff, Ne, Xml]; omega
theorem Xlh (b : UInt8) : oob 48 57 b.toNat = !digit b := by
 rw [Bool.eq_iff_iff]; simp only [oob, Bool.or_eq_true, decide_eq_true_eq, Bool.not_eq_true', Bool.eq_false_iff, Ne, Xmd]; omega
theorem Xg9 (n lo hi : Int) (w : World) : Calls Try.prog 103 #[.int .i64 n, .int .i64 lo, .int .i64 hi] w fun e w' => e = .returned (.bool (!oob lo hi n)) /\ w = w' := by
 go_enter Try.func103, Try.ntmps103
 go_wp2
 all_goals go_ret
 all_goals exact ⟨ret_bool (by simp only [oob]; rw [Bool.eq_iff_iff]; simp; omega), rfl⟩
theorem Xgw (b : UInt8) (w : World) : Calls Try.prog 103 #[.int .i64 (b.toNat : Int), .int .i64 97, .int .i64 122] w fun e w' => e = .returned (.bool (alpha b)) /\ w = w' := by
 have h := Xg9 b.toNat 97 122 w;rw [Xli, Bool.not_not] at h; exact h
theorem Xma (b : UInt8) (w : World) : Calls Try.prog 103 #[.int .i64 (b.toNat : Int), .int .i64 48, .int .i64 57] w fun e w' => e = .returned (.bool (digit b)) /\ w = w' := by
 have h := Xg9 b.toNat 48 57 w;rw [Xlh, Bool.not_not] at h; exact h
set_option maxHeartbeats 1000000 in
theorem Xk3 (s : ByteArray) (w : World) (hs : s.size <= 9223372036854775807) :
  Calls Try.prog 95 #[.string s] w fun e w' => e = .returned (.bool (nameOk s)) /\ w = w' := by
 have h16 := Xg9 s.size 1 16 w
 by_cases hl : oob 1 16 s.size = true
 ·have hfin : nameOk s = false := by simp only [nameOk, hl]; simp
  rw [hl] at h16;have F := Lib.hid hfin;clear hfin hl
  go_enter Try.func95, Try.ntmps95
  go_wp2_with (go_at_call 103; refine h16.mono ?_; rintro e w' ⟨rfl, rfl⟩)
  go_ret
  exact ⟨ret_bool F.out.symm, rfl⟩
 ·simp only [Bool.not_eq_true] at hl;rw [hl] at h16;have hb : 1 <= s.size /\ s.size <= 16 := by simp only [oob, Bool.or_eq_false_iff, decide_eq_false_iff_not] at hl; omega
  obtain ⟨hb1, hb2⟩ := hb;have hpos : 0 < s.size := by omega
  have hN : nameOk s = nameFrom s.data.toList 0 := by simp [nameOk, hl]
  have HN := Lib.hid hN;clear hN hl;have h0 : nameFrom s.data.toList 0 = (alpha s[0] && nameFrom (s.data.toList.drop 1) 1) := by
   have := Xn s.data.toList 0 (by simpa using hpos);simp only [List.drop_zero] at this;rw [this];have e : s.data.toList[0]'(by simpa using hpos) = s[0] := by simp; rfl
   rw [e]; simp
  have hget : ∀ k (h : k < s.size), s.data.toList[k]'(by simpa using h) = s[k] := fun k h => by simp; rfl
  have hc0 := Xgw s[0] w;have hby : (s[0].toNat : Int) <= 255 := by have := s[0].toNat_lt; omega
  cases ha : alpha s[0] with
  | false =>
   rw [ha] at h0 hc0;have F := Lib.hid (HN.out.trans h0);clear h0 hget;have Ha := Lib.hid ha;clear ha
   go_enter Try.func95, Try.ntmps95
   go_wp2_with (first | (go_at_call 103; ((with_reducible refine h16.mono ?_); rintro e w' ⟨rfl, rfl⟩)) | (go_at_call 103; ((with_reducible refine hc0.mono ?_); rintro e w' ⟨rfl, rfl⟩)))
   go_ret
   exact ⟨ret_bool F.out.symm, rfl⟩
  | true =>
   rw [ha] at h0 hc0;have H0 := Lib.hid ha;have HG := Lib.hid hget;clear h0 hget ha
   go_enter Try.func95, Try.ntmps95
   go_wp2_with (first | (go_at_call 103; ((with_reducible refine h16.mono ?_); rintro e w' ⟨rfl, rfl⟩)) | (go_at_call 103; ((with_reducible refine hc0.mono ?_); rintro e w' ⟨rfl, rfl⟩)))
   clear hc0 h16 hby
   go_loop [3] (fun i => ∃ k : Nat, k <= s.size /\ i = .int .i64 k /\ Hid (nameFrom (s.data.toList.drop k) k = nameFrom s.data.toList 0)) (fun i => s.size - (intOf i).toNat)
   case atStart => exact ⟨0, Nat.zero_le _, rfl, rfl⟩
   case round =>
    obtain ⟨k, hk, rfl, A⟩ := hrel
    by_cases hlt : k < s.size
    ·have hltz : (k : Int) < (s.size : Int) := by omega
     have hd := Xn s.data.toList k (by simpa using hlt);rw [HG.out k hlt] at hd;have h1 := Xgw s[k] w;have h2 := Xma s[k] w;have hby : (s[k].toNat : Int) <= 255 := by have := s[k].toNat_lt; omega
     have H00 : Hid (k = 0 -> alpha s[k] = true) := fun e => by subst e; exact H0.out
     cases ha : alpha s[k] with
     | true =>
      rw [ha] at hd h1;simp only [Bool.true_or, Bool.true_and] at hd;have D := Lib.hid hd;clear hd ha h2 H00
      go_wp2_with (go_at_call 103; ((with_reducible refine h1.mono ?_); rintro e w' ⟨rfl, rfl⟩))
      go_round
      case rel => exact ⟨k + 1, by omega, by go_num, D.out.symm.trans A.out⟩
      case measure => simp [intOf]; omega
     | false =>
      rw [ha] at hd h1;have hk0 : k ≠ 0 := fun e => by have := H00.out e; rw [ha] at this; cases this
      clear H00;cases hg : digit s[k] with
      | true =>
       rw [hg] at hd h2;simp only [Bool.false_or, Bool.and_true, bne_iff_ne.2 hk0, Bool.true_and] at hd;have D := Lib.hid hd;clear hd ha hg hk0
       go_wp2_with (first | (go_at_call 103; ((with_reducible refine h1.mono ?_); rintro e w' ⟨rfl, rfl⟩)) | (go_at_call 103; ((with_reducible refine h2.mono ?_); rintro e w' ⟨rfl, rfl⟩)))
       go_round
       case rel => exact ⟨k + 1, by omega, by go_num, D.out.symm.trans A.out⟩
       case measure => simp [intOf]; omega
      | false =>
       rw [hg] at hd h2;simp only [Bool.false_or, Bool.and_false, Bool.false_and] at hd;have D := Lib.hid hd;clear hd ha hg hk0
       go_wp2_with (first | (go_at_call 103; ((with_reducible refine h1.mono ?_); rintro e w' ⟨rfl, rfl⟩)) | (go_at_call 103; ((with_reducible refine h2.mono ?_); rintro e w' ⟨rfl, rfl⟩)))
       go_ret
       exact ⟨ret_bool (by rw [HN.out, <- A.out, D.out]), rfl⟩
    ·go_wp2
     go_ret
     refine ⟨ret_bool ?_, rfl⟩;rw [HN.out, <- A.out, List.drop_eq_nil_of_le (by simp; omega)]; rfl
end Go.Proofs.Ytmogofidmchdoaa
namespace Go.Proofs.Ytmogofidmchdoaa
set_option maxRecDepth 100000
def tTaa [InW] : TI := ⟨some false, some 1, some [.v (.nilFunc)], [], none, none⟩
def tTan [InW] : Tr TI := .node .nil tTaa .nil
def tTar [InW] : List AV := [.v (.slice none 0 0)]
def tTab [InW] : Tr TI := .node .nil ⟨none, none, none, [], none, none⟩ .nil
def tTau [InW] : List (Option (Nat × Nat)) := [(some (0, 1)), (some (1, 1))]
def tTbh [InW] : TI := ⟨some true, some 2, some [.v (.int .i64 0), .v (.int .i64 0)], tTau, none, none⟩
def tTad [InW] : Tr TI := .node tTan tTaa tTab
def tTai [InW] : TI := ⟨some false, some 1, some [.v (.pointer none)], [], none, none⟩
def tTaf [InW] : List AV := [.v (.int .i64 0), .v (.int .i64 0), .v (.int .i64 0), .v (.int .i64 0)]
def tTbf [InW] : TI := ⟨some true, some 4, some tTaf, [(some (0, 1)), (some (1, 1)), (some (2, 2))], none, none⟩
def tTao [InW] : TI := ⟨some true, some 2, some [.v (.slice none 0 0), .v (.int .i64 0)], tTau, none, none⟩
def tTae [InW] : Tr TI := .node .nil ⟨some true, some 11, some [.v (.int .u64 0), .v (.int .u64 0), .v (.int .u32 0), .v (.int .u8 0), .v (.int .u8 0), .v (.int .u8 0), .v (.int .u8 0), .v (.nilFunc), .v (.pointer none), .v (.int .i32 0), .v (.int .i32 0)], [(some (0, 1)), (some (1, 1)), (some (2, 1)), (some (3, 1)), (some (4, 1)), (some (5, 1)), (some (6, 1)), (some (7, 1)), (some (8, 1)), (some (9, 1)), (some (10, 1))], none, none⟩ .nil
def tTam [InW] : TI := ⟨some true, some 8, some [.v (.slice none 0 0), .v (.slice none 0 0), .v (.slice none 0 0), .v (.slice none 0 0), .v (.int .i64 0), .v (.slice none 0 0), .v (.slice none 0 0), .v (.slice none 0 0)], [(some (0, 7)), (some (7, 1))], none, none⟩
def tTag [InW] : List (Option (Nat × Nat)) := [(some (0, 1)), (some (1, 1)), (some (2, 1)), (some (3, 1))]
def tTba [InW] : TI := ⟨some true, some 4, some [.v (.int .i64 0), .v (.int .i64 0), .v (.bool false), .v (.int .u8 0)], tTag, none, none⟩
def tTbb [InW] : Tr TI := .node tTad tTaa (.node (.node .nil ⟨some true, some 0, some [], [(some (0, 0))], none, none⟩ .nil) tTaa tTab)
def tTaw [InW] : List AV := [.v (.int .i64 0), .v (.int .i64 0), .v (.int .i64 0), .v (.int .i64 0), .v (.int .i64 0), .v (.bool false), .v (.slice none 0 0)]
def tTaj [InW] : Tr TI := .node tTan ⟨some true, some 7, some tTaw, [(some (0, 1)), (some (1, 1)), (some (2, 1)), (some (3, 2)), (some (5, 1)), (some (6, 1))], none, none⟩ tTab
def tTaz [InW] : Tr TI := .node tTab tTaa tTab
def tTax [InW] : TI := ⟨some false, some 1, some [.v (.int .i64 0)], [], none, none⟩
def tTas [InW] : TI := ⟨some true, some 4, some [.v (.int .i64 0), .v (.int .i64 0), .v (.slice none 0 0), .v (.slice none 0 0)], [(some (0, 2)), (some (2, 1)), (some (3, 1))], none, none⟩
def tTat [InW] : Tr TI := .node .nil ⟨some true, some 4, some [.v (.pointer none), .v (.pointer none), .v (.pointer none), .v (.string ByteArray.empty)], tTag, none, none⟩ .nil
def tTbj [InW] : TI := ⟨some true, some 1, some [.v (.pointer none)], [(some (0, 1))], none, none⟩
def tTav [InW] : TI := ⟨some false, some 1, some [.v (.string ByteArray.empty)], [], none, none⟩
def tTbc [InW] : Tr TI := .node tTan ⟨some true, some 2, some [.v (.int .i64 0), .v (.bool false)], tTau, none, none⟩ tTab
def tTbi [InW] : Tr TI := .node tTab ⟨some true, some 4, some tTaf, [(some (0, 4))], none, none⟩ tTab
def tTbg [InW] : TI := ⟨some false, some 1, (some [.v (.tuple #[.int .i64 0, .int .i64 0])]), [], none, none⟩
def tTak [InW] : List AV := [.v (.slice none 0 0), .v (.slice none 0 0), .v (.slice none 0 0), .v (.slice none 0 0)]
def tTbd [InW] : Tr TI := .node (.node .nil ⟨some true, some 4, some tTak, [(some (0, 4))], none, none⟩ .nil) tTaa tTab
def tTaq [InW] : TI := ⟨some false, some 1, some [.v (.int .u8 0)], [], none, none⟩
def tTbk [InW] : TI := ⟨some true, some 4, some tTak, tTag, none, none⟩
def tTay [InW] : TI := ⟨some false, some 1, some [.v (.int .i32 0)], [], none, none⟩
def tTap [InW] : Tr TI := .node tTad ⟨some true, some 3, some [.v (.int .i64 0), .v (.int .i64 0), .v (.slice none 0 0)], [(some (0, 1)), (some (1, 1)), (some (2, 1))], none, none⟩ tTaz
def tTbe [InW] : TI := ⟨some true, some 2, some [.v (.string ByteArray.empty), .v (.int .u64 0)], tTau, none, none⟩
def tTbl [InW] : TI := ⟨some true, some 4, some tTaf, tTag, none, none⟩
def tTac [InW] : List AV := [.v (.int .i64 0), .v (.int .i64 0), .v (.int .i64 0), .v (.int .i64 0), .v (.int .i64 0), .v (.int .i64 0), .v (.int .i64 0), .v (.int .i64 0), .v (.int .i64 0), .v (.int .i64 0), .v (.int .i64 0), .v (.int .i64 0), .v (.int .i64 0), .v (.int .i64 0), .v (.int .i64 0), .v (.int .i64 0), .v (.int .i64 0), .v (.int .i64 0), .v (.int .i64 0), .v (.int .i64 0), .v (.int .i64 0), .v (.int .i64 0), .v (.int .i64 0), .v (.int .i64 0), .v (.int .i64 0), .v (.int .i64 0), .v (.int .i64 0), .v (.int .i64 0), .v (.int .i64 0), .v (.int .i64 0), .v (.int .i64 0), .v (.int .i64 0), .v (.int .i64 0), .v (.int .i64 0), .v (.int .i64 0), .v (.int .i64 0), .v (.int .i64 0), .v (.int .i64 0), .v (.int .i64 0), .v (.int .i64 0)]
def tTal [InW] : TI := ⟨some true, some 7, some [.v (.slice none 0 0), .v (.slice none 0 0), .v (.slice none 0 0), .v (.slice none 0 0), .v (.int .i64 0), .v (.slice none 0 0), .v (.slice none 0 0)], [(some (0, 4)), (some (4, 1)), (some (5, 1)), (some (6, 1))], none, none⟩
def tTah [InW] : Tr TI := .node (.node tTan ⟨some true, some 5, some [.v (.slice none 0 0), .v (.int .i64 0), .v (.int .i64 0), .v (.int .i64 0), .v (.int .i64 0)], [(some (0, 1)), (some (1, 1)), (some (2, 2)), (some (4, 1))], none, none⟩ tTab) tTaa (.node tTab ⟨some true, some 40, some tTac, [], none, (some (40, 1, false))⟩ tTab)
def TT [InW] : Tr TI :=
 (.node (.node (.node (.node (.node (.node (.node tTan ⟨some false, some 1, some tTar, [], (some (5, 1, 1, [.v (.int .u8 0)])), none⟩ tTab) tTbh tTad) tTai (.node (.node tTan tTbf tTab) tTao (.node tTae tTam tTab))) tTba (.node tTbb ⟨some false, some 1, some tTar, [], (some (88, 7, 72, tTaw)), none⟩ (.node tTaj ⟨some false, some 1, (some [.v (.tuple #[.agg #[.int .i64 0, .int .i64 0, .slice none 0 0], .int .i64 0])]), [], none, none⟩ tTaz))) tTax (.node (.node (.node tTad tTas (.node tTat tTaa tTab)) tTbj (.node (.node tTan ⟨some true, some 3, some [.v (.int .u8 0), .v (.int .u8 0), .v (.int .u8 0)], [], none, (some (3, 1, false))⟩ tTab) tTaa tTaz)) tTav (.node (.node (.node tTan ⟨some true, some 2, some [.v (.int .u8 0), .v (.int .u8 0)], [], none, (some (2, 1, false))⟩ tTab) tTaa tTad) ⟨some false, some 1, some tTar, [], (some (89, 1, 24, tTar)), none⟩ (.node tTbc ⟨some false, some 1, (some [.v (.tuple #[.agg #[.int .i64 0, .int .i64 0], .int .i64 0])]), [], none, none⟩ tTbi)))) tTaa (.node (.node (.node (.node tTad ⟨some false, some 1, some tTar, [], (some (3, 1, 8, [.v (.int .i64 0)])), none⟩ (.node tTan ⟨some false, some 1, (some [.v (.tuple #[.int .i64 0, .int .i64 0, .int .i64 0])]), [], none, none⟩ tTab)) tTai (.node (.node (.node .nil tTbg .nil) tTaa tTab) tTao (.node (.node .nil tTai .nil) tTaa tTab))) tTav (.node (.node tTbd tTaa (.node (.node .nil tTaq .nil) tTaa tTab)) tTbk (.node (.node tTan ⟨some false, some 1, some tTar, [], (some (91, 2, 16, [.v (.int .i64 0), .v (.bool false)])), none⟩ tTab) tTaa tTaz))) tTaq (.node (.node (.node (.node tTan ⟨some false, some 1, some [.v (.int .u16 0)], [], none, none⟩ tTab) ⟨some false, some 1, (some [.v (.tuple #[.agg #[.int .i64 0, .int .i64 0, .slice none 0 0, .slice none 0 0], .int .i64 0])]), [], none, none⟩ (.node (.node .nil ⟨some true, some 0, some [], [], none, (some (0, 1, false))⟩ .nil) ⟨some false, some 1, (some [.v (.tuple #[.pointer none, .int .i64 0])]), [], none, none⟩ tTab)) tTay tTap) tTbe (.node (.node tTad tTbl (.node (.node .nil tTay .nil) ⟨some false, some 1, some tTar, [], (some (125, 40, 320, tTac)), none⟩ tTab)) tTal tTah)))) ⟨some false, some 1, (some [.v (.tuple #[])]), [], none, none⟩ (.node (.node (.node (.node (.node tTad tTbh tTad) tTai (.node tTad tTao (.node tTae tTaa tTab))) tTba (.node (.node tTbd ⟨some false, some 1, (some [.v (.tuple #[.slice none 0 0, .int .i64 0])]), [], none, none⟩ (.node (.node .nil ⟨some false, some 1, some [.v (.int .u32 0)], [], none, none⟩ .nil) tTaa tTab)) tTbk (.node tTaj tTaa tTaz))) ⟨some false, some 1, some [.v (.bool false)], [], none, none⟩ (.node (.node (.node tTad tTax (.node tTat tTai tTab)) ⟨some false, some 1, some [.v (.nilIface)], [], none, none⟩ (.node tTad tTaa tTaz)) ⟨some false, some 1, some [.v (.int .u64 0)], [], none, none⟩ (.node (.node (.node tTan tTbg tTab) tTaa (.node (.node .nil tTai .nil) tTaa tTab)) tTal tTah))) tTax (.node (.node (.node (.node (.node (.node .nil ⟨some false, some 1, (some [.v (.tuple #[.pointer none, .int .i64 0, .int .i64 0, .int .i64 0])]), [], none, none⟩ .nil) tTaa tTab) tTas tTad) tTbj (.node tTad ⟨some false, some 1, (some [.v (.tuple #[.agg #[.slice none 0 0, .int .i64 0], .int .i64 0])]), [], none, none⟩ tTaz)) tTav (.node (.node (.node (.node .nil ⟨some false, some 1, (some [.v (.tuple #[.agg #[.slice none 0 0, .slice none 0 0, .slice none 0 0, .slice none 0 0], .int .i64 0])]), [], none, none⟩ .nil) tTaa tTab) tTaa (.node (.node .nil tTaq .nil) tTaa tTab)) ⟨some false, some 1, some tTar, [], (some (79, 4, 32, tTaf)), none⟩ (.node tTbc tTaa tTbi))) tTaq (.node (.node tTbb ⟨some false, some 1, some tTar, [], (some (9, 1, 16, [.v (.string ByteArray.empty)])), none⟩ tTap) tTbe (.node (.node (.node (.node .nil ⟨some false, some 1, some tTar, [], (some (22, 1, 24, tTar)), none⟩ .nil) tTbf tTab) tTbl (.node (.node .nil tTay .nil) tTam tTab)) ⟨some true, some 2, some [.v (.int .i64 0), .v (.int .i64 0)], [], none, (some (2, 1, false))⟩ (.node (.node tTan ⟨some false, some 1, (some [.v (.tuple #[.agg #[.slice none 0 0, .int .i64 0, .int .i64 0, .int .i64 0, .int .i64 0], .int .i64 0, .int .i64 0])]), [], none, none⟩ tTab) tTaa tTaz))))))
theorem Xb [InW] : TabOk Try.prog TT := TabOk.of 8 (by kernel_rfl)
theorem Xa : Try.prog.follows .mixedOrders = true := by kernel_rfl
open Go.RowKit
abbrev Xx (f : ByteArray -> Bool) (ds : DS) : DS := match ds with | [[.s s]] => [[.b (f s)]] | _ => []
abbrev Xbh (f : ByteArray -> Prop) (ds : DS) : Prop := match ds with | [[.s s]] => f s | _ => False
theorem Xk5 {P : Program} {g : Nat} {pre : ByteArray -> Prop} {f : ByteArray -> Bool} (h : ∀ s w, pre s -> Calls P g #[.string s] w fun e w' => e = .returned (.bool (f s)) /\ Below w.heap.size w w') : PureOk P g [.one .str] [(false, [.bool])] (Xbh pre) (Xx f) := by
 intro W args ds ha hpre d hd;refine @Ynq W [.one .str] (fun args ds => Xbh pre ds -> @ACall W P g args [] false (@Yv6 W d [(false, [.bool])] (Xx f ds)) [] (@Yc3 W d 0 [(false, [.bool])] (Xx f ds))) _ _ (fun s hp => ?_) ha hpre;intro φ w0 M R w hnew hS;refine (h s w hp).mono fun e w' ⟨he, hb⟩ => ⟨φ, fun i _ => rfl, he, ?_⟩;simpa [Yh, Yc3, Ybh, RTy.hp] using hS.ext hb
theorem Xrs : PureOk Try.prog 99 [.one .str] [(false, [.bool])] (Xbh fun _ => True) (Xx Bk.nameOk) := Xk5 fun s w _ => Xmf s w
theorem Xq3 : PureOk Try.prog 95 [.one .str] [(false, [.bool])] (Xbh fun s => s.size <= 9223372036854775807) (Xx Bk.nameOk) := Xk5 fun s w hs => (Xk3 s w hs).mono fun e w' ⟨he, hw⟩ => ⟨he, hw ▸ Below.refl _ _⟩
noncomputable def Xix : PC Try.prog := ⟨99, [.one .str], [(false, [.bool])], Xbh fun _ => True, Xx Bk.nameOk, Xrs⟩
noncomputable def Xiv : PC Try.prog := ⟨95, [.one .str], [(false, [.bool])], Xbh fun s => s.size <= 9223372036854775807, Xx Bk.nameOk, Xq3⟩
noncomputable def T0 : Tab Try.prog := ⟨[], [], []⟩
abbrev Xb3 (ds : DS) : DS := match ds with | [[.i n], [.i lo], [.i hi]] => [[.b (Sp.inr n lo hi)]] | _ => []
abbrev Xbe (ds : DS) : DS := match ds with | [[.i lo], [.i hi], [.l xs]] => [[.b (Sp.out lo hi xs)]] | _ => []
def Xp1 [W : InW] (n lo hi : Int) (Q : DS -> Prop) : Prop :=
 Vif (decide (lo <= n)) (Q [[Cl.b (decide (n <= hi))]]) (Q [[Cl.b false]])
theorem Xs4 (W : InW) (n lo hi Q) : Yvd (cxT Try.prog TT T0 1000 50) 1000 61 [.si .i64 n, .si .i64 lo, .si .i64 hi] [] 0 (Yzg [(false, [.bool])] Q) (fun _ _ _ _ => Stuck 421) = Xp1 n lo hi Q := by kernel_rfl
abbrev Xhg : List AT := [.one (.int .i64), .one (.int .i64), .one (.int .i64)]
theorem Xtq {pre : DS -> Prop} {res : DS -> DS} (hyp_ : ∀ (W : InW) (n lo hi : Int), pre [[.i n], [.i lo], [.i hi]] -> ∀ Q : DS -> Prop, Q (res [[.i n], [.i lo], [.i hi]]) -> Xp1 n lo hi Q) : PureOk Try.prog 61 Xhg [(false, [.bool])] pre res :=
 PureOk.of' (fun W => @TT W) (fun W => @Xb W) Xa T0 1000 50 fun W n lo hi hp =>
  (Xs4 W n lo hi (fun o => o = res [[.i n], [.i lo], [.i hi]])).mpr (hyp_ W n lo hi hp _ rfl)
theorem okinN : PureOk Try.prog 61 Xhg [(false, [.bool])] (fun _ => True) Xb3 :=
 Xtq fun W n lo hi _ Q h => vif (fun e => by simpa [Xb3, Sp.inr, e] using h) fun e => by simpa [Xb3, Sp.inr, e] using h
noncomputable def Xle : PC Try.prog := ⟨61, Xhg, [(false, [.bool])], fun _ => True, Xb3, okinN⟩
def Xp0 [W : InW] (n lo hi : Int) (Q : DS -> Prop) : Prop :=
 Vif (decide (lo <= n)) (Q [[Cl.b (decide (n <= hi))]]) (Q [[Cl.b false]])
theorem Xs3 (W : InW) (n lo hi Q) : Yvd (cxT Try.prog TT T0 1000 50) 1000 68 [.si .i64 n, .si .i64 lo, .si .i64 hi] [] 0 (Yzg [(false, [.bool])] Q) (fun _ _ _ _ => Stuck 421) = Xp0 n lo hi Q := by kernel_rfl
abbrev Xhf : List AT := [.one (.int .i64), .one (.int .i64), .one (.int .i64)]
theorem Xtp {pre : DS -> Prop} {res : DS -> DS} (hyp_ : ∀ (W : InW) (n lo hi : Int), pre [[.i n], [.i lo], [.i hi]] -> ∀ Q : DS -> Prop, Q (res [[.i n], [.i lo], [.i hi]]) -> Xp0 n lo hi Q) : PureOk Try.prog 68 Xhf [(false, [.bool])] pre res :=
 PureOk.of' (fun W => @TT W) (fun W => @Xb W) Xa T0 1000 50 fun W n lo hi hp =>
  (Xs3 W n lo hi (fun o => o = res [[.i n], [.i lo], [.i hi]])).mpr (hyp_ W n lo hi hp _ rfl)
theorem okinT : PureOk Try.prog 68 Xhf [(false, [.bool])] (fun _ => True) Xb3 :=
 Xtp fun W n lo hi _ Q h => vif (fun e => by simpa [Xb3, Sp.inr, e] using h) fun e => by simpa [Xb3, Sp.inr, e] using h
noncomputable def Xdt : PC Try.prog := ⟨68, Xhf, [(false, [.bool])], fun _ => True, Xb3, okinT⟩
def Xea [InW] (e : List Ed) (K : Nat -> List Ed -> Prop) : Prop := match e with
 | [.ro _ xs, .i n, .i i, .i lo, .i hi] => Pre (n = xs.xs.length /\ 0 <= i /\ i <= n) (Vif (Sp.outs lo hi xs.xs i.toNat (xs.xs.length - i.toNat)) (K 1 [.i (Sp.outI lo hi xs.xs i.toNat (xs.xs.length - i.toNat)), .i lo, .i hi]) (K 0 [.i lo, .i hi]))
 | _ => False
noncomputable def Xev : LC where
 len := 19
 T := [(0, .rs Ja), (1, (.fn (.func 75) [] [(.ptr 1 0), (.ptr 4 0)])), (7, .int .i64), (8, .int .i64)]
 H := [(1, .blk 3 [.int .i64]), (4, .blk 3 [.int .i64])]
 W := ([4, 5] ++ rg 9 10)
 outs := [⟨.exit 0, [(1, (.fn (.func 75) [] [(.ptr 1 0), (.ptr 4 0)]))], [(1, .blk 3 [.int .i64]), (4, .blk 3 [.int .i64])], ([0, 4, 5] ++ rg 7 12)⟩, ⟨.ret, [(1, (.fn (.func 75) [] [(.ptr 1 0), (.ptr 4 0)])), (4, .int .i64)], [(1, .blk 3 [.int .i64]), (4, .blk 3 [.int .i64])], ([0, 5] ++ rg 7 12)⟩]
 spec := Xea
def Xft [W : InW] (xs : Ro Ja) (n i lo hi : Int) (A : List Ed -> Prop) (K : Nat -> List Ed -> Prop) : Prop :=
 Vif (decide (i < n)) (Need (decide (0 <= i) && decide (i < (↑(xs.xs.length) : Int))) (Need (decide (i.toNat < xs.xs.length)) (Vif (decide ((cel xs.xs i.toNat (0 : Nat)).int < lo)) (K (0+1) [.i i, .i lo, .i hi]) (Vif (decide (hi < (cel xs.xs i.toNat (0 : Nat)).int)) (K (0+1) [.i i, .i lo, .i hi]) (Ar .i64 (i + 1) fun z => A [.ro _ xs, .i n, .i z, .i lo, .i hi]))))) (K 0 [.i lo, .i hi])
theorem Xm3 (W : InW) (xs n i lo hi A K) : Ye6 { cxT Try.prog TT T0 1000 50 with fn := 91 } 1000 (Ym7 Try.prog 91 3) (Yd5 19 [(0, .rs _ xs), (1, .fn (.func 75) [] [.ptr 1 0, .ptr 4 0]), (7, .si .i64 n), (8, .si .i64 i)] ([4, 5] ++ rg 9 10)) [(1, .blk 3 [.si .i64 lo]), (4, .blk 3 [.si .i64 hi])] (Ys7 Xev A K) = Xft xs n i lo hi A K := by kernel_rfl
def Xgq : Prop := ∀ (W : InW) (body a : Code), (Try.prog.funcs[91]?).bind (·.body) = some body -> a ∈ Yu body -> Yfq a = 3 -> @Yl3 W Try.prog a (@Ysd W Xev)
theorem Xol (meas : [InW] -> List Ed -> Nat) (hyp_ : ∀ (W : InW) xs n i lo hi K, Xea [.ro _ xs, .i n, .i i, .i lo, .i hi] K -> ∀ A : List Ed -> Prop, (∀ e, meas e < meas [.ro _ xs, .i n, .i i, .i lo, .i hi] -> Xea e K -> A e) -> Xft xs n i lo hi A K) : Xgq :=
 LE.okOf' (fun W => @TT W) (fun W => @Xb W) Xa T0 1000 50 (by kernel_rfl) Xev (fun W => @meas W) fun W xs n i lo hi K hs =>
  (Xm3 W xs n i lo hi (fun e => meas e < meas [.ro _ xs, .i n, .i i, .i lo, .i hi] /\ Xea e K) K).mpr (hyp_ W xs n i lo hi K hs _ fun e h1 h2 => ⟨h1, h2⟩)
theorem Xsb : Xgq := Xol (fun e => match e with | .ro _ xs :: .i n :: .i i :: _ => (n - i).toNat | _ => 0) fun W xs n i lo hi K hs A hA => by
 obtain ⟨⟨rfl, h0, h1⟩, hk⟩ := hs;unfold Xft;have hm := xs.len;simp only [maxLen] at hm;refine vifd (fun e => ?_) fun e => ?_
 ·rw [show xs.xs.length - i.toNat = (xs.xs.length - (i.toNat + 1)) + 1 by omega] at hk;have hc : (cel xs.xs i.toNat 0).int < lo \/ hi < (cel xs.xs i.toNat 0).int -> K 1 [.i i, .i lo, .i hi] := fun h => by
   have hf : Sp.inr (cel xs.xs i.toNat 0).int lo hi = false := by simp only [Sp.inr, Bool.and_eq_false_iff, decide_eq_false_iff_not]; omega
   have := hk.1 (by simp [Sp.outs, hf]);unfold Sp.outI at this;rw [if_neg (by simp [hf]), Int.toNat_of_nonneg h0] at this;exact this
  refine ned (by simp; omega) (nedd (by omega) (vifd (fun e2 => hc (.inl e2)) fun e2 => vifd (fun e3 => hc (.inr e3)) fun e3 => ar64 (by omega) (hA _ ?_ ?_)))
  ·show ((xs.xs.length : Int) - (i + 1)).toNat < ((xs.xs.length : Int) - i).toNat
   omega
  ·have hf : Sp.inr (cel xs.xs i.toNat 0).int lo hi = true := by simp only [Sp.inr, Bool.and_eq_true, decide_eq_true_eq]; omega
   refine ⟨⟨rfl, by omega, by omega⟩, ?_⟩;rw [show (i + 1).toNat = i.toNat + 1 by omega];simp only [Sp.outs, hf, Bool.not_true, Bool.false_or, Sp.outI, if_true] at hk;exact hk
 ·rw [show xs.xs.length - i.toNat = 0 by omega] at hk;exact hk.2 rfl
noncomputable def Xsq : LE Try.prog := ⟨91, 3, fun W => @Ysd W Xev, Xsb⟩
noncomputable def T1C : Tab Try.prog := ⟨T0.pcs, [Xsq], []⟩
def Xhl [W : InW] (lo hi : Int) (xs : Ro Ja) (Q : DS -> Prop) : Prop :=
 Pre ((↑(xs.xs.length) : Int) = (↑(xs.xs.length) : Int) /\ (0 : Int) <= 0 /\ (0 : Int) <= (↑(xs.xs.length) : Int)) (Vif (Sp.outs lo hi xs.xs (Int.toNat (0 : Int)) (xs.xs.length - Int.toNat (0 : Int))) (Q [[Cl.b (decide ((0 : Int) <= (↑(Sp.outI lo hi xs.xs (Int.toNat (0 : Int)) (xs.xs.length - Int.toNat (0 : Int))) : Int)))]]) (Q [[Cl.b false]]))
theorem Xqo (W : InW) (lo hi xs Q) : Yvd (cxT Try.prog TT T1C 1000 50) 1000 52 [.si .i64 lo, .si .i64 hi, .rs _ xs] [] 0 (Yzg [(false, [.bool])] Q) (fun _ _ _ _ => Stuck 421) = Xhl lo hi xs Q := by kernel_rfl
abbrev Xe5 : List AT := [.one (.int .i64), .one (.int .i64), .one (.sl Ja)]
theorem Xrw {pre : DS -> Prop} {res : DS -> DS} (hyp_ : ∀ (W : InW) (lo hi : Int) (xs : Ro Ja), pre [[.i lo], [.i hi], [.l xs.xs]] -> ∀ Q : DS -> Prop, Q (res [[.i lo], [.i hi], [.l xs.xs]]) -> Xhl lo hi xs Q) : PureOk Try.prog 52 Xe5 [(false, [.bool])] pre res :=
 PureOk.of' (fun W => @TT W) (fun W => @Xb W) Xa T1C 1000 50 fun W lo hi xs hp =>
  (Xqo W lo hi xs (fun o => o = res [[.i lo], [.i hi], [.l xs.xs]])).mpr (hyp_ W lo hi xs hp _ rfl)
theorem Xti : PureOk Try.prog 52 Xe5 [(false, [.bool])] (fun _ => True) Xbe :=
 Xrw fun W lo hi xs _ Q h => by
  unfold Xhl;simp only [Xbe, Sp.out] at h;rw [show Int.toNat 0 = 0 from rfl, Nat.sub_zero];refine ⟨⟨rfl, by omega, by omega⟩, vif (fun e => ?_) fun e => ?_⟩
  ·rw [e] at h;rw [decide_eq_true (by omega)];exact h
  ·rw [e] at h;exact h
noncomputable def Xl : PC Try.prog := ⟨52, Xe5, [(false, [.bool])], fun _ => True, Xbe, Xti⟩
def Xd9 [InW] (e : List Ed) (K : Nat -> List Ed -> Prop) : Prop := match e with
 | [.ro _ xs, .i n, .i i, .i lo, .i hi] => Pre (n = xs.xs.length /\ 0 <= i /\ i <= n) (Vif (Sp.outs lo hi xs.xs i.toNat (xs.xs.length - i.toNat)) (K 1 [.i (Sp.outI lo hi xs.xs i.toNat (xs.xs.length - i.toNat)), .i lo, .i hi]) (K 0 [.i lo, .i hi]))
 | _ => False
noncomputable def Xeu : LC where
 len := 19
 T := [(0, .rs Ja), (1, (.fn (.func 92) [] [(.ptr 1 0), (.ptr 4 0)])), (7, .int .i64), (8, .int .i64)]
 H := [(1, .blk 3 [.int .i64]), (4, .blk 3 [.int .i64])]
 W := ([4, 5] ++ rg 9 10)
 outs := [⟨.exit 0, [(1, (.fn (.func 92) [] [(.ptr 1 0), (.ptr 4 0)]))], [(1, .blk 3 [.int .i64]), (4, .blk 3 [.int .i64])], ([0, 4, 5] ++ rg 7 12)⟩, ⟨.ret, [(1, (.fn (.func 92) [] [(.ptr 1 0), (.ptr 4 0)])), (4, .int .i64)], [(1, .blk 3 [.int .i64]), (4, .blk 3 [.int .i64])], ([0, 5] ++ rg 7 12)⟩]
 spec := Xd9
def Xfs [W : InW] (xs : Ro Ja) (n i lo hi : Int) (A : List Ed -> Prop) (K : Nat -> List Ed -> Prop) : Prop :=
 Vif (decide (i < n)) (Need (decide (0 <= i) && decide (i < (↑(xs.xs.length) : Int))) (Need (decide (i.toNat < xs.xs.length)) (Vif (decide ((cel xs.xs i.toNat (0 : Nat)).int < lo)) (K (0+1) [.i i, .i lo, .i hi]) (Vif (decide (hi < (cel xs.xs i.toNat (0 : Nat)).int)) (K (0+1) [.i i, .i lo, .i hi]) (Ar .i64 (i + 1) fun z => A [.ro _ xs, .i n, .i z, .i lo, .i hi]))))) (K 0 [.i lo, .i hi])
theorem Xm2 (W : InW) (xs n i lo hi A K) : Ye6 { cxT Try.prog TT T0 1000 50 with fn := 91 } 1000 (Ym7 Try.prog 91 3) (Yd5 19 [(0, .rs _ xs), (1, .fn (.func 92) [] [.ptr 1 0, .ptr 4 0]), (7, .si .i64 n), (8, .si .i64 i)] ([4, 5] ++ rg 9 10)) [(1, .blk 3 [.si .i64 lo]), (4, .blk 3 [.si .i64 hi])] (Ys7 Xeu A K) = Xfs xs n i lo hi A K := by kernel_rfl
def Xgp : Prop := ∀ (W : InW) (body a : Code), (Try.prog.funcs[91]?).bind (·.body) = some body -> a ∈ Yu body -> Yfq a = 3 -> @Yl3 W Try.prog a (@Ysd W Xeu)
theorem Xok (meas : [InW] -> List Ed -> Nat) (hyp_ : ∀ (W : InW) xs n i lo hi K, Xd9 [.ro _ xs, .i n, .i i, .i lo, .i hi] K -> ∀ A : List Ed -> Prop, (∀ e, meas e < meas [.ro _ xs, .i n, .i i, .i lo, .i hi] -> Xd9 e K -> A e) -> Xfs xs n i lo hi A K) : Xgp :=
 LE.okOf' (fun W => @TT W) (fun W => @Xb W) Xa T0 1000 50 (by kernel_rfl) Xeu (fun W => @meas W) fun W xs n i lo hi K hs =>
  (Xm2 W xs n i lo hi (fun e => meas e < meas [.ro _ xs, .i n, .i i, .i lo, .i hi] /\ Xd9 e K) K).mpr (hyp_ W xs n i lo hi K hs _ fun e h1 h2 => ⟨h1, h2⟩)
theorem Xsa : Xgp := Xok (fun e => match e with | .ro _ xs :: .i n :: .i i :: _ => (n - i).toNat | _ => 0) fun W xs n i lo hi K hs A hA => by
 obtain ⟨⟨rfl, h0, h1⟩, hk⟩ := hs;unfold Xfs;have hm := xs.len;simp only [maxLen] at hm;refine vifd (fun e => ?_) fun e => ?_
 ·rw [show xs.xs.length - i.toNat = (xs.xs.length - (i.toNat + 1)) + 1 by omega] at hk;have hc : (cel xs.xs i.toNat 0).int < lo \/ hi < (cel xs.xs i.toNat 0).int -> K 1 [.i i, .i lo, .i hi] := fun h => by
   have hf : Sp.inr (cel xs.xs i.toNat 0).int lo hi = false := by simp only [Sp.inr, Bool.and_eq_false_iff, decide_eq_false_iff_not]; omega
   have := hk.1 (by simp [Sp.outs, hf]);unfold Sp.outI at this;rw [if_neg (by simp [hf]), Int.toNat_of_nonneg h0] at this;exact this
  refine ned (by simp; omega) (nedd (by omega) (vifd (fun e2 => hc (.inl e2)) fun e2 => vifd (fun e3 => hc (.inr e3)) fun e3 => ar64 (by omega) (hA _ ?_ ?_)))
  ·show ((xs.xs.length : Int) - (i + 1)).toNat < ((xs.xs.length : Int) - i).toNat
   omega
  ·have hf : Sp.inr (cel xs.xs i.toNat 0).int lo hi = true := by simp only [Sp.inr, Bool.and_eq_true, decide_eq_true_eq]; omega
   refine ⟨⟨rfl, by omega, by omega⟩, ?_⟩;rw [show (i + 1).toNat = i.toNat + 1 by omega];simp only [Sp.outs, hf, Bool.not_true, Bool.false_or, Sp.outI, if_true] at hk;exact hk
 ·rw [show xs.xs.length - i.toNat = 0 by omega] at hk;exact hk.2 rfl
noncomputable def Xsp : LE Try.prog := ⟨91, 3, fun W => @Ysd W Xeu, Xsa⟩
noncomputable def T1S : Tab Try.prog := ⟨T0.pcs, [Xsp], []⟩
def Xhk [W : InW] (lo hi : Int) (xs : Ro Ja) (Q : DS -> Prop) : Prop :=
 Pre ((↑(xs.xs.length) : Int) = (↑(xs.xs.length) : Int) /\ (0 : Int) <= 0 /\ (0 : Int) <= (↑(xs.xs.length) : Int)) (Vif (Sp.outs lo hi xs.xs (Int.toNat (0 : Int)) (xs.xs.length - Int.toNat (0 : Int))) (Q [[Cl.b (decide ((0 : Int) <= (↑(Sp.outI lo hi xs.xs (Int.toNat (0 : Int)) (xs.xs.length - Int.toNat (0 : Int))) : Int)))]]) (Q [[Cl.b false]]))
theorem Xqn (W : InW) (lo hi xs Q) : Yvd (cxT Try.prog TT T1S 1000 50) 1000 77 [.si .i64 lo, .si .i64 hi, .rs _ xs] [] 0 (Yzg [(false, [.bool])] Q) (fun _ _ _ _ => Stuck 421) = Xhk lo hi xs Q := by kernel_rfl
abbrev Xe4 : List AT := [.one (.int .i64), .one (.int .i64), .one (.sl Ja)]
theorem Xrv {pre : DS -> Prop} {res : DS -> DS} (hyp_ : ∀ (W : InW) (lo hi : Int) (xs : Ro Ja), pre [[.i lo], [.i hi], [.l xs.xs]] -> ∀ Q : DS -> Prop, Q (res [[.i lo], [.i hi], [.l xs.xs]]) -> Xhk lo hi xs Q) : PureOk Try.prog 77 Xe4 [(false, [.bool])] pre res :=
 PureOk.of' (fun W => @TT W) (fun W => @Xb W) Xa T1S 1000 50 fun W lo hi xs hp =>
  (Xqn W lo hi xs (fun o => o = res [[.i lo], [.i hi], [.l xs.xs]])).mpr (hyp_ W lo hi xs hp _ rfl)
theorem Xth : PureOk Try.prog 77 Xe4 [(false, [.bool])] (fun _ => True) Xbe :=
 Xrv fun W lo hi xs _ Q h => by
  unfold Xhk;simp only [Xbe, Sp.out] at h;rw [show Int.toNat 0 = 0 from rfl, Nat.sub_zero];refine ⟨⟨rfl, by omega, by omega⟩, vif (fun e => ?_) fun e => ?_⟩
  ·rw [e] at h;rw [decide_eq_true (by omega)];exact h
  ·rw [e] at h;exact h
noncomputable def Xcq : PC Try.prog := ⟨77, Xe4, [(false, [.bool])], fun _ => True, Xbe, Xth⟩
theorem out1 (lo hi n : Int) : Sp.out lo hi [[Cl.i n]] = !Sp.inr n lo hi := by simp [Sp.out, Sp.outs, cel, Cl.int]
theorem out2 (lo hi n m : Int) : Sp.out lo hi [[Cl.i n], [Cl.i m]] = (!Sp.inr n lo hi || !Sp.inr m lo hi) := by simp [Sp.out, Sp.outs, cel, Cl.int]
theorem out0 (lo hi : Int) : Sp.out lo hi [] = false := rfl
def Xdz [InW] (e : List Ed) (K : Nat -> List Ed -> Prop) : Prop := match e with
 | [.i m, .i n, .i i] => Pre (0 <= i /\ i <= m /\ m <= 20 /\ n = Sp.sets i.toNat) (K 0 [.i (Sp.sets m.toNat)])
 | _ => False
noncomputable def Xek : LC where
 len := 13
 T := [(0, .int .i64), (3, .int .i64), (4, .int .i64)]
 H := []
 W := (rg 5 7)
 outs := [⟨.exit 0, [(3, .int .i64)], [], ([0] ++ rg 4 8)⟩]
 spec := Xdz
def Xfi [W : InW] (m n i : Int) (A : List Ed -> Prop) (K : Nat -> List Ed -> Prop) : Prop :=
 Vif (decide (i < m)) (Ar .i64 ((2 : Int) * n) fun z => Ar .i64 (i + 1) fun z_1 => A [.i m, .i z, .i z_1]) (K 0 [.i n])
theorem Xms (W : InW) (m n i A K) : Ye6 { cxT Try.prog TT T0 1000 50 with fn := 57 } 1000 (Ym7 Try.prog 57 4) (Yd5 13 [(0, .si .i64 m), (3, .si .i64 n), (4, .si .i64 i)] (rg 5 7)) [] (Ys7 Xek A K) = Xfi m n i A K := by kernel_rfl
def Xgf : Prop := ∀ (W : InW) (body a : Code), (Try.prog.funcs[57]?).bind (·.body) = some body -> a ∈ Yu body -> Yfq a = 4 -> @Yl3 W Try.prog a (@Ysd W Xek)
theorem Xoa (meas : [InW] -> List Ed -> Nat) (hyp_ : ∀ (W : InW) m n i K, Xdz [.i m, .i n, .i i] K -> ∀ A : List Ed -> Prop, (∀ e, meas e < meas [.i m, .i n, .i i] -> Xdz e K -> A e) -> Xfi m n i A K) : Xgf :=
 LE.okOf' (fun W => @TT W) (fun W => @Xb W) Xa T0 1000 50 (by kernel_rfl) Xek (fun W => @meas W) fun W m n i K hs =>
  (Xms W m n i (fun e => meas e < meas [.i m, .i n, .i i] /\ Xdz e K) K).mpr (hyp_ W m n i K hs _ fun e h1 h2 => ⟨h1, h2⟩)
theorem Xr0 : Xgf := Xoa (fun e => match e with | [.i m, _, .i i] => (m - i).toNat | _ => 0) fun W m n i K hs A hA => by
 obtain ⟨⟨h0, h1, h2, rfl⟩, hk⟩ := hs;unfold Xfi;have hs := Sp.sets_in (k := i.toNat) (by omega);have e1 : Sp.sets (i + 1).toNat = 2 * Sp.sets i.toNat := by rw [show (i + 1).toNat = i.toNat + 1 by omega]; unfold Sp.sets; rw [Int.pow_succ, Int.mul_comm]
 refine vifd (fun e => ar64 (by omega) (ar64 (by omega) (hA _ (by show (m - (i + 1)).toNat < (m - i).toNat; omega) ⟨⟨by omega, by omega, h2, e1.symm⟩, hk⟩))) fun e => ?_;rw [show i = m by omega]; exact hk
noncomputable def Xsh : LE Try.prog := ⟨57, 4, fun W => @Ysd W Xek, Xr0⟩
noncomputable def T2 : Tab Try.prog := ⟨[], [Xsh], []⟩
def Xhi [W : InW] (m : Int) (Q : DS -> Prop) : Prop :=
 Pre ((0 : Int) <= 0 /\ 0 <= m /\ m <= 20 /\ (1 : Int) = Sp.sets (Int.toNat (0 : Int))) (Q [[Cl.i (Sp.sets m.toNat)]])
theorem Xql (W : InW) (m Q) : Yvd (cxT Try.prog TT T2 1000 50) 1000 57 [.si .i64 m] [] 0 (Yzg [(false, [.int .i64])] Q) (fun _ _ _ _ => Stuck 421) = Xhi m Q := by kernel_rfl
abbrev Xe2 : List AT := [.one (.int .i64)]
theorem Xrt {pre : DS -> Prop} {res : DS -> DS} (hyp_ : ∀ (W : InW) (m : Int), pre [[.i m]] -> ∀ Q : DS -> Prop, Q (res [[.i m]]) -> Xhi m Q) : PureOk Try.prog 57 Xe2 [(false, [.int .i64])] pre res :=
 PureOk.of' (fun W => @TT W) (fun W => @Xb W) Xa T2 1000 50 fun W m hp =>
  (Xql W m (fun o => o = res [[.i m]])).mpr (hyp_ W m hp _ rfl)
abbrev Xio (ds : DS) : DS := match ds with | [[.i m]] => [[.i (Sp.sets m.toNat)]] | _ => []
abbrev Xis (ds : DS) : Prop := match ds with | [[.i m]] => 0 <= m /\ m <= 20 | _ => False
theorem Xtf : PureOk Try.prog 57 Xe2 [(false, [.int .i64])] Xis Xio :=
 Xrt fun W m hp Q h => by
  unfold Xhi;obtain ⟨h1, h2⟩ := hp;exact ⟨⟨by omega, h1, h2, rfl⟩, h⟩
noncomputable def Xcp : PC Try.prog := ⟨57, Xe2, [(false, [.int .i64])], Xis, Xio, Xtf⟩
noncomputable def T3 : Tab Try.prog := ⟨[Xcp], [], []⟩
def Xmp [W : InW] (s n : Int) (Q : DS -> Prop) : Prop :=
 Pre (0 <= n /\ n <= 20) (Need (!decide (Sp.sets n.toNat = 0)) (Ar .i64 (s.tdiv (Sp.sets n.toNat)) fun z => Q [[Cl.b (decide (z.tmod (2 : Int) = 1))]]))
theorem Xs5 (W : InW) (s n Q) : Yvd (cxT Try.prog TT T3 1000 50) 1000 58 [.si .i64 s, .si .i64 n] [] 0 (Yzg [(false, [.bool])] Q) (fun _ _ _ _ => Stuck 421) = Xmp s n Q := by kernel_rfl
abbrev Xhh : List AT := [.one (.int .i64), .one (.int .i64)]
theorem Xtr {pre : DS -> Prop} {res : DS -> DS} (hyp_ : ∀ (W : InW) (s n : Int), pre [[.i s], [.i n]] -> ∀ Q : DS -> Prop, Q (res [[.i s], [.i n]]) -> Xmp s n Q) : PureOk Try.prog 58 Xhh [(false, [.bool])] pre res :=
 PureOk.of' (fun W => @TT W) (fun W => @Xb W) Xa T3 1000 50 fun W s n hp =>
  (Xs5 W s n (fun o => o = res [[.i s], [.i n]])).mpr (hyp_ W s n hp _ rfl)
abbrev Xk4 (ds : DS) : DS := match ds with | [[.i s], [.i n]] => [[.b (Sp.has s n.toNat)]] | _ => []
abbrev Xk6 (ds : DS) : Prop := match ds with | [[.i s], [.i n]] => (0 <= n /\ n <= 20) /\ 0 <= s /\ s <= 1048576 | _ => False
theorem okhas : PureOk Try.prog 58 Xhh [(false, [.bool])] Xk6 Xk4 :=
 Xtr fun W s n hp Q h => by
  unfold Xmp;obtain ⟨⟨h1, h2⟩, h3, h4⟩ := hp;have hs := Sp.sets_in (k := n.toNat) (by omega);have hd : 0 <= s.tdiv (Sp.sets n.toNat) /\ s.tdiv (Sp.sets n.toNat) <= s := by
   rw [Int.tdiv_eq_ediv_of_nonneg h3];exact ⟨Int.ediv_nonneg h3 (by omega), Int.ediv_le_self _ h3⟩
  refine ⟨⟨h1, h2⟩, ned (by simp; omega) (ar64 (by omega) ?_)⟩;exact h
noncomputable def Xps : PC Try.prog := ⟨58, Xhh, [(false, [.bool])], Xk6, Xk4, okhas⟩
noncomputable def T4 : Tab Try.prog := ⟨[Xcp, Xps], [], []⟩
def Xb8 [InW] (e : List Ed) (K : Nat -> List Ed -> Prop) : Prop := match e with
 | [.i a, .i b, .i o, .i i] => Pre (0 <= i /\ i <= 6 /\ (0 <= a /\ a <= 1048576) /\ (0 <= b /\ b <= 1048576) /\ 0 <= o /\ o <= 100 * i) (K 0 [.i (Sp.unF a b i.toNat (6 - i.toNat) o)])
 | _ => False
noncomputable def Xcf : LC where
 len := 24
 T := [(0, .int .i64), (1, .int .i64), (5, .int .i64), (6, .int .i64)]
 H := []
 W := (rg 7 16)
 outs := [⟨.exit 0, [(5, .int .i64)], [], ([0, 1] ++ rg 6 17)⟩]
 spec := Xb8
def Za [W : InW] (a b o i : Int) (A : List Ed -> Prop) := Pre (0 <= i /\ i <= 20) (Ar .i64 (o + Sp.sets i.toNat) fun z => Ar .i64 (i + 1) fun z_1 => A [.i a, .i b, .i z, .i z_1])
def Xdk [W : InW] (a b o i : Int) (A : List Ed -> Prop) (K : Nat -> List Ed -> Prop) : Prop :=
 Vif (decide (i < 6)) (Pre ((0 <= i /\ i <= 20) /\ 0 <= a /\ a <= 1048576) (Vif (Sp.has a i.toNat) (Za a b o i A) (Pre ((0 <= i /\ i <= 20) /\ 0 <= b /\ b <= 1048576) (Vif (Sp.has b i.toNat) (Za a b o i A) (Ar .i64 (i + 1) fun z => A [.i a, .i b, .i o, .i z]))))) (K 0 [.i o])
theorem Xke (W : InW) (a b o i A K) : Ye6 { cxT Try.prog TT T4 1000 50 with fn := 70 } 1000 (Ym7 Try.prog 70 4) (Yd5 24 [(0, .si .i64 a), (1, .si .i64 b), (5, .si .i64 o), (6, .si .i64 i)] (rg 7 16)) [] (Ys7 Xcf A K) = Xdk a b o i A K := by kernel_rfl
def Xdu : Prop := ∀ (W : InW) (body a : Code), (Try.prog.funcs[70]?).bind (·.body) = some body -> a ∈ Yu body -> Yfq a = 4 -> @Yl3 W Try.prog a (@Ysd W Xcf)
theorem Xlm (meas : [InW] -> List Ed -> Nat) (hyp_ : ∀ (W : InW) a b o i K, Xb8 [.i a, .i b, .i o, .i i] K -> ∀ A : List Ed -> Prop, (∀ e, meas e < meas [.i a, .i b, .i o, .i i] -> Xb8 e K -> A e) -> Xdk a b o i A K) : Xdu :=
 LE.okOf' (fun W => @TT W) (fun W => @Xb W) Xa T4 1000 50 (by kernel_rfl) Xcf (fun W => @meas W) fun W a b o i K hs =>
  (Xke W a b o i (fun e => meas e < meas [.i a, .i b, .i o, .i i] /\ Xb8 e K) K).mpr (hyp_ W a b o i K hs _ fun e h1 h2 => ⟨h1, h2⟩)
theorem Xo4 : Xdu := Xlm (fun e => match e with | [_, _, _, .i i] => (6 - i).toNat | _ => 0) fun W a b o i K hs A hA => by
 obtain ⟨⟨h0, h1, h2, h3, h4, h5⟩, hk⟩ := hs;unfold Xdk;delta Za;have hs := Sp.sets_le (k := i.toNat) (by omega);refine vifd (fun e => ?_) fun e => ?_
 ·rw [show 6 - i.toNat = (6 - (i.toNat + 1)) + 1 by omega] at hk;have ez : (i + 1).toNat = i.toNat + 1 := by omega
  have go : ∀ o', o' = (if Sp.has a i.toNat || Sp.has b i.toNat then o + Sp.sets i.toNat else o) -> (0 <= o' /\ o' <= 100 * (i + 1)) -> A [.i a, .i b, .i o', .i (i + 1)] := fun o' ho h => hA _ (by show (6 - (i + 1)).toNat < (6 - i).toNat; omega) ⟨⟨by omega, by omega, h2, h3, h.1, h.2⟩, by rw [ez, ho]; exact hk⟩;clear hk hA;generalize ha : Sp.has a i.toNat = p at *;generalize hb : Sp.has b i.toNat = q at *;cases p <;> cases q <;> repeat' (first | omega | with_reducible refine vifd (fun _ => ?_) fun _ => ?_ | with_reducible refine vifn (fun _ => ?_) fun _ => ?_ | with_reducible refine vifq (fun _ => ?_) fun _ => ?_ | with_reducible refine vifq0 (fun _ => ?_) fun _ => ?_ | with_reducible refine vifq1 (fun _ => ?_) fun _ => ?_ | with_reducible refine vifb (fun _ => ?_) fun _ => ?_ | with_reducible refine vif (fun _ => ?_) fun _ => ?_ | (with_reducible refine nedd ?_ ?_; omega) | (with_reducible refine ned ?_ ?_; simp only [Bool.and_eq_true, decide_eq_true_eq]; omega) | (with_reducible refine ar64 ?_ ?_; omega) | (with_reducible refine Xe ?_ ?_; (first | trivial | omega | assumption | (refine ⟨?_, ?_⟩ <;> first | trivial | omega | assumption) | (refine ⟨?_, ?_, ?_⟩ <;> first | trivial | omega | assumption) | (refine ⟨?_, ?_, ?_, ?_⟩ <;> first | trivial | omega | assumption))))
  all_goals first | contradiction | (refine go _ ?_ ?_ <;> first | rfl | (simp; done) | omega | (constructor <;> omega)) | skip
 ·rw [show 6 - i.toNat = 0 by omega] at hk;exact hk
noncomputable def Xo9 : LE Try.prog := ⟨70, 4, fun W => @Ysd W Xcf, Xo4⟩
noncomputable def Xmr : Tab Try.prog := ⟨[Xcp, Xps], [Xo9], []⟩
def Xe9 [W : InW] (a b : Int) (Q : DS -> Prop) : Prop :=
 Pre ((0 : Int) <= 0 /\ (0 : Int) <= 6 /\ (0 <= a /\ a <= 1048576) /\ (0 <= b /\ b <= 1048576) /\ (0 : Int) <= 0 /\ (0 : Int) <= 100 * 0) (Q [[Cl.i (Sp.unF a b (Int.toNat (0 : Int)) ((6 : Nat) - Int.toNat (0 : Int)) (0 : Int))]])
theorem Xm9 (W : InW) (a b Q) : Yvd (cxT Try.prog TT Xmr 1000 50) 1000 70 [.si .i64 a, .si .i64 b] [] 0 (Yzg [(false, [.int .i64])] Q) (fun _ _ _ _ => Stuck 421) = Xe9 a b Q := by kernel_rfl
abbrev Xcx : List AT := [.one (.int .i64), .one (.int .i64)]
theorem Xou {pre : DS -> Prop} {res : DS -> DS} (hyp_ : ∀ (W : InW) (a b : Int), pre [[.i a], [.i b]] -> ∀ Q : DS -> Prop, Q (res [[.i a], [.i b]]) -> Xe9 a b Q) : PureOk Try.prog 70 Xcx [(false, [.int .i64])] pre res :=
 PureOk.of' (fun W => @TT W) (fun W => @Xb W) Xa Xmr 1000 50 fun W a b hp =>
  (Xm9 W a b (fun o => o = res [[.i a], [.i b]])).mpr (hyp_ W a b hp _ rfl)
abbrev Xf0 (ds : DS) : DS := match ds with | [[.i a], [.i b]] => [[.i (Sp.unF a b 0 6 0)]] | _ => []
abbrev Xf5 (ds : DS) : Prop := match ds with | [[.i a], [.i b]] => (0 <= a /\ a <= 1048576) /\ 0 <= b /\ b <= 1048576 | _ => False
theorem Xq0 : PureOk Try.prog 70 Xcx [(false, [.int .i64])] Xf5 Xf0 :=
 Xou fun W a b hp Q h => by
  unfold Xe9;obtain ⟨h1, h2⟩ := hp;exact ⟨⟨by omega, by omega, h1, h2, by omega, by omega⟩, h⟩
noncomputable def Xnq : PC Try.prog := ⟨70, Xcx, [(false, [.int .i64])], Xf5, Xf0, Xq0⟩
namespace Sp
def sameI (a b : Dt) : Nat -> Nat -> Bool
 | _, 0 => true
 | i, n + 1 => (if (cel a i 0).int = (cel b i 0).int then true else false) && sameI a b (i + 1) n
def ints (a b : Dt) : Bool := if a.length = b.length then sameI a b 0 a.length else false
end Sp
def Xeb [InW] (e : List Ed) (K : Nat -> List Ed -> Prop) : Prop := match e with
 | [.ro _ a, .ro _ b, .i i] => Pre (0 <= i /\ i <= (a.xs.length : Int) /\ a.xs.length = b.xs.length) (Vif (Sp.sameI a.xs b.xs i.toNat (a.xs.length - i.toNat)) (K 0 []) (K 1 []))
 | _ => False
noncomputable def Xew : LC where
 len := 26
 T := [(0, .rs Ja), (1, .rs Ja), (5, .int .i64)]
 H := []
 W := ([4] ++ rg 11 15)
 outs := [⟨.exit 0, [], [], ([0, 1, 4, 5] ++ rg 11 15)⟩, ⟨.ret, [(4, (.lit (.bool false)))], [], ([0, 1, 5] ++ rg 11 15)⟩]
 spec := Xeb
def Xfu [W : InW] (a b : Ro Ja) (i : Int) (A : List Ed -> Prop) (K : Nat -> List Ed -> Prop) : Prop :=
 Vif (decide (i < (↑(a.xs.length) : Int))) (Need (decide (0 <= i) && decide (i < (↑(a.xs.length) : Int))) (Need (decide (i.toNat < a.xs.length)) (Need (decide (0 <= i) && decide (i < (↑(b.xs.length) : Int))) (Need (decide (i.toNat < b.xs.length)) (Vif (!decide ((cel a.xs i.toNat (0 : Nat)).int = (cel b.xs i.toNat (0 : Nat)).int)) (K (0+1) []) (Ar .i64 (i + 1) fun z => A [.ro _ a, .ro _ b, .i z])))))) (K 0 [])
theorem Xm4 (W : InW) (a b i A K) : Ye6 { cxT Try.prog TT T0 1000 50 with fn := 19 } 1000 (Ym7 Try.prog 19 5) (Yd5 26 [(0, .rs _ a), (1, .rs _ b), (5, .si .i64 i)] ([4] ++ rg 11 15)) [] (Ys7 Xew A K) = Xfu a b i A K := by kernel_rfl
def Xgr : Prop := ∀ (W : InW) (body a : Code), (Try.prog.funcs[19]?).bind (·.body) = some body -> a ∈ Yu body -> Yfq a = 5 -> @Yl3 W Try.prog a (@Ysd W Xew)
theorem Xom (meas : [InW] -> List Ed -> Nat) (hyp_ : ∀ (W : InW) a b i K, Xeb [.ro _ a, .ro _ b, .i i] K -> ∀ A : List Ed -> Prop, (∀ e, meas e < meas [.ro _ a, .ro _ b, .i i] -> Xeb e K -> A e) -> Xfu a b i A K) : Xgr :=
 LE.okOf' (fun W => @TT W) (fun W => @Xb W) Xa T0 1000 50 (by kernel_rfl) Xew (fun W => @meas W) fun W a b i K hs =>
  (Xm4 W a b i (fun e => meas e < meas [.ro _ a, .ro _ b, .i i] /\ Xeb e K) K).mpr (hyp_ W a b i K hs _ fun e h1 h2 => ⟨h1, h2⟩)
theorem Xsc : Xgr := Xom (fun e => match e with | .ro _ a :: _ :: .i i :: _ => ((a.xs.length : Int) - i).toNat | _ => 0) fun W a b i K hs A hA => by
 obtain ⟨⟨h0, h1, h2⟩, hk⟩ := hs;unfold Xfu;have hm := a.len;simp only [maxLen] at hm;have hlt : i < a.xs.length -> ((a.xs.length : Int) - (i + 1)).toNat < ((a.xs.length : Int) - i).toNat := by omega
 refine vifd (fun e => ned (by simp; omega) (nedd (by omega) (ned (by simp; omega) (nedd (by omega) (vif (fun e2 => ?_) fun e2 => ar64 (by omega) (hA _ (hlt e) ⟨⟨by omega, by omega, h2⟩, ?_⟩)))))) fun e => ?_
 ·rw [show a.xs.length - i.toNat = (a.xs.length - (i.toNat + 1)) + 1 by omega, Sp.sameI] at hk;exact hk.2 (by rw [if_neg (by simpa using e2)]; rfl)
 ·rw [show a.xs.length - i.toNat = (a.xs.length - (i.toNat + 1)) + 1 by omega, Sp.sameI, if_pos (by simpa using e2), Bool.true_and] at hk;rw [show (i + 1).toNat = i.toNat + 1 by omega];exact hk
 ·rw [show a.xs.length - i.toNat = 0 by omega] at hk;exact hk.1 rfl
noncomputable def Xsr : LE Try.prog := ⟨19, 5, fun W => @Ysd W Xew, Xsc⟩
noncomputable def T6i : Tab Try.prog := ⟨T0.pcs, [Xsr], []⟩
def Xhm [W : InW] (a b : Ro Ja) (Q : DS -> Prop) : Prop :=
 Vif (!decide ((↑(a.xs.length) : Int) = (↑(b.xs.length) : Int))) (Q [[Cl.b false]]) (Pre ((0 : Int) <= 0 /\ (0 : Int) <= (↑(a.xs.length) : Int) /\ a.xs.length = b.xs.length) (Vif (Sp.sameI a.xs b.xs (Int.toNat (0 : Int)) (a.xs.length - Int.toNat (0 : Int))) (Q [[Cl.b true]]) (Q [[Cl.b false]])))
theorem Xqp (W : InW) (a b Q) : Yvd (cxT Try.prog TT T6i 1000 50) 1000 19 [.rs _ a, .rs _ b] [] 0 (Yzg [(false, [.bool])] Q) (fun _ _ _ _ => Stuck 421) = Xhm a b Q := by kernel_rfl
abbrev Xe6 : List AT := [.one (.sl Ja), .one (.sl Ja)]
theorem Xrx {pre : DS -> Prop} {res : DS -> DS} (hyp_ : ∀ (W : InW) (a b : Ro Ja), pre [[.l a.xs], [.l b.xs]] -> ∀ Q : DS -> Prop, Q (res [[.l a.xs], [.l b.xs]]) -> Xhm a b Q) : PureOk Try.prog 19 Xe6 [(false, [.bool])] pre res :=
 PureOk.of' (fun W => @TT W) (fun W => @Xb W) Xa T6i 1000 50 fun W a b hp =>
  (Xqp W a b (fun o => o = res [[.l a.xs], [.l b.xs]])).mpr (hyp_ W a b hp _ rfl)
abbrev Xeh (ds : DS) : DS := match ds with | [[.l a], [.l b]] => [[.b (Sp.ints a b)]] | _ => []
theorem Xtk : PureOk Try.prog 19 Xe6 [(false, [.bool])] (fun _ => True) Xeh :=
 Xrx fun W a b hp Q hh => by
  unfold Xhm;simp only [Xeh, Sp.ints] at hh;rw [show Int.toNat 0 = 0 from rfl, Nat.sub_zero];refine vif (fun e => ?_) fun e => ?_
  ·have e' : ¬ (a.xs.length : Int) = b.xs.length := by simpa using e
   rw [if_neg (by omega)] at hh; exact hh
  ·have e0 : (a.xs.length : Int) = b.xs.length := by simpa using e
   have e' : a.xs.length = b.xs.length := by omega
   rw [if_pos e'] at hh;refine ⟨⟨by omega, by omega, e'⟩, vif (fun e2 => ?_) fun e2 => ?_⟩
   ·rw [e2] at hh; exact hh
   ·rw [e2] at hh; exact hh
noncomputable def Xg7 : PC Try.prog := ⟨19, Xe6, [(false, [.bool])], fun _ => True, Xeh, Xtk⟩
attribute [local irreducible] Go.Oper.wp
section
variable [W : InW]
def nthQ : List AV -> Nat -> AV
 | [], _ => .junk
 | x :: xs, n => match n with | 0 => x | n + 1 => nthQ xs n
def likeQ : Pt -> AV -> Bool
 | .lit v, x => (match x with | .v u => Ycg u v | _ => false)
 | .row _, x => (match x with | .rw _ => true | .sl _ 0 0 _ => true | _ => false)
 | _, _ => true
def Xuc : List (Nat × Pt) -> List AV -> Bool
 | [], _ => true
 | p :: ps, tm => match likeQ p.2 (nthQ tm p.1) with | true => Xuc ps tm | false => false
end
noncomputable def LE.pick {P : Program} (T : List (Nat × Pt)) (a b : LE P) (hg : b.g = a.g) (hk : b.key = a.key) : LE P where
 g := a.g
 key := a.key
 f := fun W tm hp K => match @Xuc W T tm with | true => a.f W tm hp K | false => b.f W tm hp K
 ok := fun W body c h1 h2 h3 tm hp K h => by
  dsimp only at h
  split at h
  ·exact a.ok W body c h1 h2 h3 tm hp K h
  ·exact b.ok W body c (by rw [hg]; exact h1) h2 (by rw [hk]; exact h3) tm hp K h
end Go.Proofs.Ytmogofidmchdoaa
namespace Go.Proofs.Ytmogofidmchdoaa
open Go.RowKit
attribute [local irreducible] Go.Oper.wp
noncomputable def LE.unroll {P : Program} (tt : (W : InW) -> @Tr (@TI W)) (ht : ∀ W : InW, @TabOk W P (tt W)) (hm : P.follows .mixedOrders = true) (T : Tab P) (n m u : Nat) (g : FuncId) (key : Nat) (h1 : (match Yey P g key with | [_] => true | _ => false) = true) : LE P where
 g := g
 key := key
 f := fun W tm hp K => @Yww W (@Ye6 W { @cxT W P (tt W) T n m with fn := g } n (Ym7 P g key)) u tm hp K
 ok := fun W body a hbd ha hk tm hp K h => by
  obtain ⟨h2, h3⟩ := Ywx h1;rw [h2 body a hbd ha hk];have hP := Yx2 P (tt W) T n m;have hL := (Yq2 (T := T) (ht W) hm n m).at g;have := Yk3 (P := P) (cd := Ym7 P g key) (fun tm hp K h => by
   have := Ygt (c := { @cxT W P (tt W) T n m with fn := g }) hL (by rw [show ({ @cxT W P (tt W) T n m with fn := g } : Cx).P = P from hP]; exact hm) n (root := Yjd P g) (by
    show ((cxT P (tt W) T n m).P.funcs[g]?).bind (·.body) = _
    rw [hP]; exact Yw4 h1) (Ym7 P g key) h3.loop tm hp K h
   rw [show ({ @cxT W P (tt W) T n m with fn := g } : Cx).P = P from hP] at this;exact this) u tm hp K h
  exact this
end Go.Proofs.Ytmogofidmchdoaa
namespace Go.Proofs.Ytmogofidmchdoaa
open Go.RowKit
set_option maxRecDepth 100000
set_option maxHeartbeats 1600000
abbrev Xc : List Ty := [.int .i64, .int .i64, .int .i64, .int .i64, .int .i64, .bool, .sl Ja]
theorem Xfy [InW] {f : Nat -> Int} {i n : Nat} {K1 : Nat -> Int -> Prop} {K0 : Prop} (h : Vif (Sp.hasE f i (n + 1)) (K1 (Sp.idxE f i (n + 1)) (f (Sp.idxE f i (n + 1)))) K0) :
  (f i ≠ 0 -> K1 i (f i)) /\ (f i = 0 -> Vif (Sp.hasE f (i + 1) n) (K1 (Sp.idxE f (i + 1) n) (f (Sp.idxE f (i + 1) n))) K0) := by
 simp only [Sp.hasE, Sp.idxE] at h;refine ⟨fun e => ?_, fun e => ?_⟩
 ·have := h.1 (by simp [e]);simpa [e] using this
 ·simpa [e] using h
theorem Xph {xs : Dt} {i k m : Nat} (h : i < m) : cel (xs.take m) i k = cel xs i k := by
 simp [cel, List.getElem?_take, h]
theorem Xju {xs : Dt} {name : ByteArray} {m : Nat} : ∀ (n k : Nat), k + n <= m -> Sp.dup (xs.take m) name k n = Sp.dup xs name k n
 | 0, _, _ => rfl
 | n + 1, k, h => by
  have h1 := @Xju xs name m n (k + 1) (by omega);simp only [Sp.dup, Sp.nm, Xph (show k < m by omega), h1]
namespace Sp
def ixOf (xs : Dt) (name : ByteArray) : Int := if dup xs name 0 xs.length then (dupI xs name 0 xs.length : Int) else -1
end Sp
theorem Xpf (xs : Dt) (name : ByteArray) : decide (0 <= Sp.ixOf xs name) = Sp.dup xs name 0 xs.length := by
 unfold Sp.ixOf
 split
 ·rename_i h; rw [h]; exact decide_eq_true (by omega)
 ·rename_i h; rw [show Sp.dup xs name 0 xs.length = false by simpa using h]; rfl
theorem Xey {xs : Dt} {name : ByteArray} {i n : Nat} : Sp.dup xs name i (n + 1) = (eqS (Sp.nm xs i) name || Sp.dup xs name (i + 1) n) /\ Sp.dupI xs name i (n + 1) = if eqS (Sp.nm xs i) name = true then i else Sp.dupI xs name (i + 1) n := ⟨rfl, rfl⟩
theorem Xck (a b : ByteArray) : eqS a b = eqS b a := by unfold eqS; rw [Bool.eq_iff_iff]; simp only [beq_iff_eq, decide_eq_true_eq]; exact ⟨Eq.symm, Eq.symm⟩
def Xia [InW] (e : List Ed) (K : Nat -> List Ed -> Prop) : Prop := match e with
 | [.ro _ xs, .s name, .i i] => Pre (0 <= i /\ i <= xs.xs.length) (Vif (Sp.dup xs.xs name i.toNat (xs.xs.length - i.toNat)) (K 1 [.i (Sp.dupI xs.xs name i.toNat (xs.xs.length - i.toNat))]) (K 0 []))
 | _ => False
noncomputable def Xjh : LC where
 len := 19
 T := [(0, .rs Jb), (1, .str), (5, .int .i64)]
 H := []
 W := ([4] ++ rg 6 13)
 outs := [⟨.exit 0, [], [], ([0, 1] ++ rg 4 15)⟩, ⟨.ret, [(4, .int .i64)], [], ([0, 1] ++ rg 5 14)⟩]
 spec := Xia
def Xhr [W : InW] (xs : Ro Jb) (name : ByteArray) (i : Int) (A : List Ed -> Prop) (K : Nat -> List Ed -> Prop) : Prop :=
 Vif (decide (i < (↑(xs.xs.length) : Int))) (Need (decide (0 <= i) && decide (i < (↑(xs.xs.length) : Int))) (Need (decide (i.toNat < xs.xs.length)) (Vif (eqS (cel xs.xs i.toNat (0 : Nat)).str name) (K (0+1) [.i i]) (Ar .i64 (i + 1) fun z => A [.ro _ xs, .s name, .i z])))) (K 0 [])
theorem Xp5 (W : InW) (xs name i A K) : Ye6 { cxT Try.prog TT T0 1000 50 with fn := 96 } 1000 (Ym7 Try.prog 96 3) (Yd5 19 [(0, .rs _ xs), (1, .ss name), (5, .si .i64 i)] ([4] ++ rg 6 13)) [] (Ys7 Xjh A K) = Xhr xs name i A K := by kernel_rfl
def Xi1 : Prop := ∀ (W : InW) (body a : Code), (Try.prog.funcs[96]?).bind (·.body) = some body -> a ∈ Yu body -> Yfq a = 3 -> @Yl3 W Try.prog a (@Ysd W Xjh)
theorem Xrc (meas : [InW] -> List Ed -> Nat) (hyp_ : ∀ (W : InW) xs name i K, Xia [.ro _ xs, .s name, .i i] K -> ∀ A : List Ed -> Prop, (∀ e, meas e < meas [.ro _ xs, .s name, .i i] -> Xia e K -> A e) -> Xhr xs name i A K) : Xi1 :=
 LE.okOf' (fun W => @TT W) (fun W => @Xb W) Xa T0 1000 50 (by kernel_rfl) Xjh (fun W => @meas W) fun W xs name i K hs =>
  (Xp5 W xs name i (fun e => meas e < meas [.ro _ xs, .s name, .i i] /\ Xia e K) K).mpr (hyp_ W xs name i K hs _ fun e h1 h2 => ⟨h1, h2⟩)
theorem Xtv : Xi1 := Xrc (fun e => match e with | .ro _ xs :: _ :: r => ((xs.xs.length : Int) - (match r with | [.i i] => i | _ => 0)).toNat | _ => 0) fun W xs name i K hs A hA => by
 obtain ⟨⟨h0, h1⟩, hk⟩ := hs;unfold Xhr;have hm := xs.len;simp only [maxLen] at hm;refine vifd (fun e => ?_) fun e => ?_
 ·rw [show xs.xs.length - i.toNat = (xs.xs.length - (i.toNat + 1)) + 1 by omega, Xey.1, Xey.2] at hk;have hA' : eqS (Sp.nm xs.xs i.toNat) name = false -> A [.ro _ xs, .s name, .i (i + 1)] := fun f => hA _ (by show ((xs.xs.length : Int) - (i + 1)).toNat < ((xs.xs.length : Int) - i).toNat; omega) ⟨⟨by omega, by omega⟩, by
   rw [show (i + 1).toNat = i.toNat + 1 by omega];simp only [f, Bool.false_or, Bool.false_eq_true, if_false] at hk;exact hk⟩
  have hR : eqS (Sp.nm xs.xs i.toNat) name = true -> K 1 [.i i] := fun f => by
   simp only [f, Bool.true_or, if_true] at hk;have := hk.1 rfl;rwa [Int.toNat_of_nonneg h0] at this
  refine ned (by simp; omega) (nedd (by omega) (vif (fun e2 => ?_) fun e2 => ar64 (by omega) ?_))
  ·exact hR (by first | exact e2 | (rw [Xck]; exact e2))
  ·exact hA' (by first | exact e2 | (rw [Xck]; exact e2))
 ·rw [show xs.xs.length - i.toNat = 0 by omega] at hk;exact hk.2 rfl
noncomputable def Xug : LE Try.prog := ⟨96, 3, fun W => @Ysd W Xjh, Xtv⟩
def Xid [InW] (e : List Ed) (K : Nat -> List Ed -> Prop) : Prop := match e with
 | [.ro _ xs, .s name, .i n, .i i] => Pre (n = xs.xs.length /\ 0 <= i /\ i <= xs.xs.length) (Vif (Sp.dup xs.xs name i.toNat (xs.xs.length - i.toNat)) (K 1 [.i (Sp.dupI xs.xs name i.toNat (xs.xs.length - i.toNat))]) (K 0 []))
 | _ => False
noncomputable def Xjk : LC where
 len := 19
 T := [(0, .rs Jb), (1, .str), (7, .int .i64), (8, .int .i64)]
 H := []
 W := ([4, 5] ++ rg 9 10)
 outs := [⟨.exit 0, [], [], ([0, 1, 4, 5] ++ rg 7 12)⟩, ⟨.ret, [(4, .int .i64)], [], ([0, 1, 5] ++ rg 7 12)⟩]
 spec := Xid
def Xhu [W : InW] (xs : Ro Jb) (name : ByteArray) (n i : Int) (A : List Ed -> Prop) (K : Nat -> List Ed -> Prop) : Prop :=
 Vif (decide (i < n)) (Need (decide (0 <= i) && decide (i < (↑(xs.xs.length) : Int))) (Need (decide (i.toNat < xs.xs.length)) (Vif (eqS name (cel xs.xs i.toNat (0 : Nat)).str) (K (0+1) [.i i]) (Ar .i64 (i + 1) fun z => A [.ro _ xs, .s name, .i n, .i z])))) (K 0 [])
theorem Xp8 (W : InW) (xs name n i A K) : Ye6 { cxT Try.prog TT T0 1000 50 with fn := 105 } 1000 (Ym7 Try.prog 105 3) (Yd5 19 [(0, .rs _ xs), (1, .ss name), (7, .si .i64 n), (8, .si .i64 i)] ([4, 5] ++ rg 9 10)) [] (Ys7 Xjk A K) = Xhu xs name n i A K := by kernel_rfl
def Xi4 : Prop := ∀ (W : InW) (body a : Code), (Try.prog.funcs[105]?).bind (·.body) = some body -> a ∈ Yu body -> Yfq a = 3 -> @Yl3 W Try.prog a (@Ysd W Xjk)
theorem Xrf (meas : [InW] -> List Ed -> Nat) (hyp_ : ∀ (W : InW) xs name n i K, Xid [.ro _ xs, .s name, .i n, .i i] K -> ∀ A : List Ed -> Prop, (∀ e, meas e < meas [.ro _ xs, .s name, .i n, .i i] -> Xid e K -> A e) -> Xhu xs name n i A K) : Xi4 :=
 LE.okOf' (fun W => @TT W) (fun W => @Xb W) Xa T0 1000 50 (by kernel_rfl) Xjk (fun W => @meas W) fun W xs name n i K hs =>
  (Xp8 W xs name n i (fun e => meas e < meas [.ro _ xs, .s name, .i n, .i i] /\ Xid e K) K).mpr (hyp_ W xs name n i K hs _ fun e h1 h2 => ⟨h1, h2⟩)
theorem Xty : Xi4 := Xrf (fun e => match e with | .ro _ xs :: _ :: r => ((xs.xs.length : Int) - (match r with | [_, .i i] => i | _ => 0)).toNat | _ => 0) fun W xs name n i K hs A hA => by
 obtain ⟨⟨rfl, h0, h1⟩, hk⟩ := hs;unfold Xhu;have hm := xs.len;simp only [maxLen] at hm;refine vifd (fun e => ?_) fun e => ?_
 ·rw [show xs.xs.length - i.toNat = (xs.xs.length - (i.toNat + 1)) + 1 by omega, Xey.1, Xey.2] at hk;have hA' : eqS (Sp.nm xs.xs i.toNat) name = false -> A [.ro _ xs, .s name, .i xs.xs.length, .i (i + 1)] := fun f => hA _ (by show ((xs.xs.length : Int) - (i + 1)).toNat < ((xs.xs.length : Int) - i).toNat; omega) ⟨⟨rfl, by omega, by omega⟩, by
   rw [show (i + 1).toNat = i.toNat + 1 by omega];simp only [f, Bool.false_or, Bool.false_eq_true, if_false] at hk;exact hk⟩
  have hR : eqS (Sp.nm xs.xs i.toNat) name = true -> K 1 [.i i] := fun f => by
   simp only [f, Bool.true_or, if_true] at hk;have := hk.1 rfl;rwa [Int.toNat_of_nonneg h0] at this
  refine ned (by simp; omega) (nedd (by omega) (vif (fun e2 => ?_) fun e2 => ar64 (by omega) ?_))
  ·exact hR (by first | exact e2 | (rw [Xck]; exact e2))
  ·exact hA' (by first | exact e2 | (rw [Xck]; exact e2))
 ·rw [show xs.xs.length - i.toNat = 0 by omega] at hk;exact hk.2 rfl
noncomputable def Xuj : LE Try.prog := ⟨105, 3, fun W => @Ysd W Xjk, Xty⟩
noncomputable def T10 : Tab Try.prog := ⟨[Xix, Xiv], [Xug, Xuj], []⟩
def Xc9 [W : InW] (xs : Ro Jb) (name : ByteArray) (Q : DS -> Prop) : Prop :=
 Pre ((0 : Int) <= 0 /\ (0 : Int) <= (↑(xs.xs.length) : Int)) (Vif (Sp.dup xs.xs name (Int.toNat (0 : Int)) (xs.xs.length - Int.toNat (0 : Int))) (Q [[Cl.i (↑(Sp.dupI xs.xs name (Int.toNat (0 : Int)) (xs.xs.length - Int.toNat (0 : Int))) : Int)]]) (Q [[Cl.i (-1 : Int)]]))
theorem Xkm (W : InW) (xs name Q) : Yvd (cxT Try.prog TT T10 1000 50) 1000 96 [.rs _ xs, .ss name] [] 0 (Yzg [(false, [.int .i64])] Q) (fun _ _ _ _ => Stuck 421) = Xc9 xs name Q := by kernel_rfl
abbrev Xbn : List AT := [.one (.sl Jb), .one (.str)]
theorem Xlv {pre : DS -> Prop} {res : DS -> DS} (hyp_ : ∀ (W : InW) (xs : Ro Jb) (name : ByteArray), pre [[.l xs.xs], [.s name]] -> ∀ Q : DS -> Prop, Q (res [[.l xs.xs], [.s name]]) -> Xc9 xs name Q) : PureOk Try.prog 96 Xbn [(false, [.int .i64])] pre res :=
 PureOk.of' (fun W => @TT W) (fun W => @Xb W) Xa T10 1000 50 fun W xs name hp =>
  (Xkm W xs name (fun o => o = res [[.l xs.xs], [.s name]])).mpr (hyp_ W xs name hp _ rfl)
abbrev Xbd (ds : DS) : DS := match ds with | [[.l xs], [.s name]] => [[.i (Sp.ixOf xs name)]] | _ => []
theorem Xn2 : PureOk Try.prog 96 Xbn [(false, [.int .i64])] (fun _ => True) Xbd :=
 Xlv fun W xs name hp Q h => by
  unfold Xc9;rw [show Int.toNat 0 = 0 from rfl, Nat.sub_zero];simp only [Xbd, Sp.ixOf] at h;refine ⟨⟨by omega, by omega⟩, vif (fun e => ?_) fun e => ?_⟩
  ·rw [if_pos e] at h; exact h
  ·rw [if_neg (by rw [e]; simp)] at h; exact h
noncomputable def Xla : PC Try.prog := ⟨96, Xbn, [(false, [.int .i64])], fun _ => True, Xbd, Xn2⟩
def Xhj [W : InW] (xs : Ro Jb) (name : ByteArray) (Q : DS -> Prop) : Prop :=
 Pre ((↑(xs.xs.length) : Int) = (↑(xs.xs.length) : Int) /\ (0 : Int) <= 0 /\ (0 : Int) <= (↑(xs.xs.length) : Int)) (Vif (Sp.dup xs.xs name (Int.toNat (0 : Int)) (xs.xs.length - Int.toNat (0 : Int))) (Q [[Cl.b (decide ((0 : Int) <= (↑(Sp.dupI xs.xs name (Int.toNat (0 : Int)) (xs.xs.length - Int.toNat (0 : Int))) : Int)))]]) (Q [[Cl.b false]]))
theorem Xqm (W : InW) (xs name Q) : Yvd (cxT Try.prog TT T10 1000 50) 1000 100 [.rs _ xs, .ss name] [] 0 (Yzg [(false, [.bool])] Q) (fun _ _ _ _ => Stuck 421) = Xhj xs name Q := by kernel_rfl
abbrev Xe3 : List AT := [.one (.sl Jb), .one (.str)]
theorem Xru {pre : DS -> Prop} {res : DS -> DS} (hyp_ : ∀ (W : InW) (xs : Ro Jb) (name : ByteArray), pre [[.l xs.xs], [.s name]] -> ∀ Q : DS -> Prop, Q (res [[.l xs.xs], [.s name]]) -> Xhj xs name Q) : PureOk Try.prog 100 Xe3 [(false, [.bool])] pre res :=
 PureOk.of' (fun W => @TT W) (fun W => @Xb W) Xa T10 1000 50 fun W xs name hp =>
  (Xqm W xs name (fun o => o = res [[.l xs.xs], [.s name]])).mpr (hyp_ W xs name hp _ rfl)
abbrev Xeg (ds : DS) : DS := match ds with | [[.l xs], [.s name]] => [[.b (Sp.dup xs name 0 xs.length)]] | _ => []
theorem Xtg : PureOk Try.prog 100 Xe3 [(false, [.bool])] (fun _ => True) Xeg :=
 Xru fun W xs name hp Q h => by
  unfold Xhj;rw [show Int.toNat 0 = 0 from rfl, Nat.sub_zero];simp only [Xeg] at h;refine ⟨⟨rfl, by omega, by omega⟩, vif (fun e => ?_) fun e => ?_⟩
  ·rw [e] at h
   first | exact h | (rw [decide_eq_true (by omega)]; exact h)
  ·rw [e] at h
   first | exact h | (rw [decide_eq_false (by omega)]; exact h)
noncomputable def Xqx : PC Try.prog := ⟨100, Xe3, [(false, [.bool])], fun _ => True, Xeg, Xtg⟩
noncomputable def T11 : Tab Try.prog := ⟨[Xix, Xiv, Xla, Xqx], [], []⟩
def Xd2 [InW] (e : List Ed) (K : Nat -> List Ed -> Prop) : Prop := match e with
 | [.ro _ xs, .i i] => Pre (0 <= i /\ i <= xs.xs.length /\ Sp.NamesOk xs.xs) (Vif (Sp.hasE (Sp.nameErr xs.xs) i.toNat (xs.xs.length - i.toNat))
   (K 1 [.i (Sp.idxE (Sp.nameErr xs.xs) i.toNat (xs.xs.length - i.toNat)), .i (Sp.nameErr xs.xs (Sp.idxE (Sp.nameErr xs.xs) i.toNat (xs.xs.length - i.toNat)))]) (K 0 []))
 | _ => False
noncomputable def Xen : LC where
 len := 28
 T := [(0, .rs Jb), (4, .int .i64)]
 H := []
 W := ([2, 3] ++ rg 5 23)
 outs := [⟨.exit 0, [], [], ([0] ++ rg 2 26)⟩, ⟨.ret, [(2, .int .i64), (3, .int .i64)], [], ([0] ++ rg 4 24)⟩]
 spec := Xd2
def Xfl [W : InW] (xs : Ro Jb) (i : Int) (A : List Ed -> Prop) (K : Nat -> List Ed -> Prop) : Prop :=
 Vif (decide (i < (↑(xs.xs.length) : Int))) (Need (decide (0 <= i) && decide (i < (↑(xs.xs.length) : Int))) (Need (decide (i.toNat < xs.xs.length)) (Pre ((cel xs.xs i.toNat (0 : Nat)).str.size <= 9223372036854775807) (Vif (!Bk.nameOk (cel xs.xs i.toNat (0 : Nat)).str) (K (0+1) [.i i, .i (6 : Int)]) (Need (decide (0 <= i)) (Need (decide ((0 : Nat) <= i.toNat) && decide (i.toNat <= xs.xs.length)) (Need (decide (0 <= i) && decide (i < (↑(xs.xs.length) : Int))) (Need (decide (i.toNat < xs.xs.length)) (Pre True (Vif (decide ((0 : Int) <= Sp.ixOf (List.drop (0 : Nat) (List.take i.toNat xs.xs)) (cel xs.xs i.toNat (0 : Nat)).str)) (K (0+1) [.i i, .i (5 : Int)]) (Ar .i64 (i + 1) fun z => A [.ro _ xs, .i z]))))))))))) (K 0 [])
theorem Xmv (W : InW) (xs i A K) : Ye6 { cxT Try.prog TT T11 1000 50 with fn := 82 } 1000 (Ym7 Try.prog 82 3) (Yd5 28 [(0, .rs _ xs), (4, .si .i64 i)] ([2, 3] ++ rg 5 23)) [] (Ys7 Xen A K) = Xfl xs i A K := by kernel_rfl
def Xgi : Prop := ∀ (W : InW) (body a : Code), (Try.prog.funcs[82]?).bind (·.body) = some body -> a ∈ Yu body -> Yfq a = 3 -> @Yl3 W Try.prog a (@Ysd W Xen)
theorem Xod (meas : [InW] -> List Ed -> Nat) (hyp_ : ∀ (W : InW) xs i K, Xd2 [.ro _ xs, .i i] K -> ∀ A : List Ed -> Prop, (∀ e, meas e < meas [.ro _ xs, .i i] -> Xd2 e K -> A e) -> Xfl xs i A K) : Xgi :=
 LE.okOf' (fun W => @TT W) (fun W => @Xb W) Xa T11 1000 50 (by kernel_rfl) Xen (fun W => @meas W) fun W xs i K hs =>
  (Xmv W xs i (fun e => meas e < meas [.ro _ xs, .i i] /\ Xd2 e K) K).mpr (hyp_ W xs i K hs _ fun e h1 h2 => ⟨h1, h2⟩)
theorem Xk2 [InW] {ts : List Ty} (r : Ro ts) (n : Nat) : (r.cut 0 n).xs = r.xs.take n := rfl
theorem Xpt (xs : Dt) (i : Nat) : Sp.nameErr xs i = if Bk.nameOk (Sp.nm xs i) = true then (if Sp.dup xs (Sp.nm xs i) 0 i = true then 5 else 0) else 6 := rfl
theorem Xmb {xs : Dt} {i : Nat} (h : i <= xs.length) (name : ByteArray) : Sp.dup (xs.take i) name 0 (xs.take i).length = Sp.dup xs name 0 i := by
 rw [show (xs.take i).length = i by simp; omega];exact Xju i 0 (by omega)
theorem Xr3 : Xgi := Xod (fun e => match e with | [.ro _ xs, .i i] => ((xs.xs.length : Int) - i).toNat | _ => 0) fun W xs i K hs A hA => by
 obtain ⟨⟨h0, h1, hn⟩, hk⟩ := hs;unfold Xfl;have hm := xs.len;simp only [maxLen] at hm;refine vifd (fun e => ?_) fun e => ?_
 ·rw [show xs.xs.length - i.toNat = (xs.xs.length - (i.toNat + 1)) + 1 by omega] at hk;obtain ⟨g1, g2⟩ := Xfy (K1 := fun j e => K 1 [.i j, .i e]) hk;rw [Int.toNat_of_nonneg h0] at g1;have ez : (i + 1).toNat = i.toNat + 1 := by omega
  have hA' : Sp.nameErr xs.xs i.toNat = 0 -> A [.ro _ xs, .i (i + 1)] := fun f => hA _ (by show ((xs.xs.length : Int) - (i + 1)).toNat < ((xs.xs.length : Int) - i).toNat; omega) ⟨⟨by omega, by omega, hn⟩, by rw [ez]; exact g2 f⟩;have bad : ∀ n, Sp.nameErr xs.xs i.toNat = n -> n ≠ 0 -> K 1 [.i i, .i n] := fun n hn h => by rw [<- hn]; exact g1 (by rw [hn]; exact h)
  have hs := hn i.toNat;have eN := Lib.hid (Xpt xs.xs i.toNat);have eD := Xmb (xs := xs.xs) (i := i.toNat) (by omega) (Sp.nm xs.xs i.toNat);clear g1 g2 hk hA hn;simp only [Nat.zero_add, Nat.reduceAdd, Xpf, Xk2];simp only [show (cel xs.xs i.toNat 0).str = Sp.nm xs.xs i.toNat from rfl, eD];generalize Sp.nameErr xs.xs i.toNat = E at *;generalize Bk.nameOk (Sp.nm xs.xs i.toNat) = b1 at *;generalize Sp.dup xs.xs (Sp.nm xs.xs i.toNat) 0 i.toNat = b2 at *
  repeat' (first | omega | with_reducible refine vifd (fun _ => ?_) fun _ => ?_ | with_reducible refine vifn (fun _ => ?_) fun _ => ?_ | with_reducible refine vifq (fun _ => ?_) fun _ => ?_ | with_reducible refine vifq0 (fun _ => ?_) fun _ => ?_ | with_reducible refine vifq1 (fun _ => ?_) fun _ => ?_ | with_reducible refine vifb (fun _ => ?_) fun _ => ?_ | with_reducible refine vif (fun _ => ?_) fun _ => ?_ | (with_reducible refine nedd ?_ ?_; omega) | (with_reducible refine ned ?_ ?_; simp only [Bool.and_eq_true, decide_eq_true_eq]; omega) | (with_reducible refine ar64 ?_ ?_; omega) | (with_reducible refine Xe ?_ ?_; (first | trivial | omega | assumption | (refine ⟨?_, ?_⟩ <;> first | trivial | omega | assumption) | (refine ⟨?_, ?_, ?_⟩ <;> first | trivial | omega | assumption) | (refine ⟨?_, ?_, ?_, ?_⟩ <;> first | trivial | omega | assumption))))
  all_goals first | exact bad _ (by rw [eN.out]; simp_all) (by omega) | exact hA' (by rw [eN.out]; simp_all)
 ·rw [show xs.xs.length - i.toNat = 0 by omega] at hk;exact hk.2 rfl
noncomputable def Xsk : LE Try.prog := ⟨82, 3, fun W => @Ysd W Xen, Xr3⟩
noncomputable def T12 : Tab Try.prog := ⟨[], [Xsk], []⟩
def Zb [W : InW] (xs : Ro Jb) := Sp.idxE (Sp.nameErr xs.xs) (Int.toNat (0 : Int)) (xs.xs.length - Int.toNat (0 : Int))
def Xc7 [W : InW] (xs : Ro Jb) (Q : DS -> Prop) : Prop :=
 Pre ((0 : Int) <= 0 /\ (0 : Int) <= (↑(xs.xs.length) : Int) /\ Sp.NamesOk xs.xs) (Vif (Sp.hasE (Sp.nameErr xs.xs) (Int.toNat (0 : Int)) (xs.xs.length - Int.toNat (0 : Int))) (Q [[Cl.i (↑(Zb xs) : Int)], [Cl.i (Sp.nameErr xs.xs (Zb xs))]]) (Q [[Cl.i 0], [Cl.i 0]]))
theorem Xkk (W : InW) (xs Q) : Yvd (cxT Try.prog TT T12 1000 50) 1000 82 [.rs _ xs] [] 0 (Yzg [(false, [.int .i64]), (false, [.int .i64])] Q) (fun _ _ _ _ => Stuck 421) = Xc7 xs Q := by kernel_rfl
abbrev Xbl : List AT := [.one (.sl Jb)]
theorem Xlt {pre : DS -> Prop} {res : DS -> DS} (hyp_ : ∀ (W : InW) (xs : Ro Jb), pre [[.l xs.xs]] -> ∀ Q : DS -> Prop, Q (res [[.l xs.xs]]) -> Xc7 xs Q) : PureOk Try.prog 82 Xbl [(false, [.int .i64]), (false, [.int .i64])] pre res :=
 PureOk.of' (fun W => @TT W) (fun W => @Xb W) Xa T12 1000 50 fun W xs hp =>
  (Xkk W xs (fun o => o = res [[.l xs.xs]])).mpr (hyp_ W xs hp _ rfl)
abbrev Xbc (ds : DS) : DS := match ds with | [[.l xs]] => [[.i (Sp.nmsI xs)], [.i (Sp.nmsE xs)]] | _ => []
abbrev Xds (ds : DS) : Prop := match ds with | [[.l xs]] => Sp.NamesOk xs | _ => False
theorem Xn0 : PureOk Try.prog 82 Xbl [(false, [.int .i64]), (false, [.int .i64])] Xds Xbc :=
 Xlt fun W xs hp Q h => by
  unfold Xc7;delta Zb;rw [show Int.toNat 0 = 0 from rfl, Nat.sub_zero];simp only [Xbc, Sp.nmsI, Sp.nmsE] at h;refine ⟨⟨by omega, by omega, hp⟩, vif (fun e => ?_) fun e => ?_⟩
  ·rw [e] at h; exact h
  ·rw [e] at h; exact h
noncomputable def Xk9 : PC Try.prog := ⟨82, Xbl, [(false, [.int .i64]), (false, [.int .i64])], Xds, Xbc, Xn0⟩
def Xd5 [InW] (e : List Ed) (K : Nat -> List Ed -> Prop) : Prop := match e with
 | [.ro _ xs, .i n, .i i, .ro _ ys] => Pre (n = xs.xs.length /\ 0 <= i /\ i <= n /\ ys.xs = xs.xs) (Vif (Sp.hasE (Sp.nameErr xs.xs) i.toNat (xs.xs.length - i.toNat))
   (K 1 [.i (Sp.idxE (Sp.nameErr xs.xs) i.toNat (xs.xs.length - i.toNat)), .i (Sp.nameErr xs.xs (Sp.idxE (Sp.nameErr xs.xs) i.toNat (xs.xs.length - i.toNat))), .ro _ ys]) (K 0 [.ro _ ys]))
 | _ => False
noncomputable def Xeq : LC where
 len := 24
 T := [(1, (.fn (.func 98) [] [(.ptr 1 0)])), (8, .rs Jb), (9, .int .i64), (10, .int .i64)]
 H := [(1, .blk 22 [.rs Jb])]
 W := (rg 4 4 ++ rg 11 13)
 outs := [⟨.exit 0, [(1, (.fn (.func 98) [] [(.ptr 1 0)]))], [(1, .blk 22 [.rs Jb])], (rg 4 20)⟩, ⟨.ret, [(1, (.fn (.func 98) [] [(.ptr 1 0)])), (4, .int .i64), (5, .int .i64)], [(1, .blk 22 [.rs Jb])], (rg 6 18)⟩]
 spec := Xd5
def Xfo [W : InW] (xs : Ro Jb) (n i : Int) (ys : Ro Jb) (A : List Ed -> Prop) (K : Nat -> List Ed -> Prop) : Prop :=
 Vif (decide (i < n)) (Need (decide (0 <= i) && decide (i < (↑(xs.xs.length) : Int))) (Need (decide (i.toNat < xs.xs.length)) (Pre True (Vif (!Bk.nameOk (cel xs.xs i.toNat (0 : Nat)).str) (K (0+1) [.i i, .i (6 : Int), .ro _ ys]) (Need (decide (0 <= i)) (Need (decide ((0 : Nat) <= i.toNat) && decide (i.toNat <= ys.xs.length)) (Pre True (Vif (Sp.dup (List.drop (0 : Nat) (List.take i.toNat ys.xs)) (cel xs.xs i.toNat (0 : Nat)).str (0 : Nat) (List.drop (0 : Nat) (List.take i.toNat ys.xs)).length) (K (0+1) [.i i, .i (5 : Int), .ro _ ys]) (Ar .i64 (i + 1) fun z => A [.ro _ xs, .i n, .i z, .ro _ ys]))))))))) (K 0 [.ro _ ys])
theorem Xmy (W : InW) (xs n i ys A K) : Ye6 { cxT Try.prog TT T11 1000 50 with fn := 97 } 1000 (Ym7 Try.prog 97 3) (Yd5 24 [(1, .fn (.func 98) [] [.ptr 1 0]), (8, .rs _ xs), (9, .si .i64 n), (10, .si .i64 i)] (rg 4 4 ++ rg 11 13)) [(1, .blk 22 [.rs _ ys])] (Ys7 Xeq A K) = Xfo xs n i ys A K := by kernel_rfl
def Xgl : Prop := ∀ (W : InW) (body a : Code), (Try.prog.funcs[97]?).bind (·.body) = some body -> a ∈ Yu body -> Yfq a = 3 -> @Yl3 W Try.prog a (@Ysd W Xeq)
theorem Xog (meas : [InW] -> List Ed -> Nat) (hyp_ : ∀ (W : InW) xs n i ys K, Xd5 [.ro _ xs, .i n, .i i, .ro _ ys] K -> ∀ A : List Ed -> Prop, (∀ e, meas e < meas [.ro _ xs, .i n, .i i, .ro _ ys] -> Xd5 e K -> A e) -> Xfo xs n i ys A K) : Xgl :=
 LE.okOf' (fun W => @TT W) (fun W => @Xb W) Xa T11 1000 50 (by kernel_rfl) Xeq (fun W => @meas W) fun W xs n i ys K hs =>
  (Xmy W xs n i ys (fun e => meas e < meas [.ro _ xs, .i n, .i i, .ro _ ys] /\ Xd5 e K) K).mpr (hyp_ W xs n i ys K hs _ fun e h1 h2 => ⟨h1, h2⟩)
theorem Xr6 : Xgl := Xog (fun e => match e with | .ro _ xs :: _ :: .i i :: _ => ((xs.xs.length : Int) - i).toNat | _ => 0) fun W xs n i ys K hs A hA => by
 obtain ⟨⟨rfl, h0, h1, hy⟩, hk⟩ := hs;unfold Xfo;have hm := xs.len;simp only [maxLen] at hm;refine vifd (fun e => ?_) fun e => ?_
 ·rw [show xs.xs.length - i.toNat = (xs.xs.length - (i.toNat + 1)) + 1 by omega] at hk;obtain ⟨g1, g2⟩ := Xfy (K1 := fun j e => K 1 [.i j, .i e, .ro _ ys]) hk;rw [Int.toNat_of_nonneg h0] at g1;have ez : (i + 1).toNat = i.toNat + 1 := by omega
  have hA' : Sp.nameErr xs.xs i.toNat = 0 -> A [.ro _ xs, .i xs.xs.length, .i (i + 1), .ro _ ys] := fun f => hA _ (by show ((xs.xs.length : Int) - (i + 1)).toNat < ((xs.xs.length : Int) - i).toNat; omega) ⟨⟨rfl, by omega, by omega, hy⟩, by rw [ez]; exact g2 f⟩;have bad : ∀ n, Sp.nameErr xs.xs i.toNat = n -> n ≠ 0 -> K 1 [.i i, .i n, .ro _ ys] := fun n hn h => by rw [<- hn]; exact g1 (by rw [hn]; exact h)
  have eN := Lib.hid (Xpt xs.xs i.toNat);have eD := Xmb (xs := xs.xs) (i := i.toNat) (by omega) (Sp.nm xs.xs i.toNat);have hyl : ys.xs.length = xs.xs.length := by rw [hy]
  clear g1 g2 hk hA;simp only [Nat.zero_add, Nat.reduceAdd, Xk2, hy];simp only [show (cel xs.xs i.toNat 0).str = Sp.nm xs.xs i.toNat from rfl, eD];generalize Sp.nameErr xs.xs i.toNat = E at *;generalize Bk.nameOk (Sp.nm xs.xs i.toNat) = b1 at *;generalize Sp.dup xs.xs (Sp.nm xs.xs i.toNat) 0 i.toNat = b2 at *
  repeat' (first | omega | with_reducible refine vifd (fun _ => ?_) fun _ => ?_ | with_reducible refine vifn (fun _ => ?_) fun _ => ?_ | with_reducible refine vifq (fun _ => ?_) fun _ => ?_ | with_reducible refine vifq0 (fun _ => ?_) fun _ => ?_ | with_reducible refine vifq1 (fun _ => ?_) fun _ => ?_ | with_reducible refine vifb (fun _ => ?_) fun _ => ?_ | with_reducible refine vif (fun _ => ?_) fun _ => ?_ | (with_reducible refine nedd ?_ ?_; omega) | (with_reducible refine ned ?_ ?_; simp only [Bool.and_eq_true, decide_eq_true_eq]; omega) | (with_reducible refine ar64 ?_ ?_; omega) | (with_reducible refine Xe ?_ ?_; (first | trivial | omega | assumption | (refine ⟨?_, ?_⟩ <;> first | trivial | omega | assumption) | (refine ⟨?_, ?_, ?_⟩ <;> first | trivial | omega | assumption) | (refine ⟨?_, ?_, ?_, ?_⟩ <;> first | trivial | omega | assumption))))
  all_goals first | exact bad _ (by rw [eN.out]; simp_all) (by omega) | exact hA' (by rw [eN.out]; simp_all)
 ·rw [show xs.xs.length - i.toNat = 0 by omega] at hk;exact hk.2 rfl
noncomputable def Xl9 : LE Try.prog := ⟨97, 3, fun W => @Ysd W Xeq, Xr6⟩
def Xfd [W : InW] (t_Pl t_Sh t_Ti : Ro Jb) (t_St : Ro Xc) (Q : DS -> Prop) : Prop :=
 Need (decide ((0 : Int) <= (↑(t_Sh.xs.length) : Int))) (Ar .i64 ((1 : Int) * 2 ^ min (↑(t_Sh.xs.length) : Int).toNat (64 : Nat)) fun z => Q [[Cl.i z]])
theorem Xnd (W : InW) (t_Pl t_Sh t_Ti t_St Q) : Yvd (cxT Try.prog TT T0 1000 50) 1000 106 [.agg [.rs _ t_Pl, .rs _ t_Sh, .rs _ t_Ti, .rs _ t_St]] [] 0 (Yzg [(false, [.int .i64])] Q) (fun _ _ _ _ => Stuck 421) = Xfd t_Pl t_Sh t_Ti t_St Q := by kernel_rfl
abbrev Xc1 : List AT := [.agg [.sl Jb, .sl Jb, .sl Jb, .sl Xc]]
theorem Xoy {pre : DS -> Prop} {res : DS -> DS} (hyp_ : ∀ (W : InW) (t_Pl t_Sh t_Ti : Ro Jb) (t_St : Ro Xc), pre [[.l t_Pl.xs, .l t_Sh.xs, .l t_Ti.xs, .l t_St.xs]] -> ∀ Q : DS -> Prop, Q (res [[.l t_Pl.xs, .l t_Sh.xs, .l t_Ti.xs, .l t_St.xs]]) -> Xfd t_Pl t_Sh t_Ti t_St Q) : PureOk Try.prog 106 Xc1 [(false, [.int .i64])] pre res :=
 PureOk.of' (fun W => @TT W) (fun W => @Xb W) Xa T0 1000 50 fun W t_Pl t_Sh t_Ti t_St hp =>
  (Xnd W t_Pl t_Sh t_Ti t_St (fun o => o = res [[.l t_Pl.xs, .l t_Sh.xs, .l t_Ti.xs, .l t_St.xs]])).mpr (hyp_ W t_Pl t_Sh t_Ti t_St hp _ rfl)
abbrev Xf1 (ds : DS) : DS := match ds with | [[.l _, .l sh, .l _, .l _]] => [[.i (Sp.sets sh.length)]] | _ => []
abbrev Xf6 (ds : DS) : Prop := match ds with | [[.l _, .l sh, .l _, .l _]] => sh.length <= 20 | _ => False
theorem Xq5 : PureOk Try.prog 106 Xc1 [(false, [.int .i64])] Xf6 Xf1 :=
 Xoy fun W pl sh ti st hp Q h => by
  unfold Xfd;have hp : sh.xs.length <= 20 := hp;have hs := Sp.sets_in hp;have e : (1 : Int) * 2 ^ min ((sh.xs.length : Int)).toNat 64 = Sp.sets sh.xs.length := by
   rw [show min ((sh.xs.length : Int)).toNat 64 = sh.xs.length by omega, Int.one_mul]; rfl
  rw [e];exact nedd (by omega) (ar64 (by omega) h)
noncomputable def Xnu : PC Try.prog := ⟨106, Xc1, [(false, [.int .i64])], Xf6, Xf1, Xq5⟩
namespace Sp
def stEr (np ns nt : Nat) (fr to_ me lo hi : Int) (sh : Dt) : Int :=
  if inr fr 0 ((np : Int) - 1) && inr to_ 0 ((np : Int) - 1) then
    (if fr = to_ then 2
     else if (sh.length : Int) = nt then
      (if inr me 1 10000 && (inr lo 0 60 && (inr hi 0 60 && !out 0 (sets ns - 1) sh)) then (if hi < lo then 2 else 0) else 7)
     else 3)
  else 4
end Sp
noncomputable def T13 : Tab Try.prog := ⟨[Xcq, Xnu], [], []⟩
def Xbz [W : InW] (t_Pl t_Sh t_Ti : Ro Jb) (t_St : Ro Xc) (k s_Fr s_To s_Me s_Lo s_Hi : Int) (s_Bo : Bool) (s_Sh : Ro Ja) (Q : DS -> Prop) : Prop :=
 Ar .i64 ((↑(t_Pl.xs.length) : Int) - 1) fun z => Pre True (Vif (Sp.out (0 : Int) z [[Cl.i s_Fr], [Cl.i s_To]]) (Q [[Cl.i 4]]) (Vif (decide (s_Fr = s_To)) (Q [[Cl.i 2]]) (Vif (!decide ((↑(s_Sh.xs.length) : Int) = (↑(t_Ti.xs.length) : Int))) (Q [[Cl.i 3]]) (Pre True (Vif (Sp.out (1 : Int) (10000 : Int) [[Cl.i s_Me]]) (Q [[Cl.i 7]]) (Pre True (Vif (Sp.out (0 : Int) (60 : Int) [[Cl.i s_Lo], [Cl.i s_Hi]]) (Q [[Cl.i 7]]) (Pre (t_Sh.xs.length <= 20) (Ar .i64 (Sp.sets (t_Sh.xs.length) - 1) fun z => Pre True (Vif (Sp.out (0 : Int) z s_Sh.xs) (Q [[Cl.i 7]]) (Vif (decide (s_Hi < s_Lo)) (Q [[Cl.i 2]]) (Q [[Cl.i 0]]))))))))))))
theorem Xjz (W : InW) (t_Pl t_Sh t_Ti t_St k s_Fr s_To s_Me s_Lo s_Hi s_Bo s_Sh Q) : Yvd (cxT Try.prog TT T13 1000 50) 1000 102 [.agg [.rs _ t_Pl, .rs _ t_Sh, .rs _ t_Ti, .rs _ t_St], .si .i64 k, .agg [.si .i64 s_Fr, .si .i64 s_To, .si .i64 s_Me, .si .i64 s_Lo, .si .i64 s_Hi, .sb s_Bo, .rs _ s_Sh]] [] 0 (Yzg [(false, [.int .i64])] Q) (fun _ _ _ _ => Stuck 421) = Xbz t_Pl t_Sh t_Ti t_St k s_Fr s_To s_Me s_Lo s_Hi s_Bo s_Sh Q := by kernel_rfl
abbrev X3 : List AT := [.agg [.sl Jb, .sl Jb, .sl Jb, .sl Xc], .one (.int .i64), .agg [.int .i64, .int .i64, .int .i64, .int .i64, .int .i64, .bool, .sl Ja]]
theorem Xj9 {pre : DS -> Prop} {res : DS -> DS} (hyp_ : ∀ (W : InW) (t_Pl t_Sh t_Ti : Ro Jb) (t_St : Ro Xc) (k s_Fr s_To s_Me s_Lo s_Hi : Int) (s_Bo : Bool) (s_Sh : Ro Ja), pre [[.l t_Pl.xs, .l t_Sh.xs, .l t_Ti.xs, .l t_St.xs], [.i k], [.i s_Fr, .i s_To, .i s_Me, .i s_Lo, .i s_Hi, .b s_Bo, .l s_Sh.xs]] -> ∀ Q : DS -> Prop, Q (res [[.l t_Pl.xs, .l t_Sh.xs, .l t_Ti.xs, .l t_St.xs], [.i k], [.i s_Fr, .i s_To, .i s_Me, .i s_Lo, .i s_Hi, .b s_Bo, .l s_Sh.xs]]) -> Xbz t_Pl t_Sh t_Ti t_St k s_Fr s_To s_Me s_Lo s_Hi s_Bo s_Sh Q) : PureOk Try.prog 102 X3 [(false, [.int .i64])] pre res :=
 PureOk.of' (fun W => @TT W) (fun W => @Xb W) Xa T13 1000 50 fun W t_Pl t_Sh t_Ti t_St k s_Fr s_To s_Me s_Lo s_Hi s_Bo s_Sh hp =>
  (Xjz W t_Pl t_Sh t_Ti t_St k s_Fr s_To s_Me s_Lo s_Hi s_Bo s_Sh (fun o => o = res [[.l t_Pl.xs, .l t_Sh.xs, .l t_Ti.xs, .l t_St.xs], [.i k], [.i s_Fr, .i s_To, .i s_Me, .i s_Lo, .i s_Hi, .b s_Bo, .l s_Sh.xs]])).mpr (hyp_ W t_Pl t_Sh t_Ti t_St k s_Fr s_To s_Me s_Lo s_Hi s_Bo s_Sh hp _ rfl)
abbrev Xz (ds : DS) : DS := match ds with | [[.l pl, .l sh, .l ti, .l _], [.i _], [.i fr, .i to_, .i me, .i lo, .i hi, .b _, .l s]] => [[.i (Sp.stEr pl.length sh.length ti.length fr to_ me lo hi s)]] | _ => []
abbrev Xco (ds : DS) : Prop := match ds with | [[.l _, .l sh, .l _, .l _], _, _] => sh.length <= 20 | _ => False
theorem Xlk : PureOk Try.prog 102 X3 [(false, [.int .i64])] Xco Xz :=
 Xj9 fun W pl sh ti st k fr to_ me lo hi bo s hp Q h => by
  unfold Xbz;have hp : sh.xs.length <= 20 := hp;have hs := Sp.sets_in hp;have h1 := pl.len;have h2 := ti.len;have h3 := s.len;simp only [maxLen] at h1 h2 h3;simp only [Xz, Sp.stEr] at h;simp only [out1, out2];refine ar64 (by omega) ⟨trivial, vif (fun e1 => ?_) fun e1 => vifd (fun e2 => ?_) fun e2 => vifn (fun e3 => ?_) fun e3 => ⟨trivial, vif (fun e4 => ?_) fun e4 => ⟨trivial, vif (fun e5 => ?_) fun e5 => ⟨hp, ar64 (by omega) ⟨trivial, vif (fun e6 => ?_) fun e6 => vifd (fun e7 => ?_) fun e7 => ?_⟩⟩⟩⟩⟩
  all_goals ((repeat' split at h) <;> first | exact h | omega | (simp_all; done) | (simp_all; omega))
noncomputable def Xj5 : PC Try.prog := ⟨102, X3, [(false, [.int .i64])], Xco, Xz, Xlk⟩
noncomputable def T14 : Tab Try.prog := ⟨[Xj5], [], []⟩
def Xd3 [InW] (e : List Ed) (K : Nat -> List Ed -> Prop) : Prop := match e with
 | [.ro _ pl, .ro _ sh, .ro _ ti, .ro _ st0, .ro _ st, .i n, .i i] => Pre (n = st.xs.length /\ 0 <= i /\ i <= n /\ sh.xs.length <= 20) (Vif (Sp.hasE (Sp.stErr pl.xs.length sh.xs.length ti.xs.length st.xs) i.toNat (st.xs.length - i.toNat))
   (K 1 [.i (Sp.idxE (Sp.stErr pl.xs.length sh.xs.length ti.xs.length st.xs) i.toNat (st.xs.length - i.toNat)), .i (Sp.stErr pl.xs.length sh.xs.length ti.xs.length st.xs (Sp.idxE (Sp.stErr pl.xs.length sh.xs.length ti.xs.length st.xs) i.toNat (st.xs.length - i.toNat)))]) (K 0 []))
 | _ => False
noncomputable def Xeo : LC where
 len := 24
 T := [(1, (.fn (.func 102) [.agg [.rs Jb, .rs Jb, .rs Jb, .rs Xc]] [])), (8, .rs Xc), (9, .int .i64), (10, .int .i64)]
 H := []
 W := (rg 4 4 ++ rg 11 13)
 outs := [⟨.exit 0, [], [], ([1] ++ rg 4 20)⟩, ⟨.ret, [(4, .int .i64), (5, .int .i64)], [], ([1] ++ rg 6 18)⟩]
 spec := Xd3
def Zc := [Ty.int IntKind.i64, Ty.int IntKind.i64, Ty.int IntKind.i64, Ty.int IntKind.i64, Ty.int IntKind.i64, Ty.bool, Ty.sl [Ty.int IntKind.i64]]
def Xfm [W : InW] (pl sh ti : Ro Jb) (st0 st : Ro Xc) (n i : Int) (A : List Ed -> Prop) (K : Nat -> List Ed -> Prop) : Prop :=
 Vif (decide (i < n)) (Need (decide (0 <= i) && decide (i < (↑(st.xs.length) : Int))) (Need (decide (i.toNat < st.xs.length)) (Pre (sh.xs.length <= 20) (Vif (!decide (Sp.stEr (pl.xs.length) (sh.xs.length) (ti.xs.length) (cel st.xs i.toNat (0 : Nat)).int (cel st.xs i.toNat (0+1)).int (cel st.xs i.toNat ((0 : Nat) + 1 + 1)).int (cel st.xs i.toNat ((0 : Nat) + 1 + 1 + 1)).int (cel st.xs i.toNat ((0 : Nat) + 1 + 1 + 1 + 1)).int (cel st.xs i.toNat ((0 : Nat) + 1 + 1 + 1 + 1 + 1 + 1)).lst = 0)) (K (0+1) [.i i, .i (Sp.stEr (pl.xs.length) (sh.xs.length) (ti.xs.length) (cel st.xs i.toNat (0 : Nat)).int (cel st.xs i.toNat (0+1)).int (cel st.xs i.toNat ((0 : Nat) + 1 + 1)).int (cel st.xs i.toNat ((0 : Nat) + 1 + 1 + 1)).int (cel st.xs i.toNat ((0 : Nat) + 1 + 1 + 1 + 1)).int (cel st.xs i.toNat ((0 : Nat) + 1 + 1 + 1 + 1 + 1 + 1)).lst)]) (Ar .i64 (i + 1) fun z => A [.ro _ pl, .ro _ sh, .ro _ ti, .ro Zc st0, .ro Zc st, .i n, .i z]))))) (K 0 [])
theorem Xmw (W : InW) (pl sh ti st0 st n i A K) : Ye6 { cxT Try.prog TT T14 1000 50 with fn := 101 } 1000 (Ym7 Try.prog 101 3) (Yd5 24 [(1, .fn (.func 102) [.agg [.rs _ pl, .rs _ sh, .rs _ ti, .rs _ st0]] []), (8, .rs _ st), (9, .si .i64 n), (10, .si .i64 i)] (rg 4 4 ++ rg 11 13)) [] (Ys7 Xeo A K) = Xfm pl sh ti st0 st n i A K := by kernel_rfl
def Xgj : Prop := ∀ (W : InW) (body a : Code), (Try.prog.funcs[101]?).bind (·.body) = some body -> a ∈ Yu body -> Yfq a = 3 -> @Yl3 W Try.prog a (@Ysd W Xeo)
theorem Xoe (meas : [InW] -> List Ed -> Nat) (hyp_ : ∀ (W : InW) pl sh ti st0 st n i K, Xd3 [.ro _ pl, .ro _ sh, .ro _ ti, .ro _ st0, .ro _ st, .i n, .i i] K -> ∀ A : List Ed -> Prop, (∀ e, meas e < meas [.ro _ pl, .ro _ sh, .ro _ ti, .ro _ st0, .ro _ st, .i n, .i i] -> Xd3 e K -> A e) -> Xfm pl sh ti st0 st n i A K) : Xgj :=
 LE.okOf' (fun W => @TT W) (fun W => @Xb W) Xa T14 1000 50 (by kernel_rfl) Xeo (fun W => @meas W) fun W pl sh ti st0 st n i K hs =>
  (Xmw W pl sh ti st0 st n i (fun e => meas e < meas [.ro _ pl, .ro _ sh, .ro _ ti, .ro _ st0, .ro _ st, .i n, .i i] /\ Xd3 e K) K).mpr (hyp_ W pl sh ti st0 st n i K hs _ fun e h1 h2 => ⟨h1, h2⟩)
theorem Xr4 : Xgj := Xoe (fun e => match e with | _ :: _ :: _ :: _ :: .ro _ st :: _ :: .i i :: _ => ((st.xs.length : Int) - i).toNat | _ => 0) fun W pl sh ti st0 st n i K hs A hA => by
 obtain ⟨⟨rfl, h0, h1, h2⟩, hk⟩ := hs;unfold Xfm;delta Zc;have hm := st.len;simp only [maxLen] at hm;refine vifd (fun e => ?_) fun e => ?_
 ·rw [show st.xs.length - i.toNat = (st.xs.length - (i.toNat + 1)) + 1 by omega] at hk;obtain ⟨g1, g2⟩ := Xfy (K1 := fun j e => K 1 [.i j, .i e]) hk;rw [Int.toNat_of_nonneg h0] at g1;have ez : (i + 1).toNat = i.toNat + 1 := by omega
  have hA' : Sp.stErr pl.xs.length sh.xs.length ti.xs.length st.xs i.toNat = 0 -> A [.ro _ pl, .ro _ sh, .ro _ ti, .ro _ st0, .ro _ st, .i st.xs.length, .i (i + 1)] := fun f => hA _ (by show ((st.xs.length : Int) - (i + 1)).toNat < ((st.xs.length : Int) - i).toNat; omega) ⟨⟨rfl, by omega, by omega, h2⟩, by rw [ez]; exact g2 f⟩;have bad : Sp.stErr pl.xs.length sh.xs.length ti.xs.length st.xs i.toNat ≠ 0 -> K 1 [.i i, .i (Sp.stErr pl.xs.length sh.xs.length ti.xs.length st.xs i.toNat)] := g1;clear g1 g2 hk hA;simp only [Nat.zero_add, Nat.reduceAdd];rw [show Sp.stEr pl.xs.length sh.xs.length ti.xs.length (cel st.xs i.toNat 0).int (cel st.xs i.toNat 1).int (cel st.xs i.toNat 2).int (cel st.xs i.toNat 3).int (cel st.xs i.toNat 4).int (cel st.xs i.toNat 6).lst = Sp.stErr pl.xs.length sh.xs.length ti.xs.length st.xs i.toNat from rfl];refine ned (by simp; omega) (nedd (by omega) ⟨h2, vifn (fun e2 => bad e2) fun e2 => ar64 (by omega) (hA' e2)⟩)
 ·rw [show st.xs.length - i.toNat = 0 by omega] at hk;exact hk.2 rfl
noncomputable def Xl8 : LE Try.prog := ⟨101, 3, fun W => @Ysd W Xeo, Xr4⟩
noncomputable def T15 : Tab Try.prog := ⟨[Xcq], [Xl9, Xl8], []⟩
noncomputable def le_p3 : LE Try.prog := LE.unroll (fun W => @TT W) (fun W => @Xb W) Xa T15 1000 50 4 85 6 (by kernel_rfl)
noncomputable def T16 : Tab Try.prog := ⟨[Xcq], [Xl9, Xl8, le_p3], []⟩
def Zm := [[Cl.i 1], [Cl.i 0], [Cl.i 3]]
def Zh := (0 : Int)
def Zg := Int.toNat Zh
def Zj [W : InW] (t_Pl : Ro Jb) := Sp.idxE (Sp.nameErr t_Pl.xs) Zg (t_Pl.xs.length - Int.toNat Zh)
def Zl [W : InW] (t_Sh : Ro Jb) := Sp.idxE (Sp.nameErr t_Sh.xs) Zg (t_Sh.xs.length - Int.toNat Zh)
def Zk [W : InW] (t_Ti : Ro Jb) := Sp.idxE (Sp.nameErr t_Ti.xs) Zg (t_Ti.xs.length - Int.toNat Zh)
def Zi [W : InW] (t_Pl t_Sh t_Ti : Ro Jb) (t_St : Ro Xc) := Sp.idxE (Sp.stErr (t_Pl.xs.length) (t_Sh.xs.length) (t_Ti.xs.length) t_St.xs) Zg (t_St.xs.length - Int.toNat Zh)
def Ze [W : InW] (t_Pl t_Sh t_Ti : Ro Jb) (t_St : Ro Xc) (Q : DS -> Prop) := Pre ((↑(t_St.xs.length) : Int) = (↑(t_St.xs.length) : Int) /\ Zh <= 0 /\ Zh <= (↑(t_St.xs.length) : Int) /\ t_Sh.xs.length <= 20) (Vif (Sp.hasE (Sp.stErr (t_Pl.xs.length) (t_Sh.xs.length) (t_Ti.xs.length) t_St.xs) Zg (t_St.xs.length - Int.toNat Zh)) (Vif (!decide (Sp.stErr (t_Pl.xs.length) (t_Sh.xs.length) (t_Ti.xs.length) t_St.xs (Zi t_Pl t_Sh t_Ti t_St) = 0)) (Q [[Cl.i 5], [Cl.i (↑(Zi t_Pl t_Sh t_Ti t_St) : Int)], [Cl.i (Sp.stErr (t_Pl.xs.length) (t_Sh.xs.length) (t_Ti.xs.length) t_St.xs (Zi t_Pl t_Sh t_Ti t_St))]]) (Q [[Cl.i 0], [Cl.i 0], [Cl.i 0]])) (Q [[Cl.i 0], [Cl.i 0], [Cl.i 0]]))
def Zd [W : InW] (t_Pl t_Sh t_Ti : Ro Jb) (t_St : Ro Xc) (Q : DS -> Prop) := Pre ((↑(t_Ti.xs.length) : Int) = (↑(t_Ti.xs.length) : Int) /\ Zh <= 0 /\ Zh <= (↑(t_Ti.xs.length) : Int) /\ t_Ti.xs = t_Ti.xs) (Vif (Sp.hasE (Sp.nameErr t_Ti.xs) Zg (t_Ti.xs.length - Int.toNat Zh)) (Vif (!decide (Sp.nameErr t_Ti.xs (Zk t_Ti) = 0)) (Q [[Cl.i (Int.ofNat (3+1))], [Cl.i (↑(Zk t_Ti) : Int)], [Cl.i (Sp.nameErr t_Ti.xs (Zk t_Ti))]]) (Ze t_Pl t_Sh t_Ti t_St Q)) (Ze t_Pl t_Sh t_Ti t_St Q))
def Zf [W : InW] (t_Pl t_Sh t_Ti : Ro Jb) (t_St : Ro Xc) (Q : DS -> Prop) := Pre ((↑(t_Sh.xs.length) : Int) = (↑(t_Sh.xs.length) : Int) /\ Zh <= 0 /\ Zh <= (↑(t_Sh.xs.length) : Int) /\ t_Sh.xs = t_Sh.xs) (Vif (Sp.hasE (Sp.nameErr t_Sh.xs) Zg (t_Sh.xs.length - Int.toNat Zh)) (Vif (!decide (Sp.nameErr t_Sh.xs (Zl t_Sh) = 0)) (Q [[Cl.i (Int.ofNat (2+1))], [Cl.i (↑(Zl t_Sh) : Int)], [Cl.i (Sp.nameErr t_Sh.xs (Zl t_Sh))]]) (Zd t_Pl t_Sh t_Ti t_St Q)) (Zd t_Pl t_Sh t_Ti t_St Q))
def Xdf [W : InW] (t_Pl t_Sh t_Ti : Ro Jb) (t_St : Ro Xc) (Q : DS -> Prop) : Prop :=
 Pre True (Vif (Sp.out (1 : Int) (16 : Int) [[Cl.i (↑(t_Pl.xs.length) : Int)]]) (Q Zm) (Vif (decide ((6 : Int) < (↑(t_Sh.xs.length) : Int))) (Q Zm) (Pre True (Vif (Sp.out (1 : Int) (4 : Int) [[Cl.i (↑(t_Ti.xs.length) : Int)]]) (Q Zm) (Vif (decide ((40 : Int) < (↑(t_St.xs.length) : Int))) (Q Zm) (Pre ((↑(t_Pl.xs.length) : Int) = (↑(t_Pl.xs.length) : Int) /\ Zh <= 0 /\ Zh <= (↑(t_Pl.xs.length) : Int) /\ t_Pl.xs = t_Pl.xs) (Vif (Sp.hasE (Sp.nameErr t_Pl.xs) Zg (t_Pl.xs.length - Int.toNat Zh)) (Vif (!decide (Sp.nameErr t_Pl.xs (Zj t_Pl) = 0)) (Q [[Cl.i (Int.ofNat (1+1))], [Cl.i (↑(Zj t_Pl) : Int)], [Cl.i (Sp.nameErr t_Pl.xs (Zj t_Pl))]]) (Zf t_Pl t_Sh t_Ti t_St Q)) (Zf t_Pl t_Sh t_Ti t_St Q))))))))
theorem Xks (W : InW) (t_Pl t_Sh t_Ti t_St Q) : Yvd (cxT Try.prog TT T16 1000 50) 1000 85 [.agg [.rs _ t_Pl, .rs _ t_Sh, .rs _ t_Ti, .rs _ t_St]] [] 0 (Yzg [(false, [.int .i64]), (false, [.int .i64]), (false, [.int .i64])] Q) (fun _ _ _ _ => Stuck 421) = Xdf t_Pl t_Sh t_Ti t_St Q := by kernel_rfl
abbrev Xbt : List AT := [.agg [.sl Jb, .sl Jb, .sl Jb, .sl Xc]]
theorem Xl1 {pre : DS -> Prop} {res : DS -> DS} (hyp_ : ∀ (W : InW) (t_Pl t_Sh t_Ti : Ro Jb) (t_St : Ro Xc), pre [[.l t_Pl.xs, .l t_Sh.xs, .l t_Ti.xs, .l t_St.xs]] -> ∀ Q : DS -> Prop, Q (res [[.l t_Pl.xs, .l t_Sh.xs, .l t_Ti.xs, .l t_St.xs]]) -> Xdf t_Pl t_Sh t_Ti t_St Q) : PureOk Try.prog 85 Xbt [(false, [.int .i64]), (false, [.int .i64]), (false, [.int .i64])] pre res :=
 PureOk.of' (fun W => @TT W) (fun W => @Xb W) Xa T16 1000 50 fun W t_Pl t_Sh t_Ti t_St hp =>
  (Xks W t_Pl t_Sh t_Ti t_St (fun o => o = res [[.l t_Pl.xs, .l t_Sh.xs, .l t_Ti.xs, .l t_St.xs]])).mpr (hyp_ W t_Pl t_Sh t_Ti t_St hp _ rfl)
abbrev Xs (ds : DS) : DS := match ds with | [[.l pl, .l sh, .l ti, .l st]] => [[.i (Sp.tchkP pl sh ti st)], [.i (Sp.tchkI pl sh ti st)], [.i (Sp.tchkE pl sh ti st)]] | _ => []
abbrev Xv (ds : DS) : Prop := match ds with | [[.l pl, .l sh, .l ti, .l _]] => Sp.NamesOk pl /\ Sp.NamesOk sh /\ Sp.NamesOk ti | _ => False
theorem Xnk {pl sh ti st : Dt} {Q : Int × Int × Int -> Prop} (h : Q (Sp.tchk pl sh ti st)) :
  let c := Sp.inr pl.length 1 16 && (!decide (6 < (sh.length : Int)) && (Sp.inr ti.length 1 4 && !decide (40 < (st.length : Int))))
  (c = false -> Q (1, 0, 3)) /\
  (c = true -> Sp.hasE (Sp.nameErr pl) 0 pl.length = true -> Q (2, Sp.idxE (Sp.nameErr pl) 0 pl.length, Sp.nameErr pl (Sp.idxE (Sp.nameErr pl) 0 pl.length))) /\
  (c = true -> Sp.hasE (Sp.nameErr pl) 0 pl.length = false -> Sp.hasE (Sp.nameErr sh) 0 sh.length = true -> Q (3, Sp.idxE (Sp.nameErr sh) 0 sh.length, Sp.nameErr sh (Sp.idxE (Sp.nameErr sh) 0 sh.length))) /\
  (c = true -> Sp.hasE (Sp.nameErr pl) 0 pl.length = false -> Sp.hasE (Sp.nameErr sh) 0 sh.length = false -> Sp.hasE (Sp.nameErr ti) 0 ti.length = true -> Q (4, Sp.idxE (Sp.nameErr ti) 0 ti.length, Sp.nameErr ti (Sp.idxE (Sp.nameErr ti) 0 ti.length))) /\
  (c = true -> Sp.hasE (Sp.nameErr pl) 0 pl.length = false -> Sp.hasE (Sp.nameErr sh) 0 sh.length = false -> Sp.hasE (Sp.nameErr ti) 0 ti.length = false -> Sp.hasE (Sp.stErr pl.length sh.length ti.length st) 0 st.length = true ->
   Q (5, Sp.idxE (Sp.stErr pl.length sh.length ti.length st) 0 st.length, Sp.stErr pl.length sh.length ti.length st (Sp.idxE (Sp.stErr pl.length sh.length ti.length st) 0 st.length))) /\
  (c = true -> Sp.hasE (Sp.nameErr pl) 0 pl.length = false -> Sp.hasE (Sp.nameErr sh) 0 sh.length = false -> Sp.hasE (Sp.nameErr ti) 0 ti.length = false -> Sp.hasE (Sp.stErr pl.length sh.length ti.length st) 0 st.length = false -> Q (0, 0, 0)) := by
 intro c;have n1 : ∀ xs : Dt, Sp.hasE (Sp.nameErr xs) 0 xs.length = true -> Sp.nmsE xs = Sp.nameErr xs (Sp.idxE (Sp.nameErr xs) 0 xs.length) /\ Sp.nmsI xs = Sp.idxE (Sp.nameErr xs) 0 xs.length /\ Sp.nmsE xs ≠ 0 := fun xs e => by
  unfold Sp.nmsE Sp.nmsI;rw [if_pos e, if_pos e];exact ⟨rfl, rfl, (Sp.hasE_ix e).2.2⟩
 have n0 : ∀ xs : Dt, Sp.hasE (Sp.nameErr xs) 0 xs.length = false -> Sp.nmsE xs = 0 := fun xs e => by
  unfold Sp.nmsE;rw [if_neg (by simp [e])]
 unfold Sp.tchk at h;refine ⟨fun e => ?_, fun e e1 => ?_, fun e e1 e2 => ?_, fun e e1 e2 e3 => ?_, fun e e1 e2 e3 e4 => ?_, fun e e1 e2 e3 e4 => ?_⟩
 ·rw [if_neg (by show ¬ c = true; simp [e])] at h; exact h
 ·rw [if_pos (show c = true from e), if_neg (n1 _ e1).2.2, (n1 _ e1).1, (n1 _ e1).2.1] at h; exact h
 ·rw [if_pos (show c = true from e), if_pos (n0 _ e1), if_neg (n1 _ e2).2.2, (n1 _ e2).1, (n1 _ e2).2.1] at h; exact h
 ·rw [if_pos (show c = true from e), if_pos (n0 _ e1), if_pos (n0 _ e2), if_neg (n1 _ e3).2.2, (n1 _ e3).1, (n1 _ e3).2.1] at h; exact h
 ·rw [if_pos (show c = true from e), if_pos (n0 _ e1), if_pos (n0 _ e2), if_pos (n0 _ e3), if_pos e4] at h; exact h
 ·rw [if_pos (show c = true from e), if_pos (n0 _ e1), if_pos (n0 _ e2), if_pos (n0 _ e3), if_neg (by simp [e4])] at h; exact h
theorem Xn8 : PureOk Try.prog 85 Xbt [(false, [.int .i64]), (false, [.int .i64]), (false, [.int .i64])] Xv Xs :=
 Xl1 fun W pl sh ti st hp Q h => by
  obtain ⟨p1, p2, p3⟩ := hp;unfold Xdf;delta Zf Zd Ze Zi Zk Zl Zj Zg Zh Zm;simp only [out1];have i1 := fun e => (Sp.hasE_ix (f := Sp.nameErr pl.xs) (n := pl.xs.length) (i := 0) e).2.2; have i2 := fun e => (Sp.hasE_ix (f := Sp.nameErr sh.xs) (n := sh.xs.length) (i := 0) e).2.2; have i3 := fun e => (Sp.hasE_ix (f := Sp.nameErr ti.xs) (n := ti.xs.length) (i := 0) e).2.2; have i4 := fun e => (Sp.hasE_ix (f := Sp.stErr pl.xs.length sh.xs.length ti.xs.length st.xs) (n := st.xs.length) (i := 0) e).2.2; obtain ⟨q0, q1, q2, q3, q4, q5⟩ := Xnk (Q := fun r => Q [[.i r.1], [.i r.2.1], [.i r.2.2]]) h; clear h; simp only [show Int.toNat 0 = 0 from rfl, Nat.sub_zero]; repeat' (first | omega | with_reducible refine vifd (fun _ => ?_) fun _ => ?_ | with_reducible refine vifn (fun _ => ?_) fun _ => ?_ | with_reducible refine vifq (fun _ => ?_) fun _ => ?_ | with_reducible refine vifq0 (fun _ => ?_) fun _ => ?_ | with_reducible refine vifq1 (fun _ => ?_) fun _ => ?_ | with_reducible refine vifb (fun _ => ?_) fun _ => ?_ | with_reducible refine vif (fun _ => ?_) fun _ => ?_ | (with_reducible refine nedd ?_ ?_; omega) | (with_reducible refine ned ?_ ?_; simp only [Bool.and_eq_true, decide_eq_true_eq]; omega) | (with_reducible refine ar64 ?_ ?_; omega) | (with_reducible refine Xe ?_ ?_; (first | trivial | omega | assumption | (refine ⟨?_, ?_⟩ <;> first | trivial | omega | assumption) | (refine ⟨?_, ?_, ?_⟩ <;> first | trivial | omega | assumption) | (refine ⟨?_, ?_, ?_, ?_⟩ <;> first | trivial | omega | assumption))))
  all_goals first | exact absurd (by assumption) (i1 (by assumption)) | exact absurd (by assumption) (i2 (by assumption)) | exact absurd (by assumption) (i3 (by assumption)) | exact absurd (by assumption) (i4 (by assumption)) | exact q5 (by simp_all) (by assumption) (by assumption) (by assumption) (by assumption) | exact q4 (by simp_all) (by assumption) (by assumption) (by assumption) (by assumption) | exact q3 (by simp_all) (by assumption) (by assumption) (by assumption) | exact q2 (by simp_all) (by assumption) (by assumption) | exact q1 (by simp_all) (by assumption) | exact q0 (by simp_all)
noncomputable def Xgb : PC Try.prog := ⟨85, Xbt, [(false, [.int .i64]), (false, [.int .i64]), (false, [.int .i64])], Xv, Xs, Xn8⟩
def Xh8 [InW] (e : List Ed) (K : Nat -> List Ed -> Prop) : Prop := match e with
 | [.i i, .ro _ pl, .ro _ sh, .ro _ ti, .ro _ st, .i fr, .i to_, .i me, .i lo, .i hi, .b bo, .ro _ s] => Pre (0 <= i /\ i <= s.xs.length /\ sh.xs.length <= 20) (Vif (Sp.outs 0 (Sp.sets sh.xs.length - 1) s.xs i.toNat (s.xs.length - i.toNat))
   (K 1 []) (K 0 [.i fr, .i to_, .i me, .i lo, .i hi, .b bo, .ro _ s]))
 | _ => False
noncomputable def T17 : Tab Try.prog := ⟨[Xdt, Xcp], [], []⟩
noncomputable def Xjf : LC where
 len := 80
 T := [(2, (.ptr 1 0)), (3, (.ptr 4 0)), (5, .int .i64)]
 H := [(1, .blk 25 [.rs Jb, .rs Jb, .rs Jb, .rs Xc]), (4, .blk 88 [.int .i64, .int .i64, .int .i64, .int .i64, .int .i64, .bool, .rs Ja])]
 W := ([4] ++ rg 54 19)
 outs := [⟨.exit 0, [(3, (.ptr 4 0))], [(4, .blk 88 [.int .i64, .int .i64, .int .i64, .int .i64, .int .i64, .bool, .rs Ja])], ([2, 4, 5] ++ rg 54 19)⟩, ⟨.ret, [(4, (.lit (.int .i64 7)))], [], ([2, 3, 5] ++ rg 54 19)⟩]
 spec := Xh8
def Xhp [W : InW] (i : Int) (pl sh ti : Ro Jb) (st : Ro Xc) (fr to_ me lo hi : Int) (bo : Bool) (s : Ro Ja) (A : List Ed -> Prop) (K : Nat -> List Ed -> Prop) : Prop :=
 Vif (decide (i < (↑(s.xs.length) : Int))) (Need (decide (0 <= i) && decide (i < (↑(s.xs.length) : Int))) (Need (decide (i.toNat < s.xs.length)) (Pre ((0 : Int) <= (↑(sh.xs.length) : Int) /\ (↑(sh.xs.length) : Int) <= 20) (Ar .i64 (Sp.sets (↑(sh.xs.length) : Int).toNat - 1) fun z => Pre True (Vif (!Sp.inr (cel s.xs i.toNat (0 : Nat)).int (0 : Int) z) (K (0+1) []) (Ar .i64 (i + 1) fun z => A [.i z, .ro _ pl, .ro _ sh, .ro _ ti, .ro Zc st, .i fr, .i to_, .i me, .i lo, .i hi, .b bo, .ro _ s])))))) (K 0 [.i fr, .i to_, .i me, .i lo, .i hi, .b bo, .ro _ s])
theorem Xp3 (W : InW) (i pl sh ti st fr to_ me lo hi bo s A K) : Ye6 { cxT Try.prog TT T17 1000 50 with fn := 83 } 1000 (Ym7 Try.prog 83 11) (Yd5 80 [(2, .ptr 1 0), (3, .ptr 4 0), (5, .si .i64 i)] ([4] ++ rg 54 19)) [(1, .blk 25 [.rs _ pl, .rs _ sh, .rs _ ti, .rs _ st]), (4, .blk 88 [.si .i64 fr, .si .i64 to_, .si .i64 me, .si .i64 lo, .si .i64 hi, .sb bo, .rs _ s])] (Ys7 Xjf A K) = Xhp i pl sh ti st fr to_ me lo hi bo s A K := by kernel_rfl
def Xiz : Prop := ∀ (W : InW) (body a : Code), (Try.prog.funcs[83]?).bind (·.body) = some body -> a ∈ Yu body -> Yfq a = 11 -> @Yl3 W Try.prog a (@Ysd W Xjf)
theorem Xra (meas : [InW] -> List Ed -> Nat) (hyp_ : ∀ (W : InW) i pl sh ti st fr to_ me lo hi bo s K, Xh8 [.i i, .ro _ pl, .ro _ sh, .ro _ ti, .ro _ st, .i fr, .i to_, .i me, .i lo, .i hi, .b bo, .ro _ s] K -> ∀ A : List Ed -> Prop, (∀ e, meas e < meas [.i i, .ro _ pl, .ro _ sh, .ro _ ti, .ro _ st, .i fr, .i to_, .i me, .i lo, .i hi, .b bo, .ro _ s] -> Xh8 e K -> A e) -> Xhp i pl sh ti st fr to_ me lo hi bo s A K) : Xiz :=
 LE.okOf' (fun W => @TT W) (fun W => @Xb W) Xa T17 1000 50 (by kernel_rfl) Xjf (fun W => @meas W) fun W i pl sh ti st fr to_ me lo hi bo s K hs =>
  (Xp3 W i pl sh ti st fr to_ me lo hi bo s (fun e => meas e < meas [.i i, .ro _ pl, .ro _ sh, .ro _ ti, .ro _ st, .i fr, .i to_, .i me, .i lo, .i hi, .b bo, .ro _ s] /\ Xh8 e K) K).mpr (hyp_ W i pl sh ti st fr to_ me lo hi bo s K hs _ fun e h1 h2 => ⟨h1, h2⟩)
theorem Xtt : Xiz := Xra (fun e => match e with | [.i i, _, _, _, _, _, _, _, _, _, _, .ro _ s] => ((s.xs.length : Int) - i).toNat | _ => 0) fun W i pl sh ti st fr to_ me lo hi bo s K hs A hA => by
 obtain ⟨⟨h0, h1, h2⟩, hk⟩ := hs;unfold Xhp;delta Zc;have hm := s.len;simp only [maxLen] at hm;have hss := Sp.sets_in h2;refine vifd (fun e => ?_) fun e => ?_
 ·rw [show s.xs.length - i.toNat = (s.xs.length - (i.toNat + 1)) + 1 by omega] at hk;have ez : (i + 1).toNat = i.toNat + 1 := by omega
  have hA' : Sp.inr (cel s.xs i.toNat 0).int 0 (Sp.sets sh.xs.length - 1) = true -> A [.i (i + 1), .ro _ pl, .ro _ sh, .ro _ ti, .ro _ st, .i fr, .i to_, .i me, .i lo, .i hi, .b bo, .ro _ s] := fun f => hA _ (by show ((s.xs.length : Int) - (i + 1)).toNat < ((s.xs.length : Int) - i).toNat; omega) ⟨⟨by omega, by omega, h2⟩, by
   rw [ez];simp only [Sp.outs, f, Bool.not_true, Bool.false_or] at hk;exact hk⟩
  have bad : Sp.inr (cel s.xs i.toNat 0).int 0 (Sp.sets sh.xs.length - 1) = false -> K 1 [] := fun f => by
   simp only [Sp.outs, f, Bool.not_false, Bool.true_or] at hk;exact hk.1 rfl
  clear hk hA;simp only [Nat.zero_add, Nat.reduceAdd, Int.toNat_natCast]
  repeat' (first | omega | with_reducible refine vifd (fun _ => ?_) fun _ => ?_ | with_reducible refine vifn (fun _ => ?_) fun _ => ?_ | with_reducible refine vifq (fun _ => ?_) fun _ => ?_ | with_reducible refine vifq0 (fun _ => ?_) fun _ => ?_ | with_reducible refine vifq1 (fun _ => ?_) fun _ => ?_ | with_reducible refine vifb (fun _ => ?_) fun _ => ?_ | with_reducible refine vif (fun _ => ?_) fun _ => ?_ | (with_reducible refine nedd ?_ ?_; omega) | (with_reducible refine ned ?_ ?_; simp only [Bool.and_eq_true, decide_eq_true_eq]; omega) | (with_reducible refine ar64 ?_ ?_; omega) | (with_reducible refine Xe ?_ ?_; (first | trivial | omega | assumption | (refine ⟨?_, ?_⟩ <;> first | trivial | omega | assumption) | (refine ⟨?_, ?_, ?_⟩ <;> first | trivial | omega | assumption) | (refine ⟨?_, ?_, ?_, ?_⟩ <;> first | trivial | omega | assumption))))
  all_goals first | exact bad (by assumption) | exact hA' (by assumption) | skip
  all_goals trace_state
 ·rw [show s.xs.length - i.toNat = 0 by omega] at hk;exact hk.2 rfl
noncomputable def Xue : LE Try.prog := ⟨83, 11, fun W => @Ysd W Xjf, Xtt⟩
noncomputable def T18 : Tab Try.prog := ⟨[Xdt, Xcp], [Xue], []⟩
def Xby [W : InW] (t_Pl t_Sh t_Ti : Ro Jb) (t_St : Ro Xc) (s_Fr s_To s_Me s_Lo s_Hi : Int) (s_Bo : Bool) (s_Sh : Ro Ja) (Q : DS -> Prop) : Prop :=
 Ar .i64 ((↑(t_Pl.xs.length) : Int) - 1) fun z => Pre True (Vif (!Sp.inr s_Fr Zh z) (Q [[Cl.i 4]]) (Ar .i64 ((↑(t_Pl.xs.length) : Int) - 1) fun z => Pre True (Vif (!Sp.inr s_To Zh z) (Q [[Cl.i 4]]) (Vif (decide (s_Fr = s_To)) (Q [[Cl.i 2]]) (Vif (!decide ((↑(s_Sh.xs.length) : Int) = (↑(t_Ti.xs.length) : Int))) (Q [[Cl.i 3]]) (Pre True (Vif (!Sp.inr s_Me (1 : Int) (10000 : Int)) (Q [[Cl.i 7]]) (Pre True (Vif (!Sp.inr s_Lo Zh (60 : Int)) (Q [[Cl.i 7]]) (Pre True (Vif (!Sp.inr s_Hi Zh (60 : Int)) (Q [[Cl.i 7]]) (Pre (Zh <= 0 /\ Zh <= (↑(s_Sh.xs.length) : Int) /\ t_Sh.xs.length <= 20) (Vif (Sp.outs Zh (Sp.sets (t_Sh.xs.length) - 1) s_Sh.xs (Int.toNat Zh) (s_Sh.xs.length - Int.toNat Zh)) (Q [[Cl.i 7]]) (Vif (decide (s_Hi < s_Lo)) (Q [[Cl.i 2]]) (Q [[Cl.i 0]])))))))))))))))
theorem Xjy (W : InW) (t_Pl t_Sh t_Ti t_St s_Fr s_To s_Me s_Lo s_Hi s_Bo s_Sh Q) : Yvd (cxT Try.prog TT T18 1000 50) 1000 83 [.agg [.rs _ t_Pl, .rs _ t_Sh, .rs _ t_Ti, .rs _ t_St], .agg [.si .i64 s_Fr, .si .i64 s_To, .si .i64 s_Me, .si .i64 s_Lo, .si .i64 s_Hi, .sb s_Bo, .rs _ s_Sh]] [] 0 (Yzg [(false, [.int .i64])] Q) (fun _ _ _ _ => Stuck 421) = Xby t_Pl t_Sh t_Ti t_St s_Fr s_To s_Me s_Lo s_Hi s_Bo s_Sh Q := by kernel_rfl
abbrev X2 : List AT := [.agg [.sl Jb, .sl Jb, .sl Jb, .sl Xc], .agg [.int .i64, .int .i64, .int .i64, .int .i64, .int .i64, .bool, .sl Ja]]
theorem Xj8 {pre : DS -> Prop} {res : DS -> DS} (hyp_ : ∀ (W : InW) (t_Pl t_Sh t_Ti : Ro Jb) (t_St : Ro Xc) (s_Fr s_To s_Me s_Lo s_Hi : Int) (s_Bo : Bool) (s_Sh : Ro Ja), pre [[.l t_Pl.xs, .l t_Sh.xs, .l t_Ti.xs, .l t_St.xs], [.i s_Fr, .i s_To, .i s_Me, .i s_Lo, .i s_Hi, .b s_Bo, .l s_Sh.xs]] -> ∀ Q : DS -> Prop, Q (res [[.l t_Pl.xs, .l t_Sh.xs, .l t_Ti.xs, .l t_St.xs], [.i s_Fr, .i s_To, .i s_Me, .i s_Lo, .i s_Hi, .b s_Bo, .l s_Sh.xs]]) -> Xby t_Pl t_Sh t_Ti t_St s_Fr s_To s_Me s_Lo s_Hi s_Bo s_Sh Q) : PureOk Try.prog 83 X2 [(false, [.int .i64])] pre res :=
 PureOk.of' (fun W => @TT W) (fun W => @Xb W) Xa T18 1000 50 fun W t_Pl t_Sh t_Ti t_St s_Fr s_To s_Me s_Lo s_Hi s_Bo s_Sh hp =>
  (Xjy W t_Pl t_Sh t_Ti t_St s_Fr s_To s_Me s_Lo s_Hi s_Bo s_Sh (fun o => o = res [[.l t_Pl.xs, .l t_Sh.xs, .l t_Ti.xs, .l t_St.xs], [.i s_Fr, .i s_To, .i s_Me, .i s_Lo, .i s_Hi, .b s_Bo, .l s_Sh.xs]])).mpr (hyp_ W t_Pl t_Sh t_Ti t_St s_Fr s_To s_Me s_Lo s_Hi s_Bo s_Sh hp _ rfl)
abbrev Xy (ds : DS) : DS := match ds with | [[.l pl, .l sh, .l ti, .l _], [.i fr, .i to_, .i me, .i lo, .i hi, .b _, .l s]] => [[.i (Sp.stEr pl.length sh.length ti.length fr to_ me lo hi s)]] | _ => []
abbrev Xcn (ds : DS) : Prop := match ds with | [[.l _, .l sh, .l _, .l _], _] => sh.length <= 20 | _ => False
theorem Xlj : PureOk Try.prog 83 X2 [(false, [.int .i64])] Xcn Xy :=
 Xj8 fun W pl sh ti st fr to_ me lo hi bo s hp Q h => by
  unfold Xby;delta Zh;have hp : sh.xs.length <= 20 := hp;have h1 := pl.len;have h2 := ti.len;have h3 := s.len;simp only [maxLen] at h1 h2 h3;simp only [Xy, Sp.stEr, Sp.out] at h;simp only [show Int.toNat 0 = 0 from rfl, Nat.sub_zero]
  repeat' (first | omega | with_reducible refine vifd (fun _ => ?_) fun _ => ?_ | with_reducible refine vifn (fun _ => ?_) fun _ => ?_ | with_reducible refine vifq (fun _ => ?_) fun _ => ?_ | with_reducible refine vifq0 (fun _ => ?_) fun _ => ?_ | with_reducible refine vifq1 (fun _ => ?_) fun _ => ?_ | with_reducible refine vifb (fun _ => ?_) fun _ => ?_ | with_reducible refine vif (fun _ => ?_) fun _ => ?_ | (with_reducible refine nedd ?_ ?_; omega) | (with_reducible refine ned ?_ ?_; simp only [Bool.and_eq_true, decide_eq_true_eq]; omega) | (with_reducible refine ar64 ?_ ?_; omega) | (with_reducible refine Xe ?_ ?_; (first | trivial | omega | assumption | (refine ⟨?_, ?_⟩ <;> first | trivial | omega | assumption) | (refine ⟨?_, ?_, ?_⟩ <;> first | trivial | omega | assumption) | (refine ⟨?_, ?_, ?_, ?_⟩ <;> first | trivial | omega | assumption))))
  all_goals ((repeat' split at h) <;> first | exact h | omega | (simp_all; done) | (simp_all; omega))
  all_goals trace_state
noncomputable def Xj4 : PC Try.prog := ⟨83, X2, [(false, [.int .i64])], Xcn, Xy, Xlj⟩
noncomputable def T19 : Tab Try.prog := ⟨[Xj4, Xk9, Xdt], [], []⟩
def Xd0 [InW] (e : List Ed) (K : Nat -> List Ed -> Prop) : Prop := match e with
 | [.i i, .ro _ pl, .ro _ sh, .ro _ ti, .ro _ st] => Pre (0 <= i /\ i <= st.xs.length /\ sh.xs.length <= 20) (Vif (Sp.hasE (Sp.stErr pl.xs.length sh.xs.length ti.xs.length st.xs) i.toNat (st.xs.length - i.toNat))
   (K 1 [.i (Sp.idxE (Sp.stErr pl.xs.length sh.xs.length ti.xs.length st.xs) i.toNat (st.xs.length - i.toNat)), .i (Sp.stErr pl.xs.length sh.xs.length ti.xs.length st.xs (Sp.idxE (Sp.stErr pl.xs.length sh.xs.length ti.xs.length st.xs) i.toNat (st.xs.length - i.toNat)))]) (K 0 []))
 | _ => False
noncomputable def Xel : LC where
 len := 78
 T := [(1, (.ptr 1 0)), (9, .int .i64)]
 H := [(1, .blk 25 [.rs Jb, .rs Jb, .rs Jb, .rs Xc])]
 W := ([2, 3, 4, 10] ++ rg 60 18)
 outs := [⟨.exit 2, [], [], (rg 1 4 ++ [9, 10] ++ rg 60 18)⟩, ⟨.ret, [(2, (.lit (.int .i64 5))), (3, .int .i64), (4, .int .i64)], [], ([1, 9, 10] ++ rg 60 18)⟩]
 spec := Xd0
def Xfj [W : InW] (i : Int) (pl sh ti : Ro Jb) (st : Ro Xc) (A : List Ed -> Prop) (K : Nat -> List Ed -> Prop) : Prop :=
 Vif (decide (i < (↑(st.xs.length) : Int))) (Need (decide (0 <= i) && decide (i < (↑(st.xs.length) : Int))) (Need (decide (i.toNat < st.xs.length)) (Pre (sh.xs.length <= 20) (Vif (!decide (Sp.stEr (pl.xs.length) (sh.xs.length) (ti.xs.length) (cel st.xs i.toNat (0 : Nat)).int (cel st.xs i.toNat (0+1)).int (cel st.xs i.toNat ((0 : Nat) + 1 + 1)).int (cel st.xs i.toNat ((0 : Nat) + 1 + 1 + 1)).int (cel st.xs i.toNat ((0 : Nat) + 1 + 1 + 1 + 1)).int (cel st.xs i.toNat ((0 : Nat) + 1 + 1 + 1 + 1 + 1 + 1)).lst = 0)) (K (0+1) [.i i, .i (Sp.stEr (pl.xs.length) (sh.xs.length) (ti.xs.length) (cel st.xs i.toNat (0 : Nat)).int (cel st.xs i.toNat (0+1)).int (cel st.xs i.toNat ((0 : Nat) + 1 + 1)).int (cel st.xs i.toNat ((0 : Nat) + 1 + 1 + 1)).int (cel st.xs i.toNat ((0 : Nat) + 1 + 1 + 1 + 1)).int (cel st.xs i.toNat ((0 : Nat) + 1 + 1 + 1 + 1 + 1 + 1)).lst)]) (Ar .i64 (i + 1) fun z => A [.i z, .ro _ pl, .ro _ sh, .ro _ ti, .ro Zc st]))))) (K 0 [])
theorem Xmt (W : InW) (i pl sh ti st A K) : Ye6 { cxT Try.prog TT T19 1000 50 with fn := 67 } 1000 (Ym7 Try.prog 67 12) (Yd5 78 [(1, .ptr 1 0), (9, .si .i64 i)] ([2, 3, 4, 10] ++ rg 60 18)) [(1, .blk 25 [.rs _ pl, .rs _ sh, .rs _ ti, .rs _ st])] (Ys7 Xel A K) = Xfj i pl sh ti st A K := by kernel_rfl
def Xgg : Prop := ∀ (W : InW) (body a : Code), (Try.prog.funcs[67]?).bind (·.body) = some body -> a ∈ Yu body -> Yfq a = 12 -> @Yl3 W Try.prog a (@Ysd W Xel)
theorem Xob (meas : [InW] -> List Ed -> Nat) (hyp_ : ∀ (W : InW) i pl sh ti st K, Xd0 [.i i, .ro _ pl, .ro _ sh, .ro _ ti, .ro _ st] K -> ∀ A : List Ed -> Prop, (∀ e, meas e < meas [.i i, .ro _ pl, .ro _ sh, .ro _ ti, .ro _ st] -> Xd0 e K -> A e) -> Xfj i pl sh ti st A K) : Xgg :=
 LE.okOf' (fun W => @TT W) (fun W => @Xb W) Xa T19 1000 50 (by kernel_rfl) Xel (fun W => @meas W) fun W i pl sh ti st K hs =>
  (Xmt W i pl sh ti st (fun e => meas e < meas [.i i, .ro _ pl, .ro _ sh, .ro _ ti, .ro _ st] /\ Xd0 e K) K).mpr (hyp_ W i pl sh ti st K hs _ fun e h1 h2 => ⟨h1, h2⟩)
theorem Xr1 : Xgg := Xob (fun e => match e with | [.i i, _, _, _, .ro _ st] => ((st.xs.length : Int) - i).toNat | _ => 0) fun W i pl sh ti st K hs A hA => by
 obtain ⟨⟨h0, h1, h2⟩, hk⟩ := hs;unfold Xfj;delta Zc;have hm := st.len;simp only [maxLen] at hm;refine vifd (fun e => ?_) fun e => ?_
 ·rw [show st.xs.length - i.toNat = (st.xs.length - (i.toNat + 1)) + 1 by omega] at hk;obtain ⟨g1, g2⟩ := Xfy (K1 := fun j e => K 1 [.i j, .i e]) hk;rw [Int.toNat_of_nonneg h0] at g1;have ez : (i + 1).toNat = i.toNat + 1 := by omega
  have hA' : Sp.stErr pl.xs.length sh.xs.length ti.xs.length st.xs i.toNat = 0 -> A [.i (i + 1), .ro _ pl, .ro _ sh, .ro _ ti, .ro _ st] := fun f => hA _ (by show ((st.xs.length : Int) - (i + 1)).toNat < ((st.xs.length : Int) - i).toNat; omega) ⟨⟨by omega, by omega, h2⟩, by rw [ez]; exact g2 f⟩;have bad : Sp.stErr pl.xs.length sh.xs.length ti.xs.length st.xs i.toNat ≠ 0 -> K 1 [.i i, .i (Sp.stErr pl.xs.length sh.xs.length ti.xs.length st.xs i.toNat)] := g1;clear g1 g2 hk hA;simp only [Nat.zero_add, Nat.reduceAdd];rw [show Sp.stEr pl.xs.length sh.xs.length ti.xs.length (cel st.xs i.toNat 0).int (cel st.xs i.toNat 1).int (cel st.xs i.toNat 2).int (cel st.xs i.toNat 3).int (cel st.xs i.toNat 4).int (cel st.xs i.toNat 6).lst = Sp.stErr pl.xs.length sh.xs.length ti.xs.length st.xs i.toNat from rfl];refine ned (by simp; omega) (nedd (by omega) ⟨h2, vifn (fun e2 => bad e2) fun e2 => ar64 (by omega) (hA' e2)⟩)
 ·rw [show st.xs.length - i.toNat = 0 by omega] at hk;exact hk.2 rfl
noncomputable def Xsi : LE Try.prog := ⟨67, 12, fun W => @Ysd W Xel, Xr1⟩
noncomputable def le_r3 : LE Try.prog := LE.unroll (fun W => @TT W) (fun W => @Xb W) Xa T19 1000 50 4 67 6 (by kernel_rfl)
noncomputable def T20 : Tab Try.prog := ⟨[Xdt], [Xsi, le_r3], []⟩
def Xdb [W : InW] (t_Pl t_Sh t_Ti : Ro Jb) (t_St : Ro Xc) (Q : DS -> Prop) : Prop :=
 Pre True (Vif (!Sp.inr (↑(t_Pl.xs.length) : Int) (1 : Int) (16 : Int)) (Q Zm) (Vif (decide ((6 : Int) < (↑(t_Sh.xs.length) : Int))) (Q Zm) (Pre True (Vif (!Sp.inr (↑(t_Ti.xs.length) : Int) (1 : Int) (4 : Int)) (Q Zm) (Vif (decide ((40 : Int) < (↑(t_St.xs.length) : Int))) (Q Zm) (Pre (Sp.NamesOk t_Pl.xs) (Vif (!decide (Sp.nmsE t_Pl.xs = 0)) (Q [[Cl.i (Int.ofNat (1+1))], [Cl.i (Sp.nmsI t_Pl.xs)], [Cl.i (Sp.nmsE t_Pl.xs)]]) (Pre (Sp.NamesOk t_Sh.xs) (Vif (!decide (Sp.nmsE t_Sh.xs = 0)) (Q [[Cl.i (Int.ofNat (2+1))], [Cl.i (Sp.nmsI t_Sh.xs)], [Cl.i (Sp.nmsE t_Sh.xs)]]) (Pre (Sp.NamesOk t_Ti.xs) (Vif (!decide (Sp.nmsE t_Ti.xs = 0)) (Q [[Cl.i (Int.ofNat (3+1))], [Cl.i (Sp.nmsI t_Ti.xs)], [Cl.i (Sp.nmsE t_Ti.xs)]]) (Pre (Zh <= 0 /\ Zh <= (↑(t_St.xs.length) : Int) /\ t_Sh.xs.length <= 20) (Vif (Sp.hasE (Sp.stErr (t_Pl.xs.length) (t_Sh.xs.length) (t_Ti.xs.length) t_St.xs) Zg (t_St.xs.length - Int.toNat Zh)) (Q [[Cl.i 5], [Cl.i (↑(Sp.idxE (Sp.stErr (t_Pl.xs.length) (t_Sh.xs.length) (t_Ti.xs.length) t_St.xs) Zg (t_St.xs.length - Int.toNat Zh)) : Int)], [Cl.i (Sp.stErr (t_Pl.xs.length) (t_Sh.xs.length) (t_Ti.xs.length) t_St.xs (Sp.idxE (Sp.stErr (t_Pl.xs.length) (t_Sh.xs.length) (t_Ti.xs.length) t_St.xs) Zg (t_St.xs.length - Int.toNat Zh)))]]) (Q [[Cl.i 0], [Cl.i 0], [Cl.i 0]]))))))))))))))
theorem Xko (W : InW) (t_Pl t_Sh t_Ti t_St Q) : Yvd (cxT Try.prog TT T20 1000 50) 1000 67 [.agg [.rs _ t_Pl, .rs _ t_Sh, .rs _ t_Ti, .rs _ t_St]] [] 0 (Yzg [(false, [.int .i64]), (false, [.int .i64]), (false, [.int .i64])] Q) (fun _ _ _ _ => Stuck 421) = Xdb t_Pl t_Sh t_Ti t_St Q := by kernel_rfl
abbrev Xbp : List AT := [.agg [.sl Jb, .sl Jb, .sl Jb, .sl Xc]]
theorem Xlx {pre : DS -> Prop} {res : DS -> DS} (hyp_ : ∀ (W : InW) (t_Pl t_Sh t_Ti : Ro Jb) (t_St : Ro Xc), pre [[.l t_Pl.xs, .l t_Sh.xs, .l t_Ti.xs, .l t_St.xs]] -> ∀ Q : DS -> Prop, Q (res [[.l t_Pl.xs, .l t_Sh.xs, .l t_Ti.xs, .l t_St.xs]]) -> Xdb t_Pl t_Sh t_Ti t_St Q) : PureOk Try.prog 67 Xbp [(false, [.int .i64]), (false, [.int .i64]), (false, [.int .i64])] pre res :=
 PureOk.of' (fun W => @TT W) (fun W => @Xb W) Xa T20 1000 50 fun W t_Pl t_Sh t_Ti t_St hp =>
  (Xko W t_Pl t_Sh t_Ti t_St (fun o => o = res [[.l t_Pl.xs, .l t_Sh.xs, .l t_Ti.xs, .l t_St.xs]])).mpr (hyp_ W t_Pl t_Sh t_Ti t_St hp _ rfl)
theorem Xnj {pl sh ti st : Dt} {Q : Int × Int × Int -> Prop} (h : Q (Sp.tchk pl sh ti st)) :
  let c := Sp.inr pl.length 1 16 && (!decide (6 < (sh.length : Int)) && (Sp.inr ti.length 1 4 && !decide (40 < (st.length : Int))))
  (c = false -> Q (1, 0, 3)) /\
  (c = true -> ¬ Sp.nmsE pl = 0 -> Q (2, Sp.nmsI pl, Sp.nmsE pl)) /\
  (c = true -> Sp.nmsE pl = 0 -> ¬ Sp.nmsE sh = 0 -> Q (3, Sp.nmsI sh, Sp.nmsE sh)) /\
  (c = true -> Sp.nmsE pl = 0 -> Sp.nmsE sh = 0 -> ¬ Sp.nmsE ti = 0 -> Q (4, Sp.nmsI ti, Sp.nmsE ti)) /\
  (c = true -> Sp.nmsE pl = 0 -> Sp.nmsE sh = 0 -> Sp.nmsE ti = 0 -> Sp.hasE (Sp.stErr pl.length sh.length ti.length st) 0 st.length = true ->
   Q (5, Sp.idxE (Sp.stErr pl.length sh.length ti.length st) 0 st.length, Sp.stErr pl.length sh.length ti.length st (Sp.idxE (Sp.stErr pl.length sh.length ti.length st) 0 st.length))) /\
  (c = true -> Sp.nmsE pl = 0 -> Sp.nmsE sh = 0 -> Sp.nmsE ti = 0 -> Sp.hasE (Sp.stErr pl.length sh.length ti.length st) 0 st.length = false -> Q (0, 0, 0)) := by
 intro c;unfold Sp.tchk at h;refine ⟨fun e => ?_, fun e e1 => ?_, fun e e1 e2 => ?_, fun e e1 e2 e3 => ?_, fun e e1 e2 e3 e4 => ?_, fun e e1 e2 e3 e4 => ?_⟩
 ·rw [if_neg (by show ¬ c = true; simp [e])] at h; exact h
 ·rw [if_pos (show c = true from e), if_neg e1] at h; exact h
 ·rw [if_pos (show c = true from e), if_pos e1, if_neg e2] at h; exact h
 ·rw [if_pos (show c = true from e), if_pos e1, if_pos e2, if_neg e3] at h; exact h
 ·rw [if_pos (show c = true from e), if_pos e1, if_pos e2, if_pos e3, if_pos e4] at h; exact h
 ·rw [if_pos (show c = true from e), if_pos e1, if_pos e2, if_pos e3, if_neg (by simp [e4])] at h; exact h
theorem Xn4 : PureOk Try.prog 67 Xbp [(false, [.int .i64]), (false, [.int .i64]), (false, [.int .i64])] Xv Xs :=
 Xlx fun W pl sh ti st hp Q h => by
  obtain ⟨p1, p2, p3⟩ := hp;unfold Xdb;delta Zg Zh Zm;have i4 := fun e => (Sp.hasE_ix (f := Sp.stErr pl.xs.length sh.xs.length ti.xs.length st.xs) (n := st.xs.length) (i := 0) e).2.2; have i1 := i4; have i2 := i4; have i3 := i4; obtain ⟨q0, q1, q2, q3, q4, q5⟩ := Xnj (Q := fun r => Q [[.i r.1], [.i r.2.1], [.i r.2.2]]) h; clear h; simp only [show Int.toNat 0 = 0 from rfl, Nat.sub_zero]; repeat' (first | omega | with_reducible refine vifd (fun _ => ?_) fun _ => ?_ | with_reducible refine vifn (fun _ => ?_) fun _ => ?_ | with_reducible refine vifq (fun _ => ?_) fun _ => ?_ | with_reducible refine vifq0 (fun _ => ?_) fun _ => ?_ | with_reducible refine vifq1 (fun _ => ?_) fun _ => ?_ | with_reducible refine vifb (fun _ => ?_) fun _ => ?_ | with_reducible refine vif (fun _ => ?_) fun _ => ?_ | (with_reducible refine nedd ?_ ?_; omega) | (with_reducible refine ned ?_ ?_; simp only [Bool.and_eq_true, decide_eq_true_eq]; omega) | (with_reducible refine ar64 ?_ ?_; omega) | (with_reducible refine Xe ?_ ?_; (first | trivial | omega | assumption | (refine ⟨?_, ?_⟩ <;> first | trivial | omega | assumption) | (refine ⟨?_, ?_, ?_⟩ <;> first | trivial | omega | assumption) | (refine ⟨?_, ?_, ?_, ?_⟩ <;> first | trivial | omega | assumption))))
  all_goals first | exact absurd (by assumption) (i1 (by assumption)) | exact absurd (by assumption) (i2 (by assumption)) | exact absurd (by assumption) (i3 (by assumption)) | exact absurd (by assumption) (i4 (by assumption)) | exact q5 (by simp_all) (by assumption) (by assumption) (by assumption) (by assumption) | exact q4 (by simp_all) (by assumption) (by assumption) (by assumption) (by assumption) | exact q3 (by simp_all) (by assumption) (by assumption) (by assumption) | exact q2 (by simp_all) (by assumption) (by assumption) | exact q1 (by simp_all) (by assumption) | exact q0 (by simp_all)
noncomputable def Xf9 : PC Try.prog := ⟨67, Xbp, [(false, [.int .i64]), (false, [.int .i64]), (false, [.int .i64])], Xv, Xs, Xn4⟩
end Go.Proofs.Ytmogofidmchdoaa
