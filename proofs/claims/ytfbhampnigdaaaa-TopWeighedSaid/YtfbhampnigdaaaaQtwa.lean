/-
  'TopWeighed': for every input the law returns true, and what is handed in reads as before. No condition.
-/
import Derived.Test.YtfbhampnigdaaaaQd
import Derived.IntWalk
import Derived.Test.YtfbhampnigdaaaaProg
set_option linter.unusedVariables false
set_option linter.unusedSectionVars false
set_option linter.unusedSimpArgs false
noncomputable section
namespace Go.Proofs.Ytfbhampnigdaaaa
abbrev Ja : List Ty := [.int .i64, .int .i64]
abbrev Jb : List Ty := [.sl [.int .i64]]
abbrev Jc : List Ty := [.int .i64]
abbrev Iv11 : List Ty := [.int .i64, .int .i64, .int .i64, .int .i64, .int .i64, .int .i64, .int .i64, .int .i64, .int .i64, .int .i64, .int .i64]
abbrev Iv5 : List Ty := [.int .i64, .int .i64, .int .i64, .int .i64, .int .i64]
abbrev Iv4 : List Ty := [.int .i64, .int .i64, .int .i64, .int .i64]
abbrev Ivs : List Ty := [.str, .int .i64, .int .i64, .int .i64]
open Go.RowKit
theorem vif [InW] {b : Bool} {A B : Prop} (h : b = true -> A) (h2 : b = false -> B) : Vif b A B := ⟨h, h2⟩
theorem vifd [InW] {p : Prop} {_ : Decidable p} {A B : Prop} (h : p -> A) (h2 : ¬ p -> B) : Vif (decide p) A B := ⟨fun e => h (of_decide_eq_true e), fun e => h2 (of_decide_eq_false e)⟩
theorem ned [InW] {b : Bool} {A : Prop} (h : b = true) (h2 : A) : Need b A := ⟨h, h2⟩
theorem nedd [InW] {p : Prop} {_ : Decidable p} {A : Prop} (h : p) (h2 : A) : Need (decide p) A := ⟨decide_eq_true h, h2⟩
theorem ar64 [InW] {n : Int} {K : Int -> Prop} (h : -9223372036854775808 <= n /\ n <= 9223372036854775807) (k : K n) : Ar .i64 n K := ⟨by rw [IntWalk.i64_in n h]; exact k⟩
theorem notT {b : Bool} (h : (!b) = true) : b = false := by cases b <;> simp_all
theorem notF {b : Bool} (h : (!b) = false) : b = true := by cases b <;> simp_all
theorem vifn [InW] {p : Prop} {_ : Decidable p} {A B : Prop} (h : ¬ p -> A) (h2 : p -> B) : Vif (!decide p) A B := ⟨fun e => h (of_decide_eq_false (notT e)), fun e => h2 (of_decide_eq_true (notF e))⟩
theorem vifb [InW] {b : Bool} {A B : Prop} (h : b = false -> A) (h2 : b = true -> B) : Vif (!b) A B := ⟨fun e => h (notT e), fun e => h2 (notF e)⟩
theorem Xb {p A : Prop} (h : p) (h2 : A) : Pre p A := ⟨h, h2⟩
theorem ned2 [InW] {p q : Prop} {_ : Decidable p} {_ : Decidable q} {K : Prop} (h : p /\ q) (hK : K) : Need (decide p && decide q) K := ⟨by simp [h], hK⟩
namespace Sp
def inr (n lo hi : Int) : Bool := decide (lo <= n) && decide (n <= hi)
def outs (lo hi : Int) (xs : Dt) : Nat -> Nat -> Bool
 | _, 0 => false
 | i, n + 1 => !inr (cel xs i 0).int lo hi || outs lo hi xs (i + 1) n
def out (lo hi : Int) (xs : Dt) : Bool := outs lo hi xs 0 xs.length
def outI (lo hi : Int) (xs : Dt) : Nat -> Nat -> Nat
 | i, 0 => i
 | i, n + 1 => if inr (cel xs i 0).int lo hi = true then outI lo hi xs (i + 1) n else i
def hasE (f : Nat -> Int) : Nat -> Nat -> Bool
 | _, 0 => false
 | i, n + 1 => !decide (f i = 0) || hasE f (i + 1) n
def idxE (f : Nat -> Int) : Nat -> Nat -> Nat
 | i, 0 => i
 | i, n + 1 => if f i = 0 then idxE f (i + 1) n else i
def allF (f : Nat -> Bool) : Nat -> Nat -> Bool
 | _, 0 => true
 | i, n + 1 => f i && allF f (i + 1) n
theorem allF_iff {f : Nat -> Bool} : ∀ {n i : Nat}, allF f i n = true ↔ ∀ k, i <= k -> k < i + n -> f k = true
 | 0, i => by simp [allF]; omega
 | n + 1, i => by
  simp only [allF, Bool.and_eq_true, allF_iff (n := n)];constructor
  ·rintro ⟨h1, h2⟩ k a b;rcases Nat.eq_or_lt_of_le a with e | e
   ·exact e ▸ h1
   ·exact h2 k (by omega) (by omega)
  ·exact fun h => ⟨h i (by omega) (by omega), fun k a b => h k (by omega) (by omega)⟩
def anyF (f : Nat -> Bool) : Nat -> Nat -> Bool
 | _, 0 => false
 | i, n + 1 => f i || anyF f (i + 1) n
theorem anyF_iff {f : Nat -> Bool} : ∀ {n i : Nat}, anyF f i n = true ↔ ∃ k, i <= k /\ k < i + n /\ f k = true
 | 0, i => by simp [anyF]; omega
 | n + 1, i => by
  simp only [anyF, Bool.or_eq_true, anyF_iff (n := n)];constructor
  ·rintro (h | ⟨k, a, b, c⟩)
   ·exact ⟨i, by omega, by omega, h⟩
   ·exact ⟨k, by omega, by omega, c⟩
  ·rintro ⟨k, a, b, c⟩;rcases Nat.eq_or_lt_of_le a with e | e
   ·exact .inl (e ▸ c)
   ·exact .inr ⟨k, by omega, by omega, c⟩
def fstF (f : Nat -> Bool) : Nat -> Nat -> Nat
 | i, 0 => i
 | i, n + 1 => if f i then i else fstF f (i + 1) n
theorem fstF_spec {f : Nat -> Bool} : ∀ {n i : Nat}, anyF f i n = true -> i <= fstF f i n /\ fstF f i n < i + n /\ f (fstF f i n) = true /\ ∀ k, i <= k -> k < fstF f i n -> f k = false
 | 0, i, h => by simp [anyF] at h
 | n + 1, i, h => by
  unfold fstF
  by_cases e : f i = true
  ·rw [if_pos e];exact ⟨by omega, by omega, e, fun k a b => by omega⟩
  ·rw [if_neg e];simp only [anyF, e, Bool.false_or, Bool.or_eq_true, Bool.false_eq_true, false_or] at h;obtain ⟨h1, h2, h3, h4⟩ := fstF_spec h;refine ⟨by omega, by omega, h3, fun k a b => ?_⟩;rcases Nat.eq_or_lt_of_le a with e2 | e2
   ·subst e2; simpa using e
   ·exact h4 k (by omega) b
def sumF (f : Nat -> Int) : Nat -> Nat -> Int -> Int
 | _, 0, a => a
 | i, n + 1, a => sumF f (i + 1) n (a + f i)
theorem hasE_ix {f : Nat -> Int} : ∀ {n i : Nat}, hasE f i n = true -> i <= idxE f i n /\ idxE f i n < i + n /\ f (idxE f i n) ≠ 0
 | 0, i, h => by simp [hasE] at h
 | n + 1, i, h => by
  unfold idxE
  by_cases e : f i = 0
  ·rw [if_pos e];simp only [hasE, e, decide_true, Bool.not_true, Bool.false_or] at h;have := hasE_ix h;exact ⟨by omega, by omega, this.2.2⟩
  ·rw [if_neg e]; exact ⟨by omega, by omega, e⟩
theorem hasE_no {f : Nat -> Int} : ∀ {n i : Nat}, hasE f i n = false -> ∀ k, i <= k -> k < i + n -> f k = 0
 | 0, i, _, k, a, b => by omega
 | n + 1, i, h, k, a, b => by
  simp only [hasE, Bool.or_eq_false_iff, Bool.not_eq_false', decide_eq_true_eq] at h;rcases Nat.eq_or_lt_of_le a with e | e
  ·exact e ▸ h.1
  ·exact hasE_no h.2 k (by omega) (by omega)
theorem hasE_of {f : Nat -> Int} : ∀ {n i : Nat}, (∀ k, i <= k -> k < i + n -> f k = 0) -> hasE f i n = false
 | 0, i, _ => rfl
 | n + 1, i, h => by
  simp only [hasE, h i (by omega) (by omega), decide_true, Bool.not_true, Bool.false_or];exact hasE_of fun k a b => h k (by omega) (by omega)
theorem inr_iff {n lo hi : Int} : inr n lo hi = true ↔ lo <= n /\ n <= hi := by simp [inr]
end Sp
theorem Xdf [InW] {f : Nat -> Int} {i n : Nat} {K1 : Nat -> Int -> Prop} {K0 : Prop} (h : Vif (Sp.hasE f i (n + 1)) (K1 (Sp.idxE f i (n + 1)) (f (Sp.idxE f i (n + 1)))) K0) :
  (f i ≠ 0 -> K1 i (f i)) /\ (f i = 0 -> Vif (Sp.hasE f (i + 1) n) (K1 (Sp.idxE f (i + 1) n) (f (Sp.idxE f (i + 1) n))) K0) := by
 simp only [Sp.hasE, Sp.idxE] at h;refine ⟨fun e => ?_, fun e => ?_⟩
 ·have := h.1 (by simp [e]);simpa [e] using this
 ·simpa [e] using h
theorem vifq [InW] {p q : Prop} {_ : Decidable p} {_ : Decidable q} {A B : Prop} (h : ¬ (p ↔ q) -> A) (h2 : (p ↔ q) -> B) : Vif (!(decide p == decide q)) A B :=
 ⟨fun e => h (by simpa using notT e), fun e => h2 (by simpa using notF e)⟩
theorem Xf [InW] {p : Prop} {_ : Decidable p} {A B : Prop} (h : p -> A) (h2 : ¬ p -> B) : Vif (!(decide p == false)) A B :=
 ⟨fun e => h (by simpa using e), fun e => h2 (by simpa using e)⟩
theorem Xe [InW] {p : Prop} {_ : Decidable p} {A B : Prop} (h : p -> A) (h2 : ¬ p -> B) : Vif (!(false == decide p)) A B :=
 ⟨fun e => h (by simpa using e), fun e => h2 (by simpa using e)⟩
theorem out1 (lo hi n : Int) : Sp.out lo hi [[Cl.i n]] = !Sp.inr n lo hi := by simp [Sp.out, Sp.outs, cel, Cl.int]
theorem out2 (lo hi n m : Int) : Sp.out lo hi [[Cl.i n], [Cl.i m]] = (!Sp.inr n lo hi || !Sp.inr m lo hi) := by simp [Sp.out, Sp.outs, cel, Cl.int]
set_option maxRecDepth 100000
def tTaa [InW] : TI := ⟨some false, some 1, some [.v (.nilFunc)], [], none, none⟩
def tTac [InW] : Tr TI := .node .nil tTaa .nil
def tTab [InW] : Tr TI := .node .nil ⟨none, none, none, [], none, none⟩ .nil
def tTai [InW] : Tr TI := .node tTac tTaa tTab
def tTav [InW] : Tr TI := .node tTac ⟨some true, some 4, some [.v (.int .i64 0), .v (.int .i64 0), .v (.int .i64 0), .v (.int .i64 0)], [], none, (some (4, 1, false))⟩ tTab
def tTad [InW] : TI := ⟨some false, some 1, some [.v (.pointer none)], [], none, none⟩
def tTau [InW] : TI := ⟨some true, some 4, some [.v (.slice none 0 0), .v (.slice none 0 0), .v (.int .i64 0), .v (.int .i64 0)], [(some (0, 1)), (some (1, 1)), (some (2, 2))], none, none⟩
def tTaq [InW] : TI := ⟨some false, some 1, some [.v (.int .u8 0)], [], none, none⟩
def tTbg [InW] : List (Option (Nat × Nat)) := [(some (0, 1)), (some (1, 1)), (some (2, 1)), (some (3, 1))]
def tTar [InW] : TI := ⟨some true, some 4, some [.v (.int .i64 0), .v (.int .i64 0), .v (.bool false), .v (.int .u8 0)], tTbg, none, none⟩
def tTah [InW] : TI := ⟨some false, some 1, (some [.v (.tuple #[.slice none 0 0, .int .i64 0])]), [], none, none⟩
def tTas [InW] : List AV := [.v (.slice none 0 0)]
def tTbc [InW] : TI := ⟨some false, some 1, (some [.v (.tuple #[.pointer none, .int .i64 0])]), [], none, none⟩
def tTbh [InW] : Tr TI := .node tTab tTaa tTab
def tTao [InW] : TI := ⟨some false, some 1, some [.v (.int .i64 0)], [], none, none⟩
def tTba [InW] : List AV := [.v (.int .i64 0), .v (.int .i64 0)]
def tTag [InW] : TI := ⟨some true, some 2, some tTba, [(some (0, 1)), (some (1, 1))], none, none⟩
def tTbe [InW] : TI := ⟨some true, some 1, some [.v (.pointer none)], [(some (0, 1))], none, none⟩
def tTay [InW] : TI := ⟨some false, some 1, some [.v (.int .i32 0)], [], none, none⟩
def tTax [InW] : TI := ⟨some false, some 1, some [.v (.string ByteArray.empty)], [], none, none⟩
def tTbd [InW] : List AV := [.v (.int .i64 0), .v (.int .i64 0), .v (.int .i64 0), .v (.int .i64 0), .v (.int .i64 0)]
def tTak [InW] : TI := ⟨some true, some 5, some tTbd, [(some (0, 1)), (some (1, 1)), (some (2, 1)), (some (3, 1)), (some (4, 1))], none, none⟩
def tTbb [InW] : Tr TI := .node (.node .nil ⟨some true, some 0, some [], [(some (0, 0))], none, none⟩ .nil) tTaa tTab
def tTal [InW] : TI := ⟨some true, some 6, some [.v (.slice none 0 0), .v (.slice none 0 0), .v (.int .i64 0), .v (.int .i64 0), .v (.slice none 0 0), .v (.map none)], [(some (0, 4)), (some (4, 1)), (some (5, 1))], none, none⟩
def tTam [InW] : TI := ⟨some true, some 6, some [.v (.int .i64 0), .v (.int .i64 0), .v (.int .i64 0), .v (.int .i64 0), .v (.int .i64 0), .v (.int .i64 0)], [(some (0, 1)), (some (1, 1)), (some (2, 4))], none, none⟩
def tTbi [InW] : Tr TI := .node .nil tTad .nil
def tTan [InW] : TI := ⟨some true, some 5, some [.v (.slice none 0 0), .v (.slice none 0 0), .v (.int .i64 0), .v (.slice none 0 0), .v (.slice none 0 0)], [(some (0, 3)), (some (3, 1)), (some (4, 1))], none, none⟩
def tTaj [InW] : Tr TI := .node .nil ⟨some true, some 4, some [.v (.pointer none), .v (.pointer none), .v (.pointer none), .v (.string ByteArray.empty)], tTbg, none, none⟩ .nil
def tTbj [InW] : List AV := [.v (.int .i64 0), .v (.int .i64 0), .v (.int .i64 0)]
def tTaf [InW] : TI := ⟨some true, some 3, some tTbj, [(some (0, 1)), (some (1, 1)), (some (2, 1))], none, none⟩
def tTaw [InW] : TI := ⟨some true, some 3, some [.v (.slice none 0 0), .v (.slice none 0 0), .v (.int .i64 0)], [(some (0, 1)), (some (1, 1)), (some (2, 1))], none, none⟩
def tTbf [InW] : TI := ⟨some false, some 1, some [.v (.map none)], [], none, none⟩
def tTat [InW] : TI := ⟨some false, some 1, (some [.v (.tuple #[.int .i64 0, .int .i64 0])]), [], none, none⟩
def tTae [InW] : Tr TI := .node (.node .nil ⟨some true, some 11, some [.v (.int .u64 0), .v (.int .u64 0), .v (.int .u32 0), .v (.int .u8 0), .v (.int .u8 0), .v (.int .u8 0), .v (.int .u8 0), .v (.nilFunc), .v (.pointer none), .v (.int .i32 0), .v (.int .i32 0)], [(some (0, 1)), (some (1, 1)), (some (2, 1)), (some (3, 1)), (some (4, 1)), (some (5, 1)), (some (6, 1)), (some (7, 1)), (some (8, 1)), (some (9, 1)), (some (10, 1))], none, none⟩ .nil) tTaa tTab
def tTaz [InW] : TI := ⟨some true, some 2, some [.v (.string ByteArray.empty), .v (.int .u64 0)], [(some (0, 1)), (some (1, 1))], none, none⟩
def tTap [InW] : TI := ⟨some false, some 1, some [.v (.int .u64 0)], [], none, none⟩
def TT [InW] : Tr TI :=
 (.node (.node (.node (.node (.node (.node tTai tTaa tTav) tTad (.node tTai tTau (.node (.node .nil tTaq .nil) tTaa tTab))) tTar (.node (.node (.node tTac tTah tTab) ⟨some false, some 1, some [.v (.int .u16 0)], [], none, none⟩ (.node tTac tTah tTab)) ⟨some false, some 1, some tTas, [], (some (3, 1, 8, [.v (.int .i64 0)])), none⟩ (.node (.node tTac tTbc tTab) tTaa tTbh))) tTao (.node (.node (.node (.node (.node .nil ⟨some false, some 1, (some [.v (.tuple #[.int .i64 0, .bool false])]), [], none, none⟩ .nil) tTaa tTab) tTag tTai) tTbe (.node (.node (.node .nil tTao .nil) tTaa tTab) tTaa (.node (.node .nil tTay .nil) tTaa tTab))) tTax (.node (.node (.node tTac ⟨some false, some 1, (some [.v (.tuple #[.agg #[.int .i64 0, .int .i64 0], .int .i64 0, .int .i64 0])]), [], none, none⟩ tTab) tTak tTbb) ⟨some false, some 1, some tTas, [], (some (39, 1, 2, [.v (.int .u16 0)])), none⟩ (.node (.node (.node .nil ⟨some false, some 1, some [.v (.int .u32 0)], [], none, none⟩ .nil) tTal tTab) tTaa (.node tTab ⟨some true, some 2, some tTba, [], none, (some (2, 1, false))⟩ tTab))))) tTaa (.node (.node (.node (.node tTai ⟨some false, some 1, (some [.v (.tuple #[.int .i64 0, .int .i64 0, .int .i64 0])]), [], none, none⟩ (.node tTac tTam tTab)) tTad (.node tTai tTaa (.node tTbi tTan tTab))) tTax (.node (.node (.node tTac tTag tTab) tTaa (.node tTaj tTaf tTab)) tTaw (.node (.node tTac tTbf tTab) ⟨some false, some 1, (some [.v (.tuple #[.bool false, .bool false])]), [], none, none⟩ (.node tTab tTbf tTab)))) tTaq (.node (.node (.node tTai tTaa (.node (.node .nil tTat .nil) tTaa tTab)) tTay (.node tTai tTad tTae)) tTaz (.node (.node (.node (.node .nil tTap .nil) ⟨some false, some 1, (some [.v (.tuple #[.agg #[.slice none 0 0, .slice none 0 0, .int .i64 0], .int .i64 0])]), [], none, none⟩ tTab) tTaa (.node tTac ⟨some false, some 1, (some [.v (.tuple #[.agg #[.int .i64 0, .int .i64 0], .int .i64 0])]), [], none, none⟩ tTab)) tTao (.node (.node (.node .nil tTap .nil) tTaf tTab) tTaa tTbh))))) ⟨some false, some 1, (some [.v (.tuple #[])]), [], none, none⟩ (.node (.node (.node (.node (.node (.node tTac ⟨some false, some 1, (some [.v (.tuple #[.slice none 0 0, .bool false, .int .i64 0])]), [], none, none⟩ tTab) tTaa tTav) tTad (.node tTai tTau tTai)) tTar (.node (.node tTai tTaa (.node tTaj tTaa tTab)) tTaw (.node tTai tTaa (.node tTab ⟨some false, some 1, some tTas, [], (some (4, 1, 1, [.v (.bool false)])), none⟩ tTab)))) ⟨some false, some 1, some [.v (.bool false)], [], none, none⟩ (.node (.node (.node (.node (.node .nil ⟨some false, some 1, (some [.v (.tuple #[.agg #[.int .i64 0, .int .i64 0, .int .i64 0, .int .i64 0, .int .i64 0, .int .i64 0], .bool false])]), [], none, none⟩ .nil) tTaa tTab) tTag (.node tTbi tTaa tTab)) ⟨some false, some 1, some [.v (.nilIface)], [], none, none⟩ (.node (.node (.node .nil tTat .nil) tTaa tTab) tTaa tTae)) tTap (.node (.node tTai tTah tTbb) ⟨some false, some 1, some tTas, [], (some (36, 2, 16, tTba)), none⟩ (.node (.node tTac tTaf tTab) tTaa (.node tTab ⟨some false, some 1, (some [.v (.tuple #[.agg #[.int .i64 0, .int .i64 0], .bool false])]), [], none, none⟩ tTab))))) tTao (.node (.node (.node (.node tTai tTaa (.node tTbi tTam tTab)) tTbe (.node tTai tTat (.node (.node .nil tTay .nil) tTan tTab))) tTax (.node (.node (.node tTac tTag tTab) tTak (.node (.node .nil ⟨some true, some 0, some [], [], none, (some (0, 1, false))⟩ .nil) tTaf tTab)) ⟨some false, some 1, some tTas, [], (some (38, 1, 24, tTas)), none⟩ (.node (.node tTac tTal tTab) tTaa tTbh))) tTaq (.node (.node (.node (.node tTac ⟨some false, some 1, some tTas, [], (some (74, 2, 16, tTba)), none⟩ tTab) ⟨some false, some 1, some tTas, [], (some (23, 1, 24, tTas)), none⟩ tTai) ⟨some false, some 1, some tTas, [], (some (43, 5, 40, tTbd)), none⟩ (.node (.node tTac tTad tTab) tTbc (.node tTbi tTaa tTab))) tTaz (.node (.node tTai ⟨some false, some 1, some tTas, [], (some (93, 3, 24, tTbj)), none⟩ (.node (.node .nil tTaq .nil) tTaa tTab)) tTah (.node (.node (.node .nil tTap .nil) tTaa tTab) tTaa tTbh))))))
theorem Xc [InW] : TabOk Try.prog TT := TabOk.of 8 (by kernel_rfl)
theorem Xa : Try.prog.follows .mixedOrders = true := by kernel_rfl
attribute [local irreducible] Go.Oper.wp
section
variable [W : InW]
def nthQ : List AV -> Nat -> AV
 | [], _ => .junk
 | x :: xs, n => match n with | 0 => x | n + 1 => nthQ xs n
def likeQ : Pt -> AV -> Bool
 | .lit v, x => (match x with | .v u => Ycr u v | _ => false)
 | .row _, x => (match x with | .rw _ => true | .sl _ 0 0 _ => true | _ => false)
 | _, _ => true
def Xtm : List (Nat × Pt) -> List AV -> Bool
 | [], _ => true
 | p :: ps, tm => match likeQ p.2 (nthQ tm p.1) with | true => Xtm ps tm | false => false
end
def LE.pick {P : Program} (T : List (Nat × Pt)) (a b : LE P) (hg : b.g = a.g) (hk : b.key = a.key) : LE P where
 g := a.g
 key := a.key
 f := fun W tm hp K => match @Xtm W T tm with | true => a.f W tm hp K | false => b.f W tm hp K
 ok := fun W body c h1 h2 h3 tm hp K h => by
  dsimp only at h
  split at h
  ·exact a.ok W body c h1 h2 h3 tm hp K h
  ·exact b.ok W body c (by rw [hg]; exact h1) h2 (by rw [hk]; exact h3) tm hp K h
end Go.Proofs.Ytfbhampnigdaaaa
namespace Go.Proofs.Ytfbhampnigdaaaa
open Go.RowKit
attribute [local irreducible] Go.Oper.wp
section
variable [W : InW]
def Xch : List Out -> Nat -> AX -> List AV -> Heap -> (Nat -> List Ed -> Prop) -> Prop
 | [], _, _, _, _, _ => Stuck 473
 | o :: os, j, x, tm, hp, Q => match Y5l o.kind x with
  | true => (match likeW o.T o.H (Y3y o.H) tm hp with | true => fitK o.T o.H o.junk tm hp fun e => Q j e | false => Xch os (j + 1) x tm hp Q)
  | false => Xch os (j + 1) x tm hp Q
def Xhb (lc : LC) (f : List AV -> Heap -> KX -> Prop) (Again : List Ed -> Prop) (Q : Nat -> List Ed -> Prop) (x : AX) (tm : List AV) (hp : Heap) : Prop :=
 Yc (lenB tm lc.len) (match x with
 | .norm => (match likeW lc.T lc.H (Y3y lc.H) tm hp with
  | true => fitK lc.T lc.H lc.W tm hp Again
  | false => f tm hp fun x tm hp => Yc (lenB tm lc.len) (Xch lc.outs 0 x tm hp Q))
 | x => Xch lc.outs 0 x tm hp Q)
theorem Xb6 : ∀ {os : List Out} {j : Nat} {x : AX} {tm : List AV} {hp : Heap} {Q : Nat -> List Ed -> Prop}, Xch os j x tm hp Q -> ∃ (k : Nat) (o : Out) (s : List (Nat × AV)) (ys : Heap) (e1 e2 : List Ed), Q (j + k) (e1 ++ e2) /\ os[k]? = some o /\ o.kind.ax = x /\ insT o.T (e1 ++ e2) = some (s, e2) /\ insH o.H e2 = some (ys, []) /\
  ∀ (φ0 φ : Phi) (w0 : World) (M : List Nat) (R : RL) (a : Act) (w : World), RepS φ0 φ w0 M R tm hp a w -> ∃ φ2, RepS φ0 φ2 w0 M R (Yd9 tm.length s o.junk) ys a w
 | [], _, _, _, _, _, h => h.elim
 | o :: os, j, x, tm, hp, Q, h => by
  have next : Xch os (j + 1) x tm hp Q -> ∃ (k : Nat) (o' : Out) (s : List (Nat × AV)) (ys : Heap) (e1 e2 : List Ed), Q (j + k) (e1 ++ e2) /\ (o :: os)[k]? = some o' /\ o'.kind.ax = x /\ insT o'.T (e1 ++ e2) = some (s, e2) /\ insH o'.H e2 = some (ys, []) /\
    ∀ (φ0 φ : Phi) (w0 : World) (M : List Nat) (R : RL) (a : Act) (w : World), RepS φ0 φ w0 M R tm hp a w -> ∃ φ2, RepS φ0 φ2 w0 M R (Yd9 tm.length s o'.junk) ys a w := fun h => by
   obtain ⟨k, o', s, ys, e1, e2, h1, h2, h3⟩ := Xb6 h;exact ⟨k + 1, o', s, ys, e1, e2, by rw [show j + (k + 1) = j + 1 + k by omega]; exact h1, by simpa using h2, h3⟩
  unfold Xch at h
  split at h
  ·rename_i hk
   split at h
   ·obtain ⟨s, ys, e1, e2, h1, h2, h3, h4⟩ := Ysu h;refine ⟨0, o, s, ys, e1, e2, h1, rfl, ?_, Yz2 _ _ _ _ h2, by have := Ymd _ _ _ [] h3; rwa [List.append_nil] at this, h4⟩;unfold Y5l at hk
    split at hk <;> first | (rename_i h1; rw [h1]; rfl) | skip
    ·rename_i i j h1; rw [h1, Yd.1 hk]; rfl
    ·rename_i v u h1; rw [h1, Ydr _ _ hk]; rfl
    ·cases hk
   ·exact next h
  ·exact next h
theorem LoopC.ofY {c : Cx} (hcL : HandOkL c) (hm : c.P.follows .mixedOrders = true) (n : Nat) {root : Code} (hroot : (c.P.funcs[c.fn]?).bind (·.body) = some root) {a : Code} (hsub : Sub root (.loop a)) {lc : LC} {f : List AV -> Heap -> KX -> Prop} (hf : Ym8 c.P a f) (meas : List Ed -> Nat)
  (hb : ∀ s ys e1 e2, Ynp lc.T s e1 -> Yhp lc.H ys e2 -> ∀ K, lc.spec (e1 ++ e2) K -> Yfh c n a (Yd9 lc.len s lc.W) ys (Xhb lc f (fun e => meas e < meas (e1 ++ e2) /\ lc.spec e K) K)) : LoopC c.P a lc := by
 have key : ∀ m s ys e1 e2, meas (e1 ++ e2) = m -> Ynp lc.T s e1 -> Yhp lc.H ys e2 -> ∀ K, lc.spec (e1 ++ e2) K -> ∃ j e o s' r ys', K j e /\ lc.outs[j]? = some o /\ insT o.T e = some (s', r) /\ insH o.H r = some (ys', []) /\
   BigT (fun Q ac w => InLoop c.P a Q ac w) (Yd9 lc.len s lc.W) ys o.kind.ax (Yd9 lc.len s' o.junk) ys' := by
  intro m
  induction m using Nat.strongRecOn with
  | _ m ih =>
   intro s ys e1 e2 hme hT hH K hs;obtain ⟨x, tm1, hp1, h1, h2⟩ := Yg6 hcL hm n hroot a hsub.loop _ _ _ (hb s ys e1 e2 hT hH K hs);have out : Xch lc.outs 0 x tm1 hp1 K -> (∀ φ e, x.is φ e -> e ≠ .normal) -> tm1.length = lc.len -> ∃ j e o s' r ys', K j e /\ lc.outs[j]? = some o /\ insT o.T e = some (s', r) /\ insH o.H r = some (ys', []) /\
     BigT (fun Q ac w => InLoop c.P a Q ac w) (Yd9 lc.len s lc.W) ys o.kind.ax (Yd9 lc.len s' o.junk) ys' := fun h hne hlen => by
    obtain ⟨k, o, s', ys', f1, f2, g1, g2, g3, g4, g5, g6⟩ := Xb6 h;rw [Nat.zero_add] at g1;refine ⟨k, _, o, s', _, ys', g1, g2, g4, g5, fun φ0 φ w0 M R ac w hr Q kk => InLoop.round (h2 φ0 φ w0 M R ac w hr _ fun φ2 e a' w' hx hr2 => ?_)⟩;have he := hne φ2 e hx;obtain ⟨φ3, hr3⟩ := g6 φ0 φ2 w0 M R a' w' hr2;rw [hlen] at hr3;have hx3 : o.kind.ax.is φ3 e := by
     rw [g3];have : o.kind.ax.is φ2 e := by rw [g3]; exact hx
     rw [<- g3];cases hk : o.kind <;> rw [hk] at this <;> exact this
    cases e <;> first | exact absurd rfl he | exact kk φ3 _ a' w' hx3 hr3
   unfold Xhb at h1;obtain ⟨hlen, h1⟩ := Ya h1;have hlen := Y4 hlen
   split at h1
   ·split at h1
    ·obtain ⟨s2, ys2, f1, f2, g1, g2, g3, g4⟩ := Ysu h1;obtain ⟨j, e, o, s', r, ys', k1, k2, k3, k4, k5⟩ := ih _ (hme ▸ g1.1) s2 ys2 f1 f2 rfl g2 g3 K g1.2;refine ⟨j, e, o, s', r, ys', k1, k2, k3, k4, fun φ0 φ w0 M R ac w hr Q kk => InLoop.round (h2 φ0 φ w0 M R ac w hr _ fun φ2 e2 a' w' hx hr2 => ?_)⟩;obtain ⟨φ3, hr3⟩ := g4 φ0 φ2 w0 M R a' w' hr2;rw [hlen] at hr3;cases hx;exact k5 φ0 φ3 w0 M R a' w' hr3 Q kk
    ·obtain ⟨x', tm2, hp2, hk, hbig⟩ := hf _ _ _ h1;obtain ⟨hlen2, hk⟩ := Ya hk;have hlen2 := Y4 hlen2;obtain ⟨k, o, s', ys', f1, f2, g1, g2, g3, g4, g5, g6⟩ := Xb6 hk;rw [Nat.zero_add] at g1;refine ⟨k, _, o, s', _, ys', g1, g2, g4, g5, fun φ0 φ w0 M R ac w hr Q kk => InLoop.round (h2 φ0 φ w0 M R ac w hr _ fun φ2 e2 a' w' hx hr2 => ?_)⟩;cases hx;refine hbig φ0 φ2 w0 M R a' w' hr2 Q fun φ3 e3 a3 w3 hx3 hr3 => ?_;obtain ⟨φ4, hr4⟩ := g6 φ0 φ3 w0 M R a3 w3 hr3;rw [hlen2] at hr4;have hx4 : o.kind.ax.is φ4 e3 := by
      have : o.kind.ax.is φ3 e3 := by rw [g3]; exact hx3
      cases hk : o.kind <;> rw [hk] at this <;> exact this
     exact kk φ4 _ a3 w3 hx4 hr4
   ·rename_i hnn;refine out h1 (fun φ e hx he => ?_) hlen;subst he;cases x <;> first | exact hnn rfl | cases hx | exact hx.elim | skip
 intro s ys e1 e2 hT hH K hs;exact key _ s ys e1 e2 rfl hT hH K hs
end
theorem LE.okOfY {P : Program} (tt : (W : InW) -> @Tr (@TI W)) (ht : ∀ W : InW, @TabOk W P (tt W)) (hm : P.follows .mixedOrders = true) (T : Tab P) (n m : Nat) {g : FuncId} {key : Nat} (h1 : (match Ye7 P g key with | [_] => true | _ => false) = true) (lc : LC) (f : (W : InW) -> Y43 W)
  (hf : ∀ (W : InW) (body a : Code), (P.funcs[g]?).bind (·.body) = some body -> a ∈ Y1 body -> Yf2 a = key -> @Ym8 W P a (f W)) (meas : (W : InW) -> List (@Ed W) -> Nat)
  (hb : ∀ (W : InW), @AllT W lc.T fun s e1 => @AllH W lc.H fun ys e2 => ∀ K, @LC.spec lc W (e1 ++ e2) K -> @Yfh W { @cxT W P (tt W) T n m with fn := g } n (Yor P g key) (@Yd9 W lc.len s lc.W) ys (@Xhb W lc (f W) (fun e => meas W e < meas W (e1 ++ e2) /\ @LC.spec lc W e K) K)) :
  ∀ (W : InW) (body a : Code), (P.funcs[g]?).bind (·.body) = some body -> a ∈ Y1 body -> Yf2 a = key -> @Ym8 W P a (@Yum W lc) := by
 intro W body a hbd ha hk;have hf := hf W body a hbd ha hk;obtain ⟨h2, h3⟩ := Yzt h1;rw [h2 body a hbd ha hk] at hf ⊢;refine Yxj ?_;have hP := Y01 P (tt W) T n m;have hL := (Yta (T := T) (ht W) hm n m).at g;have := LoopC.ofY (c := { @cxT W P (tt W) T n m with fn := g }) hL (by rw [show ({ @cxT W P (tt W) T n m with fn := g } : Cx).P = P from hP]; exact hm) n (root := Yj6 P g) (by
  show ((cxT P (tt W) T n m).P.funcs[g]?).bind (·.body) = _
  rw [hP]; exact Yz0 h1) h3 (lc := lc) (f := f W) (by rw [show ({ @cxT W P (tt W) T n m with fn := g } : Cx).P = P from hP]; exact hf) (meas W) fun s ys e1 e2 hT hH => @Ym5 W _ _ _ _ (@Ytg W _ _ _ _ (hb W) hT) hH
 rw [show ({ @cxT W P (tt W) T n m with fn := g } : Cx).P = P from hP] at this;exact this
end Go.Proofs.Ytfbhampnigdaaaa
namespace Go.Proofs.Ytfbhampnigdaaaa
open Go.RowKit
set_option maxRecDepth 100000
def T0 : Tab Try.prog := ⟨[], [], []⟩
abbrev Xhf (ds : DS) : DS := match ds with | [[.i n], [.i lo], [.i hi]] => [[.b (Sp.inr n lo hi)]] | _ => []
abbrev Xc9 (ds : DS) : DS := match ds with | [[.i n]] => [[.b (Sp.inr n (-240) 240)]] | _ => []
abbrev Xev (ds : DS) : DS := match ds with | [[.i lo], [.i hi], [.l xs]] => [[.b (Sp.out lo hi xs)]] | _ => []
def Xue [W : InW] (n lo hi : Int) (Q : DS -> Prop) : Prop :=
 Vif (decide (lo <= n)) (Q [[Cl.b (decide (n <= hi))]]) (Q [[Cl.b false]])
theorem vc_in (W : InW) (n lo hi Q) : Yx2 (cxT Try.prog TT T0 1000 50) 1000 34 [.si .i64 n, .si .i64 lo, .si .i64 hi] [] 0 (Y2i [(false, [.bool])] Q) (fun _ _ _ _ => Stuck 421) = Xue n lo hi Q := by kernel_rfl
abbrev Xkk : List AT := [.one (.int .i64), .one (.int .i64), .one (.int .i64)]
theorem ok_in {pre : DS -> Prop} {res : DS -> DS} (hyp_ : ∀ (W : InW) (n lo hi : Int), pre [[.i n], [.i lo], [.i hi]] -> ∀ Q : DS -> Prop, Q (res [[.i n], [.i lo], [.i hi]]) -> Xue n lo hi Q) : PureOk Try.prog 34 Xkk [(false, [.bool])] pre res :=
 PureOk.of' (fun W => @TT W) (fun W => @Xc W) Xa T0 1000 50 fun W n lo hi hp =>
  (vc_in W n lo hi (fun o => o = res [[.i n], [.i lo], [.i hi]])).mpr (hyp_ W n lo hi hp _ rfl)
theorem okin : PureOk Try.prog 34 Xkk [(false, [.bool])] (fun _ => True) Xhf :=
 ok_in fun W n lo hi _ Q h => vif (fun e => by simpa [Xhf, Sp.inr, e] using h) fun e => by simpa [Xhf, Sp.inr, e] using h
def Xl7 : PC Try.prog := ⟨34, Xkk, [(false, [.bool])], fun _ => True, Xhf, okin⟩
def T0a : Tab Try.prog := ⟨[Xl7], [], []⟩
def Xep [W : InW] (n : Int) (Q : DS -> Prop) : Prop :=
 Pre True (Q [[Cl.b (Sp.inr n (-240 : Int) (240 : Int))]])
theorem Xjo (W : InW) (n Q) : Yx2 (cxT Try.prog TT T0a 1000 50) 1000 35 [.si .i64 n] [] 0 (Y2i [(false, [.bool])] Q) (fun _ _ _ _ => Stuck 421) = Xep n Q := by kernel_rfl
abbrev Xcf : List AT := [.one (.int .i64)]
theorem Xj8 {pre : DS -> Prop} {res : DS -> DS} (hyp_ : ∀ (W : InW) (n : Int), pre [[.i n]] -> ∀ Q : DS -> Prop, Q (res [[.i n]]) -> Xep n Q) : PureOk Try.prog 35 Xcf [(false, [.bool])] pre res :=
 PureOk.of' (fun W => @TT W) (fun W => @Xc W) Xa T0a 1000 50 fun W n hp =>
  (Xjo W n (fun o => o = res [[.i n]])).mpr (hyp_ W n hp _ rfl)
theorem Xmb : PureOk Try.prog 35 Xcf [(false, [.bool])] (fun _ => True) Xc9 :=
 Xj8 fun W n _ Q h => ⟨trivial, h⟩
def Xei : PC Try.prog := ⟨35, Xcf, [(false, [.bool])], fun _ => True, Xc9, Xmb⟩
def Xgz [InW] (e : List Ed) (K : Nat -> List Ed -> Prop) : Prop := match e with
 | [.ro _ xs, .i n, .i i, .i lo, .i hi] => Pre (n = xs.xs.length /\ 0 <= i /\ i <= n) (Vif (Sp.outs lo hi xs.xs i.toNat (xs.xs.length - i.toNat)) (K 1 [.i (Sp.outI lo hi xs.xs i.toNat (xs.xs.length - i.toNat)), .i lo, .i hi]) (K 0 [.i lo, .i hi]))
 | _ => False
def Xit : LC where
 len := 19
 T := [(0, .rs Jc), (1, (.fn (.func 77) [] [(.ptr 1 0), (.ptr 4 0)])), (7, .int .i64), (8, .int .i64)]
 H := [(1, .blk 3 [.int .i64]), (4, .blk 3 [.int .i64])]
 W := ([4, 5] ++ rgg 9 10)
 outs := [⟨.exit 0, [(1, (.fn (.func 77) [] [(.ptr 1 0), (.ptr 4 0)]))], [(1, .blk 3 [.int .i64]), (4, .blk 3 [.int .i64])], ([0, 4, 5] ++ rgg 7 12)⟩, ⟨.ret, [(1, (.fn (.func 77) [] [(.ptr 1 0), (.ptr 4 0)])), (4, .int .i64)], [(1, .blk 3 [.int .i64]), (4, .blk 3 [.int .i64])], ([0, 5] ++ rgg 7 12)⟩]
 spec := Xgz
def Xfz [W : InW] (xs : Ro Jc) (n i lo hi : Int) (A : List Ed -> Prop) (K : Nat -> List Ed -> Prop) : Prop :=
 Vif (decide (i < n)) (Need (decide (0 <= i) && decide (i < (↑(xs.xs.length) : Int))) (Need (decide (i.toNat < xs.xs.length)) (Vif (decide ((cel xs.xs i.toNat (0 : Nat)).int < lo)) (K (0+1) [.i i, .i lo, .i hi]) (Vif (decide (hi < (cel xs.xs i.toNat (0 : Nat)).int)) (K (0+1) [.i i, .i lo, .i hi]) (Ar .i64 (i + 1) fun z => A [.ro _ xs, .i n, .i z, .i lo, .i hi]))))) (K 0 [.i lo, .i hi])
theorem Xn4 (W : InW) (xs n i lo hi A K) : Yfh { cxT Try.prog TT T0 1000 50 with fn := 83 } 1000 (Yor Try.prog 83 3) (Yd9 19 [(0, .rs _ xs), (1, .fn (.func 77) [] [.ptr 1 0, .ptr 4 0]), (7, .si .i64 n), (8, .si .i64 i)] ([4, 5] ++ rgg 9 10)) [(1, .blk 3 [.si .i64 lo]), (4, .blk 3 [.si .i64 hi])] (Yvi Xit A K) = Xfz xs n i lo hi A K := by kernel_rfl
def Xh2 : Prop := ∀ (W : InW) (body a : Code), (Try.prog.funcs[83]?).bind (·.body) = some body -> a ∈ Y1 body -> Yf2 a = 3 -> @Ym8 W Try.prog a (@Yum W Xit)
theorem Xp4 (meas : [InW] -> List Ed -> Nat) (hyp_ : ∀ (W : InW) xs n i lo hi K, Xgz [.ro _ xs, .i n, .i i, .i lo, .i hi] K -> ∀ A : List Ed -> Prop, (∀ e, meas e < meas [.ro _ xs, .i n, .i i, .i lo, .i hi] -> Xgz e K -> A e) -> Xfz xs n i lo hi A K) : Xh2 :=
 LE.okOf' (fun W => @TT W) (fun W => @Xc W) Xa T0 1000 50 (by kernel_rfl) Xit (fun W => @meas W) fun W xs n i lo hi K hs =>
  (Xn4 W xs n i lo hi (fun e => meas e < meas [.ro _ xs, .i n, .i i, .i lo, .i hi] /\ Xgz e K) K).mpr (hyp_ W xs n i lo hi K hs _ fun e h1 h2 => ⟨h1, h2⟩)
theorem Xs7 : Xh2 := Xp4 (fun e => match e with | .ro _ xs :: .i n :: .i i :: _ => (n - i).toNat | _ => 0) fun W xs n i lo hi K hs A hA => by
 obtain ⟨⟨rfl, h0, h1⟩, hk⟩ := hs;unfold Xfz;have hm := xs.len;simp only [maxLen] at hm;refine vifd (fun e => ?_) fun e => ?_
 ·rw [show xs.xs.length - i.toNat = (xs.xs.length - (i.toNat + 1)) + 1 by omega] at hk;have hc : (cel xs.xs i.toNat 0).int < lo \/ hi < (cel xs.xs i.toNat 0).int -> K 1 [.i i, .i lo, .i hi] := fun h => by
   have hf : Sp.inr (cel xs.xs i.toNat 0).int lo hi = false := by simp only [Sp.inr, Bool.and_eq_false_iff, decide_eq_false_iff_not]; omega
   have := hk.1 (by simp [Sp.outs, hf]);unfold Sp.outI at this;rw [if_neg (by simp [hf]), Int.toNat_of_nonneg h0] at this;exact this
  refine ned (by simp; omega) (nedd (by omega) (vifd (fun e2 => hc (.inl e2)) fun e2 => vifd (fun e3 => hc (.inr e3)) fun e3 => ar64 (by omega) (hA _ ?_ ?_)))
  ·show ((xs.xs.length : Int) - (i + 1)).toNat < ((xs.xs.length : Int) - i).toNat
   omega
  ·have hf : Sp.inr (cel xs.xs i.toNat 0).int lo hi = true := by simp only [Sp.inr, Bool.and_eq_true, decide_eq_true_eq]; omega
   refine ⟨⟨rfl, by omega, by omega⟩, ?_⟩;rw [show (i + 1).toNat = i.toNat + 1 by omega];simp only [Sp.outs, hf, Bool.not_true, Bool.false_or, Sp.outI, if_true] at hk;exact hk
 ·rw [show xs.xs.length - i.toNat = 0 by omega] at hk;exact hk.2 rfl
def Xt5 : LE Try.prog := ⟨83, 3, fun W => @Yum W Xit, Xs7⟩
def T1 : Tab Try.prog := ⟨[], [Xt5], []⟩
def Xko [W : InW] (lo hi : Int) (xs : Ro Jc) (Q : DS -> Prop) : Prop :=
 Pre ((↑(xs.xs.length) : Int) = (↑(xs.xs.length) : Int) /\ (0 : Int) <= 0 /\ (0 : Int) <= (↑(xs.xs.length) : Int)) (Vif (Sp.outs lo hi xs.xs (Int.toNat (0 : Int)) (xs.xs.length - Int.toNat (0 : Int))) (Q [[Cl.b (decide ((0 : Int) <= (↑(Sp.outI lo hi xs.xs (Int.toNat (0 : Int)) (xs.xs.length - Int.toNat (0 : Int))) : Int)))]]) (Q [[Cl.b false]]))
theorem Xry (W : InW) (lo hi xs Q) : Yx2 (cxT Try.prog TT T1 1000 50) 1000 50 [.si .i64 lo, .si .i64 hi, .rs _ xs] [] 0 (Y2i [(false, [.bool])] Q) (fun _ _ _ _ => Stuck 421) = Xko lo hi xs Q := by kernel_rfl
abbrev Xe4 : List AT := [.one (.int .i64), .one (.int .i64), .one (.sl Jc)]
theorem Xsl {pre : DS -> Prop} {res : DS -> DS} (hyp_ : ∀ (W : InW) (lo hi : Int) (xs : Ro Jc), pre [[.i lo], [.i hi], [.l xs.xs]] -> ∀ Q : DS -> Prop, Q (res [[.i lo], [.i hi], [.l xs.xs]]) -> Xko lo hi xs Q) : PureOk Try.prog 50 Xe4 [(false, [.bool])] pre res :=
 PureOk.of' (fun W => @TT W) (fun W => @Xc W) Xa T1 1000 50 fun W lo hi xs hp =>
  (Xry W lo hi xs (fun o => o = res [[.i lo], [.i hi], [.l xs.xs]])).mpr (hyp_ W lo hi xs hp _ rfl)
theorem okout : PureOk Try.prog 50 Xe4 [(false, [.bool])] (fun _ => True) Xev :=
 Xsl fun W lo hi xs _ Q h => by
  unfold Xko;simp only [Xev, Sp.out] at h;rw [show Int.toNat 0 = 0 from rfl, Nat.sub_zero];refine ⟨⟨rfl, by omega, by omega⟩, vif (fun e => ?_) fun e => ?_⟩
  ·rw [e] at h;rw [decide_eq_true (by omega)];exact h
  ·rw [e] at h;exact h
def Xeh : PC Try.prog := ⟨50, Xe4, [(false, [.bool])], fun _ => True, Xev, okout⟩
set_option maxHeartbeats 1600000
abbrev tyQ : List Ty := [.int .i64, .int .i64, .int .i64, .int .i64, .int .i64]
namespace Sp
def qPart (qs : Dt) (i : Nat) : Int := (cel qs i 0).int
def qBoxes (qs : Dt) (i : Nat) : Int := (cel qs i 1).int
def qRight (qs : Dt) (i : Nat) : Int := (cel qs i 2).int
def qPts (qs : Dt) (i : Nat) : Int := (cel qs i 3).int
def qMin (qs : Dt) (i : Nat) : Int := (cel qs i 4).int
def qErr (np : Nat) (qs : Dt) (i : Nat) : Int :=
 if inr (qPart qs i) 0 ((np : Int) - 1) then (if inr (qBoxes qs i) 2 4 then (if inr (qRight qs i) 0 (qBoxes qs i - 1) then (if inr (qPts qs i) 0 20 && inr (qMin qs i) 0 20 then 0 else 7) else 4) else 7) else 4
def pErr (ps : Dt) (i : Nat) : Int := if inr (cel ps i 0).int (-240) 240 then 0 else 7
def chk (qs ps : Dt) (all : Int) : Int × Int × Int :=
  if inr qs.length 1 12 && inr ps.length 1 4 then
    (if hasE (qErr ps.length qs) 0 qs.length then (2, idxE (qErr ps.length qs) 0 qs.length, qErr ps.length qs (idxE (qErr ps.length qs) 0 qs.length))
     else if hasE (pErr ps) 0 ps.length then (3, idxE (pErr ps) 0 ps.length, pErr ps (idxE (pErr ps) 0 ps.length))
     else if inr all (-240) 240 then (0, 0, 0) else (4, 0, 7))
  else (1, 0, 3)
def chkP (qs ps : Dt) (all : Int) : Int := (chk qs ps all).1
def chkI (qs ps : Dt) (all : Int) : Int := (chk qs ps all).2.1
def chkE (qs ps : Dt) (all : Int) : Int := (chk qs ps all).2.2
end Sp
abbrev Xb9 (ds : DS) : DS := match ds with | [[.l qs, .l ps, .i all]] => [[.i (Sp.chkP qs ps all)], [.i (Sp.chkI qs ps all)], [.i (Sp.chkE qs ps all)]] | _ => []
def T2 : Tab Try.prog := ⟨[Xl7, Xei, Xeh], [], []⟩
def Xgt [InW] (e : List Ed) (K : Nat -> List Ed -> Prop) : Prop := match e with
 | [.i i, .ro _ qs, .ro _ ps, .i all] => Pre (0 <= i /\ i <= qs.xs.length) (Vif (Sp.hasE (Sp.qErr ps.xs.length qs.xs) i.toNat (qs.xs.length - i.toNat))
   (K 1 [.i (Sp.idxE (Sp.qErr ps.xs.length qs.xs) i.toNat (qs.xs.length - i.toNat)), .i (Sp.qErr ps.xs.length qs.xs (Sp.idxE (Sp.qErr ps.xs.length qs.xs) i.toNat (qs.xs.length - i.toNat)))]) (K 0 [.ro _ qs, .ro _ ps, .i all]))
 | _ => False
def Xin : LC where
 len := 84
 T := [(1, (.ptr 1 0)), (5, .int .i64)]
 H := [(1, .blk 25 [.rs tyQ, .rs Jc, .int .i64])]
 W := ([2, 3, 4, 6] ++ rgg 20 45)
 outs := [⟨.exit 0, [(1, (.ptr 1 0))], [(1, .blk 25 [.rs tyQ, .rs Jc, .int .i64])], (rgg 2 5 ++ rgg 20 45)⟩, ⟨.ret, [(2, (.lit (.int .i64 2))), (3, .int .i64), (4, .int .i64)], [], ([1, 5, 6] ++ rgg 20 45)⟩]
 spec := Xgt
def Xft [W : InW] (i : Int) (qs : Ro tyQ) (ps : Ro Jc) (all : Int) (A : List Ed -> Prop) (K : Nat -> List Ed -> Prop) : Prop :=
 Vif (decide (i < (↑(qs.xs.length) : Int))) (Need (decide (0 <= i) && decide (i < (↑(qs.xs.length) : Int))) (Need (decide (i.toNat < qs.xs.length)) (Ar .i64 ((↑(ps.xs.length) : Int) - 1) fun z => Pre True (Vif (!Sp.inr (cel qs.xs i.toNat (0 : Nat)).int (0 : Int) z) (K (0+1) [.i i, .i (4 : Int)]) (Pre True (Vif (!Sp.inr (cel qs.xs i.toNat (0+1)).int (2 : Int) (4 : Int)) (K (0+1) [.i i, .i (7 : Int)]) (Ar .i64 ((cel qs.xs i.toNat (0+1)).int - 1) fun z => Pre True (Vif (!Sp.inr (cel qs.xs i.toNat ((0 : Nat) + 1 + 1)).int (0 : Int) z) (K (0+1) [.i i, .i (4 : Int)]) (Pre True (Vif (!Sp.inr (cel qs.xs i.toNat ((0 : Nat) + 1 + 1 + 1)).int (0 : Int) (20 : Int)) (K (0+1) [.i i, .i (7 : Int)]) (Pre True (Vif (!Sp.inr (cel qs.xs i.toNat ((0 : Nat) + 1 + 1 + 1 + 1)).int (0 : Int) (20 : Int)) (K (0+1) [.i i, .i (7 : Int)]) (Ar .i64 (i + 1) fun z => A [.i z, .ro _ qs, .ro _ ps, .i all]))))))))))))) (K 0 [.ro _ qs, .ro _ ps, .i all])
theorem Xny (W : InW) (i qs ps all A K) : Yfh { cxT Try.prog TT T2 1000 50 with fn := 6 } 1000 (Yor Try.prog 6 5) (Yd9 84 [(1, .ptr 1 0), (5, .si .i64 i)] ([2, 3, 4, 6] ++ rgg 20 45)) [(1, .blk 25 [.rs _ qs, .rs _ ps, .si .i64 all])] (Yvi Xin A K) = Xft i qs ps all A K := by kernel_rfl
def Xhw : Prop := ∀ (W : InW) (body a : Code), (Try.prog.funcs[6]?).bind (·.body) = some body -> a ∈ Y1 body -> Yf2 a = 5 -> @Ym8 W Try.prog a (@Yum W Xin)
theorem Xpy (meas : [InW] -> List Ed -> Nat) (hyp_ : ∀ (W : InW) i qs ps all K, Xgt [.i i, .ro _ qs, .ro _ ps, .i all] K -> ∀ A : List Ed -> Prop, (∀ e, meas e < meas [.i i, .ro _ qs, .ro _ ps, .i all] -> Xgt e K -> A e) -> Xft i qs ps all A K) : Xhw :=
 LE.okOf' (fun W => @TT W) (fun W => @Xc W) Xa T2 1000 50 (by kernel_rfl) Xin (fun W => @meas W) fun W i qs ps all K hs =>
  (Xny W i qs ps all (fun e => meas e < meas [.i i, .ro _ qs, .ro _ ps, .i all] /\ Xgt e K) K).mpr (hyp_ W i qs ps all K hs _ fun e h1 h2 => ⟨h1, h2⟩)
theorem Xhg (np : Nat) (qs : Dt) (i : Nat) : Sp.qErr np qs i = if Sp.inr (cel qs i 0).int 0 ((np : Int) - 1) then (if Sp.inr (cel qs i 1).int 2 4 then (if Sp.inr (cel qs i 2).int 0 ((cel qs i 1).int - 1) then (if Sp.inr (cel qs i 3).int 0 20 && Sp.inr (cel qs i 4).int 0 20 then 0 else 7) else 4) else 7) else 4 := rfl
theorem Xs1 : Xhw := Xpy (fun e => match e with | [.i i, .ro _ qs, _, _] => ((qs.xs.length : Int) - i).toNat | _ => 0) fun W i qs ps all K hs A hA => by
 obtain ⟨⟨h0, h1⟩, hk⟩ := hs;unfold Xft;have hm := qs.len;have hm2 := ps.len;simp only [maxLen] at hm hm2;refine vifd (fun e => ?_) fun e => ?_
 ·rw [show qs.xs.length - i.toNat = (qs.xs.length - (i.toNat + 1)) + 1 by omega] at hk;obtain ⟨g1, g2⟩ := Xdf (K1 := fun j e => K 1 [.i j, .i e]) hk;rw [Int.toNat_of_nonneg h0] at g1;have ez : (i + 1).toNat = i.toNat + 1 := by omega
  have hA' : Sp.qErr ps.xs.length qs.xs i.toNat = 0 -> A [.i (i + 1), .ro _ qs, .ro _ ps, .i all] := fun f => hA _ (by show ((qs.xs.length : Int) - (i + 1)).toNat < ((qs.xs.length : Int) - i).toNat; omega) ⟨⟨by omega, by omega⟩, by rw [ez]; exact g2 f⟩;have bad : ∀ n, Sp.qErr ps.xs.length qs.xs i.toNat = n -> n ≠ 0 -> K 1 [.i i, .i n] := fun n hn h => by rw [<- hn]; exact g1 (by rw [hn]; exact h)
  have eN := Lib.hid (Xhg ps.xs.length qs.xs i.toNat);have i1 := fun h => Sp.inr_iff.1 (show Sp.inr (cel qs.xs i.toNat 1).int 2 4 = true from h);clear g1 g2 hk hA;generalize Sp.qErr ps.xs.length qs.xs i.toNat = E at *;simp only [Nat.zero_add, Nat.reduceAdd]
  repeat' (first | (with_reducible refine ar64 (by have := i1 (by assumption); omega) ?_) | omega|intro _|with_reducible first|apply vifd|apply vifn|apply vifq|apply Xf|apply Xe|apply vifb|apply vif|apply nedd|apply ned2|apply ned|apply ar64|apply Xb|exact True.intro|assumption|rfl|apply And.intro)
  all_goals first | exact bad _ (by rw [eN.out]; simp [*]) (by omega) | exact hA' (by rw [eN.out]; simp [*]) | (have := i1 (by assumption); omega) | skip
  all_goals trace_state
 ·rw [show qs.xs.length - i.toNat = 0 by omega] at hk;exact hk.2 rfl
def Xtz : LE Try.prog := ⟨6, 5, fun W => @Yum W Xin, Xs1⟩
def Xgu [InW] (e : List Ed) (K : Nat -> List Ed -> Prop) : Prop := match e with
 | [.i i, .ro _ qs, .ro _ ps, .i all] => Pre (0 <= i /\ i <= ps.xs.length) (Vif (Sp.hasE (Sp.pErr ps.xs) i.toNat (ps.xs.length - i.toNat))
   (K 1 [.i (Sp.idxE (Sp.pErr ps.xs) i.toNat (ps.xs.length - i.toNat)), .i (Sp.pErr ps.xs (Sp.idxE (Sp.pErr ps.xs) i.toNat (ps.xs.length - i.toNat)))]) (K 0 [.ro _ qs, .ro _ ps, .i all]))
 | _ => False
def Xio : LC where
 len := 84
 T := [(1, (.ptr 1 0)), (7, .int .i64)]
 H := [(1, .blk 25 [.rs tyQ, .rs Jc, .int .i64])]
 W := ([2, 3, 4] ++ rgg 65 15)
 outs := [⟨.exit 2, [(1, (.ptr 1 0))], [(1, .blk 25 [.rs tyQ, .rs Jc, .int .i64])], ([2, 3, 4, 7] ++ rgg 65 15)⟩, ⟨.ret, [(2, (.lit (.int .i64 3))), (3, .int .i64), (4, .int .i64)], [], ([1, 7] ++ rgg 65 15)⟩]
 spec := Xgu
def Xfu [W : InW] (i : Int) (qs : Ro tyQ) (ps : Ro Jc) (all : Int) (A : List Ed -> Prop) (K : Nat -> List Ed -> Prop) : Prop :=
 Vif (decide (i < (↑(ps.xs.length) : Int))) (Need (decide (0 <= i) && decide (i < (↑(ps.xs.length) : Int))) (Need (decide (i.toNat < ps.xs.length)) (Pre True (Vif (!Sp.inr (cel ps.xs i.toNat (0 : Nat)).int (-240 : Int) (240 : Int)) (K (0+1) [.i i, .i (7 : Int)]) (Ar .i64 (i + 1) fun z => A [.i z, .ro _ qs, .ro _ ps, .i all]))))) (K 0 [.ro _ qs, .ro _ ps, .i all])
theorem Xnz (W : InW) (i qs ps all A K) : Yfh { cxT Try.prog TT T2 1000 50 with fn := 6 } 1000 (Yor Try.prog 6 17) (Yd9 84 [(1, .ptr 1 0), (7, .si .i64 i)] ([2, 3, 4] ++ rgg 65 15)) [(1, .blk 25 [.rs _ qs, .rs _ ps, .si .i64 all])] (Yvi Xio A K) = Xfu i qs ps all A K := by kernel_rfl
def Xhx : Prop := ∀ (W : InW) (body a : Code), (Try.prog.funcs[6]?).bind (·.body) = some body -> a ∈ Y1 body -> Yf2 a = 17 -> @Ym8 W Try.prog a (@Yum W Xio)
theorem Xpz (meas : [InW] -> List Ed -> Nat) (hyp_ : ∀ (W : InW) i qs ps all K, Xgu [.i i, .ro _ qs, .ro _ ps, .i all] K -> ∀ A : List Ed -> Prop, (∀ e, meas e < meas [.i i, .ro _ qs, .ro _ ps, .i all] -> Xgu e K -> A e) -> Xfu i qs ps all A K) : Xhx :=
 LE.okOf' (fun W => @TT W) (fun W => @Xc W) Xa T2 1000 50 (by kernel_rfl) Xio (fun W => @meas W) fun W i qs ps all K hs =>
  (Xnz W i qs ps all (fun e => meas e < meas [.i i, .ro _ qs, .ro _ ps, .i all] /\ Xgu e K) K).mpr (hyp_ W i qs ps all K hs _ fun e h1 h2 => ⟨h1, h2⟩)
theorem Xhi (ps : Dt) (i : Nat) : Sp.pErr ps i = if Sp.inr (cel ps i 0).int (-240) 240 then 0 else 7 := rfl
theorem Xs2 : Xhx := Xpz (fun e => match e with | [.i i, _, .ro _ ps, _] => ((ps.xs.length : Int) - i).toNat | _ => 0) fun W i qs ps all K hs A hA => by
 obtain ⟨⟨h0, h1⟩, hk⟩ := hs;unfold Xfu;have hm := ps.len;simp only [maxLen] at hm;refine vifd (fun e => ?_) fun e => ?_
 ·rw [show ps.xs.length - i.toNat = (ps.xs.length - (i.toNat + 1)) + 1 by omega] at hk;obtain ⟨g1, g2⟩ := Xdf (K1 := fun j e => K 1 [.i j, .i e]) hk;rw [Int.toNat_of_nonneg h0] at g1;have ez : (i + 1).toNat = i.toNat + 1 := by omega
  have hA' : Sp.pErr ps.xs i.toNat = 0 -> A [.i (i + 1), .ro _ qs, .ro _ ps, .i all] := fun f => hA _ (by show ((ps.xs.length : Int) - (i + 1)).toNat < ((ps.xs.length : Int) - i).toNat; omega) ⟨⟨by omega, by omega⟩, by rw [ez]; exact g2 f⟩;have bad : ∀ n, Sp.pErr ps.xs i.toNat = n -> n ≠ 0 -> K 1 [.i i, .i n] := fun n hn h => by rw [<- hn]; exact g1 (by rw [hn]; exact h)
  have eN := Lib.hid (Xhi ps.xs i.toNat);clear g1 g2 hk hA;generalize Sp.pErr ps.xs i.toNat = E at *;simp only [Nat.zero_add, Nat.reduceAdd]
  repeat' (first | omega|intro _|with_reducible first|apply vifd|apply vifn|apply vifq|apply Xf|apply Xe|apply vifb|apply vif|apply nedd|apply ned2|apply ned|apply ar64|apply Xb|exact True.intro|assumption|rfl|apply And.intro)
  all_goals first | exact bad _ (by rw [eN.out]; simp [*]) (by omega) | exact hA' (by rw [eN.out]; simp [*])
 ·rw [show ps.xs.length - i.toNat = 0 by omega] at hk;exact hk.2 rfl
def Xt0 : LE Try.prog := ⟨6, 17, fun W => @Yum W Xio, Xs2⟩
def T3 : Tab Try.prog := ⟨[Xl7, Xei], [Xtz, Xt0], []⟩
def Zb := (0 : Int)
def Za := Int.toNat Zb
def Xc5 [W : InW] (kQ : Ro tyQ) (kP : Ro Jc) (kA : Int) (Q : DS -> Prop) : Prop :=
 Pre True (Vif (!Sp.inr (↑(kQ.xs.length) : Int) (1 : Int) (12 : Int)) (Q [[Cl.i 1], [Cl.i 0], [Cl.i 3]]) (Pre True (Vif (!Sp.inr (↑(kP.xs.length) : Int) (1 : Int) (4 : Int)) (Q [[Cl.i 1], [Cl.i 0], [Cl.i 3]]) (Pre (Zb <= 0 /\ Zb <= (↑(kQ.xs.length) : Int)) (Vif (Sp.hasE (Sp.qErr (kP.xs.length) kQ.xs) Za (kQ.xs.length - Int.toNat Zb)) (Q [[Cl.i 2], [Cl.i (↑(Sp.idxE (Sp.qErr (kP.xs.length) kQ.xs) Za (kQ.xs.length - Int.toNat Zb)) : Int)], [Cl.i (Sp.qErr (kP.xs.length) kQ.xs (Sp.idxE (Sp.qErr (kP.xs.length) kQ.xs) Za (kQ.xs.length - Int.toNat Zb)))]]) (Pre (Zb <= 0 /\ Zb <= (↑(kP.xs.length) : Int)) (Vif (Sp.hasE (Sp.pErr kP.xs) Za (kP.xs.length - Int.toNat Zb)) (Q [[Cl.i 3], [Cl.i (↑(Sp.idxE (Sp.pErr kP.xs) Za (kP.xs.length - Int.toNat Zb)) : Int)], [Cl.i (Sp.pErr kP.xs (Sp.idxE (Sp.pErr kP.xs) Za (kP.xs.length - Int.toNat Zb)))]]) (Pre True (Vif (!Sp.inr kA (-240 : Int) (240 : Int)) (Q [[Cl.i 4], [Cl.i 0], [Cl.i 7]]) (Q [[Cl.i 0], [Cl.i 0], [Cl.i 0]]))))))))))
theorem Xjm (W : InW) (kQ kP kA Q) : Yx2 (cxT Try.prog TT T3 1000 50) 1000 6 [.agg [.rs _ kQ, .rs _ kP, .si .i64 kA]] [] 0 (Y2i [(false, [.int .i64]), (false, [.int .i64]), (false, [.int .i64])] Q) (fun _ _ _ _ => Stuck 421) = Xc5 kQ kP kA Q := by kernel_rfl
abbrev Xcd : List AT := [.agg [.sl tyQ, .sl Jc, .int .i64]]
theorem Xj6 {pre : DS -> Prop} {res : DS -> DS} (hyp_ : ∀ (W : InW) (kQ : Ro tyQ) (kP : Ro Jc) (kA : Int), pre [[.l kQ.xs, .l kP.xs, .i kA]] -> ∀ Q : DS -> Prop, Q (res [[.l kQ.xs, .l kP.xs, .i kA]]) -> Xc5 kQ kP kA Q) : PureOk Try.prog 6 Xcd [(false, [.int .i64]), (false, [.int .i64]), (false, [.int .i64])] pre res :=
 PureOk.of' (fun W => @TT W) (fun W => @Xc W) Xa T3 1000 50 fun W kQ kP kA hp =>
  (Xjm W kQ kP kA (fun o => o = res [[.l kQ.xs, .l kP.xs, .i kA]])).mpr (hyp_ W kQ kP kA hp _ rfl)
theorem Xke {qs ps : Dt} {all : Int} {Q : Int × Int × Int -> Prop} (h : Q (Sp.chk qs ps all)) :
  let c := Sp.inr qs.length 1 12 && Sp.inr ps.length 1 4
  (c = false -> Q (1, 0, 3)) /\
  (c = true -> Sp.hasE (Sp.qErr ps.length qs) 0 qs.length = true -> Q (2, Sp.idxE (Sp.qErr ps.length qs) 0 qs.length, Sp.qErr ps.length qs (Sp.idxE (Sp.qErr ps.length qs) 0 qs.length))) /\
  (c = true -> Sp.hasE (Sp.qErr ps.length qs) 0 qs.length = false -> Sp.hasE (Sp.pErr ps) 0 ps.length = true -> Q (3, Sp.idxE (Sp.pErr ps) 0 ps.length, Sp.pErr ps (Sp.idxE (Sp.pErr ps) 0 ps.length))) /\
  (c = true -> Sp.hasE (Sp.qErr ps.length qs) 0 qs.length = false -> Sp.hasE (Sp.pErr ps) 0 ps.length = false -> Sp.inr all (-240) 240 = false -> Q (4, 0, 7)) /\
  (c = true -> Sp.hasE (Sp.qErr ps.length qs) 0 qs.length = false -> Sp.hasE (Sp.pErr ps) 0 ps.length = false -> Sp.inr all (-240) 240 = true -> Q (0, 0, 0)) := by
 intro c;unfold Sp.chk at h;refine ⟨fun e => ?_, fun e e1 => ?_, fun e e1 e2 => ?_, fun e e1 e2 e3 => ?_, fun e e1 e2 e3 => ?_⟩
 ·rw [if_neg (by show ¬ c = true; simp [e])] at h; exact h
 ·rw [if_pos (show c = true from e), if_pos e1] at h; exact h
 ·rw [if_pos (show c = true from e), if_neg (by simp [e1]), if_pos e2] at h; exact h
 ·rw [if_pos (show c = true from e), if_neg (by simp [e1]), if_neg (by simp [e2]), if_neg (by simp [e3])] at h; exact h
 ·rw [if_pos (show c = true from e), if_neg (by simp [e1]), if_neg (by simp [e2]), if_pos e3] at h; exact h
theorem Xl9 : PureOk Try.prog 6 Xcd [(false, [.int .i64]), (false, [.int .i64]), (false, [.int .i64])] (fun _ => True) Xb9 :=
 Xj6 fun W qs ps all hp Q h => by
  unfold Xc5;delta Za Zb;obtain ⟨q0, q1, q2, q3, q4⟩ := Xke (Q := fun r => Q [[.i r.1], [.i r.2.1], [.i r.2.2]]) h;clear h;simp only [show Int.toNat 0 = 0 from rfl, Nat.sub_zero]
  repeat' (first | omega|intro _|with_reducible first|apply vifd|apply vifn|apply vifq|apply Xf|apply Xe|apply vifb|apply vif|apply nedd|apply ned2|apply ned|apply ar64|apply Xb|exact True.intro|assumption|rfl|apply And.intro)
  all_goals first | exact q4 (by simp [*]) (by assumption) (by assumption) (by assumption) | exact q3 (by simp [*]) (by assumption) (by assumption) (by assumption) | exact q2 (by simp [*]) (by assumption) (by assumption) | exact q1 (by simp [*]) (by assumption) | exact q0 (by simp [*])
def Xjz : PC Try.prog := ⟨6, Xcd, [(false, [.int .i64]), (false, [.int .i64]), (false, [.int .i64])], fun _ => True, Xb9, Xl9⟩
def Xgx [InW] (e : List Ed) (K : Nat -> List Ed -> Prop) : Prop := match e with
 | [.ro _ q2, .i n, .i i, .ro _ qs, .ro _ ps, .i all] => Pre (0 <= i /\ i <= qs.xs.length /\ n = qs.xs.length /\ q2.xs = qs.xs) (Vif (Sp.hasE (Sp.qErr ps.xs.length qs.xs) i.toNat (qs.xs.length - i.toNat))
   (K 1 [.i (Sp.idxE (Sp.qErr ps.xs.length qs.xs) i.toNat (qs.xs.length - i.toNat)), .i (Sp.qErr ps.xs.length qs.xs (Sp.idxE (Sp.qErr ps.xs.length qs.xs) i.toNat (qs.xs.length - i.toNat)))]) (K 0 [.ro _ qs, .ro _ ps, .i all]))
 | _ => False
def Xir : LC where
 len := 80
 T := [(1, (.ptr 1 0)), (22, .rs tyQ), (23, .int .i64), (24, .int .i64)]
 H := [(1, .blk 25 [.rs tyQ, .rs Jc, .int .i64])]
 W := (rgg 2 5 ++ rgg 25 38)
 outs := [⟨.exit 0, [(1, (.ptr 1 0))], [(1, .blk 25 [.rs tyQ, .rs Jc, .int .i64])], (rgg 2 5 ++ rgg 22 41)⟩, ⟨.ret, [(2, (.lit (.int .i64 2))), (3, .int .i64), (4, .int .i64)], [], ([1, 5, 6] ++ rgg 22 41)⟩]
 spec := Xgx
def Xfx [W : InW] (q2 : Ro tyQ) (n i : Int) (qs : Ro tyQ) (ps : Ro Jc) (all : Int) (A : List Ed -> Prop) (K : Nat -> List Ed -> Prop) : Prop :=
 Vif (decide (i < n)) (Need (decide (0 <= i) && decide (i < (↑(q2.xs.length) : Int))) (Need (decide (i.toNat < q2.xs.length)) (Ar .i64 ((↑(ps.xs.length) : Int) - 1) fun z => Pre True (Vif (Sp.out Zb z [[Cl.i (cel q2.xs i.toNat (0 : Nat)).int]]) (K (0+1) [.i i, .i (4 : Int)]) (Pre True (Vif (Sp.out (2 : Int) (4 : Int) [[Cl.i (cel q2.xs i.toNat (0+1)).int]]) (K (0+1) [.i i, .i (7 : Int)]) (Ar .i64 ((cel q2.xs i.toNat (0+1)).int - 1) fun z => Pre True (Vif (Sp.out Zb z [[Cl.i (cel q2.xs i.toNat ((0 : Nat) + 1 + 1)).int]]) (K (0+1) [.i i, .i (4 : Int)]) (Pre True (Vif (Sp.out Zb (20 : Int) [[Cl.i (cel q2.xs i.toNat ((0 : Nat) + 1 + 1 + 1)).int], [Cl.i (cel q2.xs i.toNat ((0 : Nat) + 1 + 1 + 1 + 1)).int]]) (K (0+1) [.i i, .i (7 : Int)]) (Ar .i64 (i + 1) fun z => A [.ro _ q2, .i n, .i z, .ro _ qs, .ro _ ps, .i all]))))))))))) (K 0 [.ro _ qs, .ro _ ps, .i all])
theorem Xn2 (W : InW) (q2 n i qs ps all A K) : Yfh { cxT Try.prog TT T2 1000 50 with fn := 15 } 1000 (Yor Try.prog 15 5) (Yd9 80 [(1, .ptr 1 0), (22, .rs _ q2), (23, .si .i64 n), (24, .si .i64 i)] (rgg 2 5 ++ rgg 25 38)) [(1, .blk 25 [.rs _ qs, .rs _ ps, .si .i64 all])] (Yvi Xir A K) = Xfx q2 n i qs ps all A K := by kernel_rfl
def Xh0 : Prop := ∀ (W : InW) (body a : Code), (Try.prog.funcs[15]?).bind (·.body) = some body -> a ∈ Y1 body -> Yf2 a = 5 -> @Ym8 W Try.prog a (@Yum W Xir)
theorem Xp2 (meas : [InW] -> List Ed -> Nat) (hyp_ : ∀ (W : InW) q2 n i qs ps all K, Xgx [.ro _ q2, .i n, .i i, .ro _ qs, .ro _ ps, .i all] K -> ∀ A : List Ed -> Prop, (∀ e, meas e < meas [.ro _ q2, .i n, .i i, .ro _ qs, .ro _ ps, .i all] -> Xgx e K -> A e) -> Xfx q2 n i qs ps all A K) : Xh0 :=
 LE.okOf' (fun W => @TT W) (fun W => @Xc W) Xa T2 1000 50 (by kernel_rfl) Xir (fun W => @meas W) fun W q2 n i qs ps all K hs =>
  (Xn2 W q2 n i qs ps all (fun e => meas e < meas [.ro _ q2, .i n, .i i, .ro _ qs, .ro _ ps, .i all] /\ Xgx e K) K).mpr (hyp_ W q2 n i qs ps all K hs _ fun e h1 h2 => ⟨h1, h2⟩)
theorem Xs5 : Xh0 := Xp2 (fun e => match e with | [_, _, .i i, .ro _ qs, _, _] => ((qs.xs.length : Int) - i).toNat | _ => 0) fun W q2 n i qs ps all K hs A hA => by
 obtain ⟨⟨h0, h1, rfl, hq⟩, hk⟩ := hs;unfold Xfx;delta Zb;have hm := qs.len;have hm2 := ps.len;simp only [maxLen] at hm hm2;refine vifd (fun e => ?_) fun e => ?_
 ·rw [show qs.xs.length - i.toNat = (qs.xs.length - (i.toNat + 1)) + 1 by omega] at hk;obtain ⟨g1, g2⟩ := Xdf (K1 := fun j e => K 1 [.i j, .i e]) hk;rw [Int.toNat_of_nonneg h0] at g1;have ez : (i + 1).toNat = i.toNat + 1 := by omega
  have hA' : Sp.qErr ps.xs.length qs.xs i.toNat = 0 -> A [.ro _ q2, .i qs.xs.length, .i (i + 1), .ro _ qs, .ro _ ps, .i all] := fun f => hA _ (by show ((qs.xs.length : Int) - (i + 1)).toNat < ((qs.xs.length : Int) - i).toNat; omega) ⟨⟨by omega, by omega, rfl, hq⟩, by rw [ez]; exact g2 f⟩;have bad : ∀ n, Sp.qErr ps.xs.length qs.xs i.toNat = n -> n ≠ 0 -> K 1 [.i i, .i n] := fun n hn h => by rw [<- hn]; exact g1 (by rw [hn]; exact h)
  have eN := Lib.hid (Xhg ps.xs.length qs.xs i.toNat);have i1 := fun h => Sp.inr_iff.1 (show Sp.inr (cel qs.xs i.toNat 1).int 2 4 = true from h);clear g1 g2 hk hA;generalize Sp.qErr ps.xs.length qs.xs i.toNat = E at *;have hl2 : q2.xs.length = qs.xs.length := by rw [hq]
  simp only [Nat.zero_add, Nat.reduceAdd, out1, out2, hq]
  repeat' (first | (with_reducible refine ar64 (by have := i1 (by assumption); omega) ?_) | omega|intro _|with_reducible first|apply vifd|apply vifn|apply vifq|apply Xf|apply Xe|apply vifb|apply vif|apply nedd|apply ned2|apply ned|apply ar64|apply Xb|exact True.intro|assumption|rfl|apply And.intro)
  all_goals first | (refine bad 7 ?_ (by omega); rw [eN.out]; simp_all; done) | (refine bad 4 ?_ (by omega); rw [eN.out]; simp_all; done) | (refine hA' ?_; rw [eN.out]; simp_all; done) | (refine bad 7 ?_ (by omega); rw [eN.out]; simp_all; grind)
 ·rw [show qs.xs.length - i.toNat = 0 by omega] at hk;exact hk.2 rfl
def Xt3 : LE Try.prog := ⟨15, 5, fun W => @Yum W Xir, Xs5⟩
def Xgy [InW] (e : List Ed) (K : Nat -> List Ed -> Prop) : Prop := match e with
 | [.ro _ q2, .i n, .i i, .ro _ qs, .ro _ ps, .i all] => Pre (0 <= i /\ i <= ps.xs.length /\ n = ps.xs.length /\ q2.xs = ps.xs) (Vif (Sp.hasE (Sp.pErr ps.xs) i.toNat (ps.xs.length - i.toNat))
   (K 1 [.i (Sp.idxE (Sp.pErr ps.xs) i.toNat (ps.xs.length - i.toNat)), .i (Sp.pErr ps.xs (Sp.idxE (Sp.pErr ps.xs) i.toNat (ps.xs.length - i.toNat)))]) (K 0 [.ro _ qs, .ro _ ps, .i all]))
 | _ => False
def Xis : LC where
 len := 80
 T := [(1, (.ptr 1 0)), (64, .rs Jc), (65, .int .i64), (66, .int .i64)]
 H := [(1, .blk 25 [.rs tyQ, .rs Jc, .int .i64])]
 W := ([2, 3, 4, 7, 8] ++ rgg 67 9)
 outs := [⟨.exit 3, [(1, (.ptr 1 0))], [(1, .blk 25 [.rs tyQ, .rs Jc, .int .i64])], ([2, 3, 4, 7, 8] ++ rgg 64 12)⟩, ⟨.ret, [(2, (.lit (.int .i64 3))), (3, .int .i64), (4, .int .i64)], [], ([1, 7, 8] ++ rgg 64 12)⟩]
 spec := Xgy
def Xfy [W : InW] (q2 : Ro Jc) (n i : Int) (qs : Ro tyQ) (ps : Ro Jc) (all : Int) (A : List Ed -> Prop) (K : Nat -> List Ed -> Prop) : Prop :=
 Vif (decide (i < n)) (Need (decide (0 <= i) && decide (i < (↑(q2.xs.length) : Int))) (Need (decide (i.toNat < q2.xs.length)) (Pre True (Vif (Sp.out (-240 : Int) (240 : Int) [[Cl.i (cel q2.xs i.toNat (0 : Nat)).int]]) (K (0+1) [.i i, .i (7 : Int)]) (Ar .i64 (i + 1) fun z => A [.ro _ q2, .i n, .i z, .ro _ qs, .ro _ ps, .i all]))))) (K 0 [.ro _ qs, .ro _ ps, .i all])
theorem Xn3 (W : InW) (q2 n i qs ps all A K) : Yfh { cxT Try.prog TT T2 1000 50 with fn := 15 } 1000 (Yor Try.prog 15 17) (Yd9 80 [(1, .ptr 1 0), (64, .rs _ q2), (65, .si .i64 n), (66, .si .i64 i)] ([2, 3, 4, 7, 8] ++ rgg 67 9)) [(1, .blk 25 [.rs _ qs, .rs _ ps, .si .i64 all])] (Yvi Xis A K) = Xfy q2 n i qs ps all A K := by kernel_rfl
def Xh1 : Prop := ∀ (W : InW) (body a : Code), (Try.prog.funcs[15]?).bind (·.body) = some body -> a ∈ Y1 body -> Yf2 a = 17 -> @Ym8 W Try.prog a (@Yum W Xis)
theorem Xp3 (meas : [InW] -> List Ed -> Nat) (hyp_ : ∀ (W : InW) q2 n i qs ps all K, Xgy [.ro _ q2, .i n, .i i, .ro _ qs, .ro _ ps, .i all] K -> ∀ A : List Ed -> Prop, (∀ e, meas e < meas [.ro _ q2, .i n, .i i, .ro _ qs, .ro _ ps, .i all] -> Xgy e K -> A e) -> Xfy q2 n i qs ps all A K) : Xh1 :=
 LE.okOf' (fun W => @TT W) (fun W => @Xc W) Xa T2 1000 50 (by kernel_rfl) Xis (fun W => @meas W) fun W q2 n i qs ps all K hs =>
  (Xn3 W q2 n i qs ps all (fun e => meas e < meas [.ro _ q2, .i n, .i i, .ro _ qs, .ro _ ps, .i all] /\ Xgy e K) K).mpr (hyp_ W q2 n i qs ps all K hs _ fun e h1 h2 => ⟨h1, h2⟩)
theorem Xs6 : Xh1 := Xp3 (fun e => match e with | [_, _, .i i, _, .ro _ ps, _] => ((ps.xs.length : Int) - i).toNat | _ => 0) fun W q2 n i qs ps all K hs A hA => by
 obtain ⟨⟨h0, h1, rfl, hq⟩, hk⟩ := hs;unfold Xfy;have hm := ps.len;simp only [maxLen] at hm;refine vifd (fun e => ?_) fun e => ?_
 ·rw [show ps.xs.length - i.toNat = (ps.xs.length - (i.toNat + 1)) + 1 by omega] at hk;obtain ⟨g1, g2⟩ := Xdf (K1 := fun j e => K 1 [.i j, .i e]) hk;rw [Int.toNat_of_nonneg h0] at g1;have ez : (i + 1).toNat = i.toNat + 1 := by omega
  have hA' : Sp.pErr ps.xs i.toNat = 0 -> A [.ro _ q2, .i ps.xs.length, .i (i + 1), .ro _ qs, .ro _ ps, .i all] := fun f => hA _ (by show ((ps.xs.length : Int) - (i + 1)).toNat < ((ps.xs.length : Int) - i).toNat; omega) ⟨⟨by omega, by omega, rfl, hq⟩, by rw [ez]; exact g2 f⟩;have bad : ∀ n, Sp.pErr ps.xs i.toNat = n -> n ≠ 0 -> K 1 [.i i, .i n] := fun n hn h => by rw [<- hn]; exact g1 (by rw [hn]; exact h)
  have eN := Lib.hid (Xhi ps.xs i.toNat);clear g1 g2 hk hA;generalize Sp.pErr ps.xs i.toNat = E at *;have hl2 : q2.xs.length = ps.xs.length := by rw [hq]
  simp only [Nat.zero_add, Nat.reduceAdd, out1, hq]
  repeat' (first | omega|intro _|with_reducible first|apply vifd|apply vifn|apply vifq|apply Xf|apply Xe|apply vifb|apply vif|apply nedd|apply ned2|apply ned|apply ar64|apply Xb|exact True.intro|assumption|rfl|apply And.intro)
  all_goals first | exact bad _ (by rw [eN.out]; simp_all) (by omega) | exact hA' (by rw [eN.out]; simp_all)
 ·rw [show ps.xs.length - i.toNat = 0 by omega] at hk;exact hk.2 rfl
def Xt4 : LE Try.prog := ⟨15, 17, fun W => @Yum W Xis, Xs6⟩
def T4 : Tab Try.prog := ⟨[Xeh], [Xt3, Xt4], []⟩
def Xc6 [W : InW] (kQ : Ro tyQ) (kP : Ro Jc) (kA : Int) (Q : DS -> Prop) : Prop :=
 Pre True (Vif (Sp.out (1 : Int) (12 : Int) [[Cl.i (↑(kQ.xs.length) : Int)]]) (Q [[Cl.i 1], [Cl.i 0], [Cl.i 3]]) (Pre True (Vif (Sp.out (1 : Int) (4 : Int) [[Cl.i (↑(kP.xs.length) : Int)]]) (Q [[Cl.i 1], [Cl.i 0], [Cl.i 3]]) (Pre (Zb <= 0 /\ Zb <= (↑(kQ.xs.length) : Int) /\ (↑(kQ.xs.length) : Int) = (↑(kQ.xs.length) : Int) /\ kQ.xs = kQ.xs) (Vif (Sp.hasE (Sp.qErr (kP.xs.length) kQ.xs) Za (kQ.xs.length - Int.toNat Zb)) (Q [[Cl.i 2], [Cl.i (↑(Sp.idxE (Sp.qErr (kP.xs.length) kQ.xs) Za (kQ.xs.length - Int.toNat Zb)) : Int)], [Cl.i (Sp.qErr (kP.xs.length) kQ.xs (Sp.idxE (Sp.qErr (kP.xs.length) kQ.xs) Za (kQ.xs.length - Int.toNat Zb)))]]) (Pre (Zb <= 0 /\ Zb <= (↑(kP.xs.length) : Int) /\ (↑(kP.xs.length) : Int) = (↑(kP.xs.length) : Int) /\ kP.xs = kP.xs) (Vif (Sp.hasE (Sp.pErr kP.xs) Za (kP.xs.length - Int.toNat Zb)) (Q [[Cl.i 3], [Cl.i (↑(Sp.idxE (Sp.pErr kP.xs) Za (kP.xs.length - Int.toNat Zb)) : Int)], [Cl.i (Sp.pErr kP.xs (Sp.idxE (Sp.pErr kP.xs) Za (kP.xs.length - Int.toNat Zb)))]]) (Pre True (Vif (Sp.out (-240 : Int) (240 : Int) [[Cl.i kA]]) (Q [[Cl.i 4], [Cl.i 0], [Cl.i 7]]) (Q [[Cl.i 0], [Cl.i 0], [Cl.i 0]]))))))))))
theorem Xjn (W : InW) (kQ kP kA Q) : Yx2 (cxT Try.prog TT T4 1000 50) 1000 15 [.agg [.rs _ kQ, .rs _ kP, .si .i64 kA]] [] 0 (Y2i [(false, [.int .i64]), (false, [.int .i64]), (false, [.int .i64])] Q) (fun _ _ _ _ => Stuck 421) = Xc6 kQ kP kA Q := by kernel_rfl
abbrev Xce : List AT := [.agg [.sl tyQ, .sl Jc, .int .i64]]
theorem Xj7 {pre : DS -> Prop} {res : DS -> DS} (hyp_ : ∀ (W : InW) (kQ : Ro tyQ) (kP : Ro Jc) (kA : Int), pre [[.l kQ.xs, .l kP.xs, .i kA]] -> ∀ Q : DS -> Prop, Q (res [[.l kQ.xs, .l kP.xs, .i kA]]) -> Xc6 kQ kP kA Q) : PureOk Try.prog 15 Xce [(false, [.int .i64]), (false, [.int .i64]), (false, [.int .i64])] pre res :=
 PureOk.of' (fun W => @TT W) (fun W => @Xc W) Xa T4 1000 50 fun W kQ kP kA hp =>
  (Xjn W kQ kP kA (fun o => o = res [[.l kQ.xs, .l kP.xs, .i kA]])).mpr (hyp_ W kQ kP kA hp _ rfl)
theorem Xma : PureOk Try.prog 15 Xce [(false, [.int .i64]), (false, [.int .i64]), (false, [.int .i64])] (fun _ => True) Xb9 :=
 Xj7 fun W qs ps all hp Q h => by
  unfold Xc6;delta Za Zb;obtain ⟨q0, q1, q2, q3, q4⟩ := Xke (Q := fun r => Q [[.i r.1], [.i r.2.1], [.i r.2.2]]) h;clear h;simp only [show Int.toNat 0 = 0 from rfl, Nat.sub_zero, out1]
  repeat' (first | omega|intro _|with_reducible first|apply vifd|apply vifn|apply vifq|apply Xf|apply Xe|apply vifb|apply vif|apply nedd|apply ned2|apply ned|apply ar64|apply Xb|exact True.intro|assumption|rfl|apply And.intro)
  all_goals first | exact q4 (by simp [*]) (by assumption) (by assumption) (by assumption) | exact q3 (by simp [*]) (by assumption) (by assumption) (by assumption) | exact q2 (by simp [*]) (by assumption) (by assumption) | exact q1 (by simp [*]) (by assumption) | exact q0 (by simp [*])
def Xeg : PC Try.prog := ⟨15, Xce, [(false, [.int .i64]), (false, [.int .i64]), (false, [.int .i64])], fun _ => True, Xb9, Xma⟩
abbrev X9 (ds : DS) : DS := [[.b true]]
abbrev Xb3 (ds : DS) : Prop := match ds with | [[.l a], [.l b]] => a = b | _ => False
abbrev Xef (ds : DS) : Prop := match ds with | [[.l a, .l p, .i n], [.l b, .l q, .i m]] => a = b /\ p = q /\ n = m | _ => False
def Xeq [InW] (ts : List Ty) (e : List Ed) (K : Nat -> List Ed -> Prop) : Prop := match e with
 | [.ro _ a, .ro _ b, .i i] => Pre (0 <= i /\ i <= a.xs.length /\ a.xs = b.xs) (K 0 [])
 | _ => False
def Xdk [InW] (e : List Ed) (K : Nat -> List Ed -> Prop) : Prop := Xeq [] e K
def Xco [InW] (e : List Ed) (K : Nat -> List Ed -> Prop) : Prop := Xeq [] e K
def Xcn [InW] (e : List Ed) (K : Nat -> List Ed -> Prop) : Prop := Xeq [] e K
def Xdq : LC where
 len := 26
 T := [(0, .rs Jc), (1, .rs Jc), (5, .int .i64)]
 H := []
 W := ([4] ++ rgg 11 15)
 outs := [⟨.exit 0, [], [], ([0, 1, 4, 5] ++ rgg 11 15)⟩, ⟨.ret, [(4, (.lit (.bool false)))], [], ([0, 1, 5] ++ rgg 11 15)⟩]
 spec := Xdk
def Xeb [W : InW] (a b : Ro Jc) (i : Int) (A : List Ed -> Prop) (K : Nat -> List Ed -> Prop) : Prop :=
 Vif (decide (i < (↑(a.xs.length) : Int))) (Need (decide (0 <= i) && decide (i < (↑(a.xs.length) : Int))) (Need (decide (i.toNat < a.xs.length)) (Need (decide (0 <= i) && decide (i < (↑(b.xs.length) : Int))) (Need (decide (i.toNat < b.xs.length)) (Vif (!decide ((cel a.xs i.toNat (0 : Nat)).int = (cel b.xs i.toNat (0 : Nat)).int)) (K (0+1) []) (Ar .i64 (i + 1) fun z => A [.ro _ a, .ro _ b, .i z])))))) (K 0 [])
theorem Xlg (W : InW) (a b i A K) : Yfh { cxT Try.prog TT T0 1000 50 with fn := 30 } 1000 (Yor Try.prog 30 5) (Yd9 26 [(0, .rs _ a), (1, .rs _ b), (5, .si .i64 i)] ([4] ++ rgg 11 15)) [] (Yvi Xdq A K) = Xeb a b i A K := by kernel_rfl
def Xen : Prop := ∀ (W : InW) (body a : Code), (Try.prog.funcs[30]?).bind (·.body) = some body -> a ∈ Y1 body -> Yf2 a = 5 -> @Ym8 W Try.prog a (@Yum W Xdq)
theorem Xmg (meas : [InW] -> List Ed -> Nat) (hyp_ : ∀ (W : InW) a b i K, Xdk [.ro _ a, .ro _ b, .i i] K -> ∀ A : List Ed -> Prop, (∀ e, meas e < meas [.ro _ a, .ro _ b, .i i] -> Xdk e K -> A e) -> Xeb a b i A K) : Xen :=
 LE.okOf' (fun W => @TT W) (fun W => @Xc W) Xa T0 1000 50 (by kernel_rfl) Xdq (fun W => @meas W) fun W a b i K hs =>
  (Xlg W a b i (fun e => meas e < meas [.ro _ a, .ro _ b, .i i] /\ Xdk e K) K).mpr (hyp_ W a b i K hs _ fun e h1 h2 => ⟨h1, h2⟩)
theorem Xrh : Xen := Xmg (fun e => match e with | [.ro _ a, _, .i i] => ((a.xs.length : Int) - i).toNat | _ => 0) fun W a b i K hs A hA => by
 obtain ⟨⟨h0, h1, h2⟩, hk⟩ := hs; have hm := a.len; simp only [maxLen] at hm; have hA' := hA [.ro _ a, .ro _ b, .i (i + 1)]; have hlt : i < a.xs.length -> ((a.xs.length : Int) - (i + 1)).toNat < ((a.xs.length : Int) - i).toNat := by omega
 have hl : a.xs.length = b.xs.length := by rw [h2]
 unfold Xeb;simp only [Nat.zero_add, Nat.reduceAdd, h2]
 repeat' (first | omega|intro _|with_reducible first|apply vifd|apply vifn|apply vifq|apply Xf|apply Xe|apply vifb|apply vif|apply nedd|apply ned2|apply ned|apply ar64|apply Xb|exact True.intro|assumption|rfl|apply And.intro)
 all_goals first | exact hk | (exact hA' (hlt (by omega)) ⟨⟨by omega, by omega, h2⟩, hk⟩) | simp_all
def Xrp : LE Try.prog := ⟨30, 5, fun W => @Yum W Xdq, Xrh⟩
def Xcr : LC where
 len := 26
 T := [(0, .rs Ja), (1, .rs Ja), (5, .int .i64)]
 H := []
 W := ([4] ++ rgg 11 15)
 outs := [⟨.exit 0, [], [], ([0, 1, 4, 5] ++ rgg 11 15)⟩, ⟨.ret, [(4, (.lit (.bool false)))], [], ([0, 1, 5] ++ rgg 11 15)⟩]
 spec := Xco
def Xc8 [W : InW] (a b : Ro Ja) (i : Int) (A : List Ed -> Prop) (K : Nat -> List Ed -> Prop) : Prop :=
 Vif (decide (i < (↑(a.xs.length) : Int))) (Need (decide (0 <= i) && decide (i < (↑(a.xs.length) : Int))) (Need (decide (i.toNat < a.xs.length)) (Need (decide (0 <= i) && decide (i < (↑(b.xs.length) : Int))) (Need (decide (i.toNat < b.xs.length)) (Vif (!(decide ((cel a.xs i.toNat (0 : Nat)).int = (cel b.xs i.toNat (0 : Nat)).int) && (decide ((cel a.xs i.toNat (0+1)).int = (cel b.xs i.toNat (0+1)).int) && true))) (K (0+1) []) (Ar .i64 (i + 1) fun z => A [.ro _ a, .ro _ b, .i z])))))) (K 0 [])
theorem Xjl (W : InW) (a b i A K) : Yfh { cxT Try.prog TT T0 1000 50 with fn := 31 } 1000 (Yor Try.prog 31 5) (Yd9 26 [(0, .rs _ a), (1, .rs _ b), (5, .si .i64 i)] ([4] ++ rgg 11 15)) [] (Yvi Xcr A K) = Xc8 a b i A K := by kernel_rfl
def Xdd : Prop := ∀ (W : InW) (body a : Code), (Try.prog.funcs[31]?).bind (·.body) = some body -> a ∈ Y1 body -> Yf2 a = 5 -> @Ym8 W Try.prog a (@Yum W Xcr)
theorem Xj5 (meas : [InW] -> List Ed -> Nat) (hyp_ : ∀ (W : InW) a b i K, Xco [.ro _ a, .ro _ b, .i i] K -> ∀ A : List Ed -> Prop, (∀ e, meas e < meas [.ro _ a, .ro _ b, .i i] -> Xco e K -> A e) -> Xc8 a b i A K) : Xdd :=
 LE.okOf' (fun W => @TT W) (fun W => @Xc W) Xa T0 1000 50 (by kernel_rfl) Xcr (fun W => @meas W) fun W a b i K hs =>
  (Xjl W a b i (fun e => meas e < meas [.ro _ a, .ro _ b, .i i] /\ Xco e K) K).mpr (hyp_ W a b i K hs _ fun e h1 h2 => ⟨h1, h2⟩)
theorem Xm2 : Xdd := Xj5 (fun e => match e with | [.ro _ a, _, .i i] => ((a.xs.length : Int) - i).toNat | _ => 0) fun W a b i K hs A hA => by
 obtain ⟨⟨h0, h1, h2⟩, hk⟩ := hs; have hm := a.len; simp only [maxLen] at hm; have hA' := hA [.ro _ a, .ro _ b, .i (i + 1)]; have hlt : i < a.xs.length -> ((a.xs.length : Int) - (i + 1)).toNat < ((a.xs.length : Int) - i).toNat := by omega
 have hl : a.xs.length = b.xs.length := by rw [h2]
 unfold Xc8;simp only [Nat.zero_add, Nat.reduceAdd, h2]
 repeat' (first | omega|intro _|with_reducible first|apply vifd|apply vifn|apply vifq|apply Xf|apply Xe|apply vifb|apply vif|apply nedd|apply ned2|apply ned|apply ar64|apply Xb|exact True.intro|assumption|rfl|apply And.intro)
 all_goals first | exact hk | (exact hA' (hlt (by omega)) ⟨⟨by omega, by omega, h2⟩, hk⟩) | simp_all
def Xm4 : LE Try.prog := ⟨31, 5, fun W => @Yum W Xcr, Xm2⟩
def Xcq : LC where
 len := 26
 T := [(0, .rs Ja), (1, .rs Ja), (5, .int .i64)]
 H := []
 W := ([4] ++ rgg 11 15)
 outs := [⟨.exit 0, [], [], ([0, 1, 4, 5] ++ rgg 11 15)⟩, ⟨.ret, [(4, (.lit (.bool false)))], [], ([0, 1, 5] ++ rgg 11 15)⟩]
 spec := Xcn
def Xc7 [W : InW] (a b : Ro Ja) (i : Int) (A : List Ed -> Prop) (K : Nat -> List Ed -> Prop) : Prop :=
 Vif (decide (i < (↑(a.xs.length) : Int))) (Need (decide (0 <= i) && decide (i < (↑(a.xs.length) : Int))) (Need (decide (i.toNat < a.xs.length)) (Need (decide (0 <= i) && decide (i < (↑(b.xs.length) : Int))) (Need (decide (i.toNat < b.xs.length)) (Vif (!(decide ((cel a.xs i.toNat (0 : Nat)).int = (cel b.xs i.toNat (0 : Nat)).int) && (decide ((cel a.xs i.toNat (0+1)).int = (cel b.xs i.toNat (0+1)).int) && true))) (K (0+1) []) (Ar .i64 (i + 1) fun z => A [.ro _ a, .ro _ b, .i z])))))) (K 0 [])
theorem Xjk (W : InW) (a b i A K) : Yfh { cxT Try.prog TT T0 1000 50 with fn := 33 } 1000 (Yor Try.prog 33 5) (Yd9 26 [(0, .rs _ a), (1, .rs _ b), (5, .si .i64 i)] ([4] ++ rgg 11 15)) [] (Yvi Xcq A K) = Xc7 a b i A K := by kernel_rfl
def Xdc : Prop := ∀ (W : InW) (body a : Code), (Try.prog.funcs[33]?).bind (·.body) = some body -> a ∈ Y1 body -> Yf2 a = 5 -> @Ym8 W Try.prog a (@Yum W Xcq)
theorem Xj4 (meas : [InW] -> List Ed -> Nat) (hyp_ : ∀ (W : InW) a b i K, Xcn [.ro _ a, .ro _ b, .i i] K -> ∀ A : List Ed -> Prop, (∀ e, meas e < meas [.ro _ a, .ro _ b, .i i] -> Xcn e K -> A e) -> Xc7 a b i A K) : Xdc :=
 LE.okOf' (fun W => @TT W) (fun W => @Xc W) Xa T0 1000 50 (by kernel_rfl) Xcq (fun W => @meas W) fun W a b i K hs =>
  (Xjk W a b i (fun e => meas e < meas [.ro _ a, .ro _ b, .i i] /\ Xcn e K) K).mpr (hyp_ W a b i K hs _ fun e h1 h2 => ⟨h1, h2⟩)
theorem Xm1 : Xdc := Xj4 (fun e => match e with | [.ro _ a, _, .i i] => ((a.xs.length : Int) - i).toNat | _ => 0) fun W a b i K hs A hA => by
 obtain ⟨⟨h0, h1, h2⟩, hk⟩ := hs; have hm := a.len; simp only [maxLen] at hm; have hA' := hA [.ro _ a, .ro _ b, .i (i + 1)]; have hlt : i < a.xs.length -> ((a.xs.length : Int) - (i + 1)).toNat < ((a.xs.length : Int) - i).toNat := by omega
 have hl : a.xs.length = b.xs.length := by rw [h2]
 unfold Xc7;simp only [Nat.zero_add, Nat.reduceAdd, h2]
 repeat' (first | omega|intro _|with_reducible first|apply vifd|apply vifn|apply vifq|apply Xf|apply Xe|apply vifb|apply vif|apply nedd|apply ned2|apply ned|apply ar64|apply Xb|exact True.intro|assumption|rfl|apply And.intro)
 all_goals first | exact hk | (exact hA' (hlt (by omega)) ⟨⟨by omega, by omega, h2⟩, hk⟩) | simp_all
def Xm3 : LE Try.prog := ⟨33, 5, fun W => @Yum W Xcq, Xm1⟩
def T5 : Tab Try.prog := ⟨[], [Xrp, Xm4, Xm3], []⟩
def Xff [W : InW] (a b : Ro Jc) (Q : DS -> Prop) : Prop :=
 Vif (!decide ((↑(a.xs.length) : Int) = (↑(b.xs.length) : Int))) (Q [[Cl.b false]]) (Pre ((0 : Int) <= 0 /\ (0 : Int) <= (↑(a.xs.length) : Int) /\ a.xs = b.xs) (Q [[Cl.b true]]))
theorem Xpb (W : InW) (a b Q) : Yx2 (cxT Try.prog TT T5 1000 50) 1000 30 [.rs _ a, .rs _ b] [] 0 (Y2i [(false, [.bool])] Q) (fun _ _ _ _ => Stuck 421) = Xff a b Q := by kernel_rfl
abbrev Xd1 : List AT := [.one (.sl Jc), .one (.sl Jc)]
theorem Xrc {pre : DS -> Prop} {res : DS -> DS} (hyp_ : ∀ (W : InW) (a b : Ro Jc), pre [[.l a.xs], [.l b.xs]] -> ∀ Q : DS -> Prop, Q (res [[.l a.xs], [.l b.xs]]) -> Xff a b Q) : PureOk Try.prog 30 Xd1 [(false, [.bool])] pre res :=
 PureOk.of' (fun W => @TT W) (fun W => @Xc W) Xa T5 1000 50 fun W a b hp =>
  (Xpb W a b (fun o => o = res [[.l a.xs], [.l b.xs]])).mpr (hyp_ W a b hp _ rfl)
theorem Xsi : PureOk Try.prog 30 Xd1 [(false, [.bool])] Xb3 X9 :=
 Xrc fun W a b hp Q h => by
  have hp : a.xs = b.xs := hp;have hl : a.xs.length = b.xs.length := by rw [hp]
  unfold Xff;simp only [hl, show Int.toNat 0 = 0 from rfl]
  repeat' (first | omega|intro _|with_reducible first|apply vifd|apply vifn|apply vifq|apply Xf|apply Xe|apply vifb|apply vif|apply nedd|apply ned2|apply ned|apply ar64|apply Xb|exact True.intro|assumption|rfl|apply And.intro)
  all_goals first | exact h | exact ⟨⟨by omega, by omega, hp⟩, h⟩ | simp_all
def Xe0 : PC Try.prog := ⟨30, Xd1, [(false, [.bool])], Xb3, X9, Xsi⟩
def Xd6 [W : InW] (a b : Ro Ja) (Q : DS -> Prop) : Prop :=
 Vif (!decide ((↑(a.xs.length) : Int) = (↑(b.xs.length) : Int))) (Q [[Cl.b false]]) (Pre ((0 : Int) <= 0 /\ (0 : Int) <= (↑(a.xs.length) : Int) /\ a.xs = b.xs) (Q [[Cl.b true]]))
theorem Xl0 (W : InW) (a b Q) : Yx2 (cxT Try.prog TT T5 1000 50) 1000 31 [.rs _ a, .rs _ b] [] 0 (Y2i [(false, [.bool])] Q) (fun _ _ _ _ => Stuck 421) = Xd6 a b Q := by kernel_rfl
abbrev Xc3 : List AT := [.one (.sl Ja), .one (.sl Ja)]
theorem Xm0 {pre : DS -> Prop} {res : DS -> DS} (hyp_ : ∀ (W : InW) (a b : Ro Ja), pre [[.l a.xs], [.l b.xs]] -> ∀ Q : DS -> Prop, Q (res [[.l a.xs], [.l b.xs]]) -> Xd6 a b Q) : PureOk Try.prog 31 Xc3 [(false, [.bool])] pre res :=
 PureOk.of' (fun W => @TT W) (fun W => @Xc W) Xa T5 1000 50 fun W a b hp =>
  (Xl0 W a b (fun o => o = res [[.l a.xs], [.l b.xs]])).mpr (hyp_ W a b hp _ rfl)
theorem Xql : PureOk Try.prog 31 Xc3 [(false, [.bool])] Xb3 X9 :=
 Xm0 fun W a b hp Q h => by
  have hp : a.xs = b.xs := hp;have hl : a.xs.length = b.xs.length := by rw [hp]
  unfold Xd6;simp only [hl, show Int.toNat 0 = 0 from rfl]
  repeat' (first | omega|intro _|with_reducible first|apply vifd|apply vifn|apply vifq|apply Xf|apply Xe|apply vifb|apply vif|apply nedd|apply ned2|apply ned|apply ar64|apply Xb|exact True.intro|assumption|rfl|apply And.intro)
  all_goals first | exact h | exact ⟨⟨by omega, by omega, hp⟩, h⟩ | simp_all
def Xl8 : PC Try.prog := ⟨31, Xc3, [(false, [.bool])], Xb3, X9, Xql⟩
def Xd3 [W : InW] (a b : Ro Ja) (Q : DS -> Prop) : Prop :=
 Vif (!decide ((↑(a.xs.length) : Int) = (↑(b.xs.length) : Int))) (Q [[Cl.b false]]) (Pre ((0 : Int) <= 0 /\ (0 : Int) <= (↑(a.xs.length) : Int) /\ a.xs = b.xs) (Q [[Cl.b true]]))
theorem Xlk (W : InW) (a b Q) : Yx2 (cxT Try.prog TT T5 1000 50) 1000 33 [.rs _ a, .rs _ b] [] 0 (Y2i [(false, [.bool])] Q) (fun _ _ _ _ => Stuck 421) = Xd3 a b Q := by kernel_rfl
abbrev Xc0 : List AT := [.one (.sl Ja), .one (.sl Ja)]
theorem Xmk {pre : DS -> Prop} {res : DS -> DS} (hyp_ : ∀ (W : InW) (a b : Ro Ja), pre [[.l a.xs], [.l b.xs]] -> ∀ Q : DS -> Prop, Q (res [[.l a.xs], [.l b.xs]]) -> Xd3 a b Q) : PureOk Try.prog 33 Xc0 [(false, [.bool])] pre res :=
 PureOk.of' (fun W => @TT W) (fun W => @Xc W) Xa T5 1000 50 fun W a b hp =>
  (Xlk W a b (fun o => o = res [[.l a.xs], [.l b.xs]])).mpr (hyp_ W a b hp _ rfl)
theorem Xpj : PureOk Try.prog 33 Xc0 [(false, [.bool])] Xb3 X9 :=
 Xmk fun W a b hp Q h => by
  have hp : a.xs = b.xs := hp;have hl : a.xs.length = b.xs.length := by rw [hp]
  unfold Xd3;simp only [hl, show Int.toNat 0 = 0 from rfl]
  repeat' (first | omega|intro _|with_reducible first|apply vifd|apply vifn|apply vifq|apply Xf|apply Xe|apply vifb|apply vif|apply nedd|apply ned2|apply ned|apply ar64|apply Xb|exact True.intro|assumption|rfl|apply And.intro)
  all_goals first | exact h | exact ⟨⟨by omega, by omega, hp⟩, h⟩ | simp_all
def Xl5 : PC Try.prog := ⟨33, Xc0, [(false, [.bool])], Xb3, X9, Xpj⟩
def Xdj [InW] (e : List Ed) (K : Nat -> List Ed -> Prop) : Prop := match e with
 | [.i i, .ro _ qs, .ro _ ps, .i all, .ro _ qt, .ro _ pt, .i alt] => Pre (0 <= i /\ i <= qs.xs.length /\ qs.xs = qt.xs) (K 0 [])
 | _ => False
def T6 : Tab Try.prog := ⟨[Xe0], [], []⟩
def Xdp : LC where
 len := 46
 T := [(2, (.ptr 1 0)), (3, (.ptr 4 0)), (5, .int .i64)]
 H := [(1, .blk 25 [.rs Iv5, .rs Jc, .int .i64]), (4, .blk 25 [.rs Iv5, .rs Jc, .int .i64])]
 W := ([4] ++ rgg 28 18)
 outs := [⟨.exit 0, [], [], (rgg 2 4 ++ rgg 28 18)⟩, ⟨.ret, [(4, (.lit (.bool false)))], [], ([2, 3, 5] ++ rgg 28 18)⟩]
 spec := Xdj
def Xea [W : InW] (i : Int) (qs : Ro Iv5) (ps : Ro Jc) (all : Int) (qt : Ro Iv5) (pt : Ro Jc) (alt : Int) (A : List Ed -> Prop) (K : Nat -> List Ed -> Prop) : Prop :=
 Vif (decide (i < (↑(qs.xs.length) : Int))) (Need (decide (0 <= i) && decide (i < (↑(qs.xs.length) : Int))) (Need (decide (i.toNat < qs.xs.length)) (Need (decide (0 <= i) && decide (i < (↑(qt.xs.length) : Int))) (Need (decide (i.toNat < qt.xs.length)) (Vif (!(decide ((cel qs.xs i.toNat (0 : Nat)).int = (cel qt.xs i.toNat (0 : Nat)).int) && (decide ((cel qs.xs i.toNat (0+1)).int = (cel qt.xs i.toNat (0+1)).int) && (decide ((cel qs.xs i.toNat ((0 : Nat) + 1 + 1)).int = (cel qt.xs i.toNat ((0 : Nat) + 1 + 1)).int) && (decide ((cel qs.xs i.toNat ((0 : Nat) + 1 + 1 + 1)).int = (cel qt.xs i.toNat ((0 : Nat) + 1 + 1 + 1)).int) && (decide ((cel qs.xs i.toNat ((0 : Nat) + 1 + 1 + 1 + 1)).int = (cel qt.xs i.toNat ((0 : Nat) + 1 + 1 + 1 + 1)).int) && true)))))) (K (0+1) []) (Ar .i64 (i + 1) fun z => A [.i z, .ro _ qs, .ro _ ps, .i all, .ro _ qt, .ro _ pt, .i alt])))))) (K 0 [])
theorem Xlf (W : InW) (i qs ps all qt pt alt A K) : Yfh { cxT Try.prog TT T6 1000 50 with fn := 32 } 1000 (Yor Try.prog 32 5) (Yd9 46 [(2, .ptr 1 0), (3, .ptr 4 0), (5, .si .i64 i)] ([4] ++ rgg 28 18)) [(1, .blk 25 [.rs _ qs, .rs _ ps, .si .i64 all]), (4, .blk 25 [.rs _ qt, .rs _ pt, .si .i64 alt])] (Yvi Xdp A K) = Xea i qs ps all qt pt alt A K := by kernel_rfl
def Xem : Prop := ∀ (W : InW) (body a : Code), (Try.prog.funcs[32]?).bind (·.body) = some body -> a ∈ Y1 body -> Yf2 a = 5 -> @Ym8 W Try.prog a (@Yum W Xdp)
theorem Xmf (meas : [InW] -> List Ed -> Nat) (hyp_ : ∀ (W : InW) i qs ps all qt pt alt K, Xdj [.i i, .ro _ qs, .ro _ ps, .i all, .ro _ qt, .ro _ pt, .i alt] K -> ∀ A : List Ed -> Prop, (∀ e, meas e < meas [.i i, .ro _ qs, .ro _ ps, .i all, .ro _ qt, .ro _ pt, .i alt] -> Xdj e K -> A e) -> Xea i qs ps all qt pt alt A K) : Xem :=
 LE.okOf' (fun W => @TT W) (fun W => @Xc W) Xa T6 1000 50 (by kernel_rfl) Xdp (fun W => @meas W) fun W i qs ps all qt pt alt K hs =>
  (Xlf W i qs ps all qt pt alt (fun e => meas e < meas [.i i, .ro _ qs, .ro _ ps, .i all, .ro _ qt, .ro _ pt, .i alt] /\ Xdj e K) K).mpr (hyp_ W i qs ps all qt pt alt K hs _ fun e h1 h2 => ⟨h1, h2⟩)
theorem Xrg : Xem := Xmf (fun e => match e with | [.i i, .ro _ a, _, _, _, _, _] => ((a.xs.length : Int) - i).toNat | _ => 0) fun W i a ps all b pt alt K hs A hA => by
 obtain ⟨⟨h0, h1, h2⟩, hk⟩ := hs;have hm := a.len;simp only [maxLen] at hm;have hA' := hA [.i (i + 1), .ro _ a, .ro _ ps, .i all, .ro _ b, .ro _ pt, .i alt];have hlt : i < a.xs.length -> ((a.xs.length : Int) - (i + 1)).toNat < ((a.xs.length : Int) - i).toNat := by omega
 have hl : a.xs.length = b.xs.length := by rw [h2]
 unfold Xea;simp only [Nat.zero_add, Nat.reduceAdd, h2]
 repeat' (first | omega|intro _|with_reducible first|apply vifd|apply vifn|apply vifq|apply Xf|apply Xe|apply vifb|apply vif|apply nedd|apply ned2|apply ned|apply ar64|apply Xb|exact True.intro|assumption|rfl|apply And.intro)
 all_goals first | exact hk | (exact hA' (hlt (by omega)) ⟨⟨by omega, by omega, h2⟩, hk⟩) | simp_all
def Xro : LE Try.prog := ⟨32, 5, fun W => @Yum W Xdp, Xrg⟩
def T7 : Tab Try.prog := ⟨[Xe0], [Xro], []⟩
def Xfe [W : InW] (a_Qs : Ro Iv5) (a_Ps : Ro Jc) (a_All : Int) (b_Qs : Ro Iv5) (b_Ps : Ro Jc) (b_All : Int) (Q : DS -> Prop) : Prop :=
 Vif (!decide ((↑(a_Qs.xs.length) : Int) = (↑(b_Qs.xs.length) : Int))) (Q [[Cl.b false]]) (Pre (a_Ps.xs = b_Ps.xs) (Vif (!true) (Q [[Cl.b false]]) (Vif (!decide (a_All = b_All)) (Q [[Cl.b false]]) (Pre ((0 : Int) <= 0 /\ (0 : Int) <= (↑(a_Qs.xs.length) : Int) /\ a_Qs.xs = b_Qs.xs) (Q [[Cl.b true]])))))
theorem Xpa (W : InW) (a_Qs a_Ps a_All b_Qs b_Ps b_All Q) : Yx2 (cxT Try.prog TT T7 1000 50) 1000 32 [.agg [.rs _ a_Qs, .rs _ a_Ps, .si .i64 a_All], .agg [.rs _ b_Qs, .rs _ b_Ps, .si .i64 b_All]] [] 0 (Y2i [(false, [.bool])] Q) (fun _ _ _ _ => Stuck 421) = Xfe a_Qs a_Ps a_All b_Qs b_Ps b_All Q := by kernel_rfl
abbrev Xd0 : List AT := [.agg [.sl Iv5, .sl Jc, .int .i64], .agg [.sl Iv5, .sl Jc, .int .i64]]
theorem Xrb {pre : DS -> Prop} {res : DS -> DS} (hyp_ : ∀ (W : InW) (a_Qs : Ro Iv5) (a_Ps : Ro Jc) (a_All : Int) (b_Qs : Ro Iv5) (b_Ps : Ro Jc) (b_All : Int), pre [[.l a_Qs.xs, .l a_Ps.xs, .i a_All], [.l b_Qs.xs, .l b_Ps.xs, .i b_All]] -> ∀ Q : DS -> Prop, Q (res [[.l a_Qs.xs, .l a_Ps.xs, .i a_All], [.l b_Qs.xs, .l b_Ps.xs, .i b_All]]) -> Xfe a_Qs a_Ps a_All b_Qs b_Ps b_All Q) : PureOk Try.prog 32 Xd0 [(false, [.bool])] pre res :=
 PureOk.of' (fun W => @TT W) (fun W => @Xc W) Xa T7 1000 50 fun W a_Qs a_Ps a_All b_Qs b_Ps b_All hp =>
  (Xpa W a_Qs a_Ps a_All b_Qs b_Ps b_All (fun o => o = res [[.l a_Qs.xs, .l a_Ps.xs, .i a_All], [.l b_Qs.xs, .l b_Ps.xs, .i b_All]])).mpr (hyp_ W a_Qs a_Ps a_All b_Qs b_Ps b_All hp _ rfl)
theorem Xsh : PureOk Try.prog 32 Xd0 [(false, [.bool])] Xef X9 :=
 Xrb fun W a pa na b pb nb hp Q h => by
  obtain ⟨h1, h2, h3⟩ : a.xs = b.xs /\ pa.xs = pb.xs /\ na = nb := hp;have hl : a.xs.length = b.xs.length := by rw [h1]
  unfold Xfe;subst h3;simp only [hl, show Int.toNat 0 = 0 from rfl]
  repeat' (first | omega|intro _|with_reducible first|apply vifd|apply vifn|apply vifq|apply Xf|apply Xe|apply vifb|apply vif|apply nedd|apply ned2|apply ned|apply ar64|apply Xb|exact True.intro|assumption|rfl|apply And.intro)
  all_goals first | exact h | exact ⟨⟨by omega, by omega, h1⟩, h⟩ | simp_all
def Xph : PC Try.prog := ⟨32, Xd0, [(false, [.bool])], Xef, X9, Xsh⟩
namespace Sp
def bx (d : Dt) (j : Nat) : Int := (cel d j 0).int
def ansD (d : Dt) : Nat -> Nat -> Int -> Bool
 | _, 0, _ => false
 | i, n + 1, a => if bx d i = 1 then (if 0 <= a then true else ansD d (i + 1) n i) else ansD d (i + 1) n a
def ansL (d : Dt) : Nat -> Nat -> Int -> Int
 | _, 0, a => a
 | i, n + 1, a => if bx d i = 1 then ansL d (i + 1) n i else ansL d (i + 1) n a
def ansOf (d : Dt) : Int := if ansD d 0 d.length (-1) then -1 else ansL d 0 d.length (-1)
def ptsV (right pts minus : Int) (d : Dt) : Int := if ansOf d = right then pts else if 0 <= ansOf d then 0 - minus else 0
def num (xs : Dt) (i : Nat) : Int := (cel xs i 0).int
def total (xs : Dt) : Int := sumF (num xs) 0 xs.length 0
end Sp
def Xg8 [InW] (e : List Ed) (K : Nat -> List Ed -> Prop) : Prop := match e with
 | [.ro _ d, .i a, .i i] => Pre (0 <= i /\ i <= d.xs.length /\ -1 <= a) (Vif (Sp.ansD d.xs i.toNat (d.xs.length - i.toNat) a) (K 1 []) (K 0 [.i (Sp.ansL d.xs i.toNat (d.xs.length - i.toNat) a)]))
 | _ => False
def Xi0 : LC where
 len := 27
 T := [(0, .rs Jc), (3, .int .i64), (4, .int .i64)]
 H := []
 W := ([2] ++ rgg 5 21)
 outs := [⟨.exit 0, [(3, .int .i64)], [], ([0, 2] ++ rgg 4 22)⟩, ⟨.ret, [(2, (.lit (.int .i64 (-1))))], [], ([0] ++ rgg 3 23)⟩]
 spec := Xg8
def Zc [W : InW] (d : Ro Jc) (a i : Int) (A : List Ed -> Prop) := Need (decide (0 <= i) && decide (i < (↑(d.xs.length) : Int))) (Need (decide (i.toNat < d.xs.length)) (Vif (decide ((cel d.xs i.toNat (0 : Nat)).int = 1)) (Ar .i64 (i + 1) fun z => A [.ro _ d, .i i, .i z]) (Ar .i64 (i + 1) fun z => A [.ro _ d, .i a, .i z])))
def Xf7 [W : InW] (d : Ro Jc) (a i : Int) (A : List Ed -> Prop) (K : Nat -> List Ed -> Prop) : Prop :=
 Vif (decide (i < (↑(d.xs.length) : Int))) (Need (decide (0 <= i) && decide (i < (↑(d.xs.length) : Int))) (Need (decide (i.toNat < d.xs.length)) (Vif (decide ((cel d.xs i.toNat (0 : Nat)).int = 1)) (Vif (decide (0 <= a)) (K (0+1) []) (Zc d a i A)) (Zc d a i A)))) (K 0 [.i a])
theorem Xoc (W : InW) (d a i A K) : Yfh { cxT Try.prog TT T0 1000 50 with fn := 8 } 1000 (Yor Try.prog 8 4) (Yd9 27 [(0, .rs _ d), (3, .si .i64 a), (4, .si .i64 i)] ([2] ++ rgg 5 21)) [] (Yvi Xi0 A K) = Xf7 d a i A K := by kernel_rfl
def Xh9 : Prop := ∀ (W : InW) (body a : Code), (Try.prog.funcs[8]?).bind (·.body) = some body -> a ∈ Y1 body -> Yf2 a = 4 -> @Ym8 W Try.prog a (@Yum W Xi0)
theorem Xqc (meas : [InW] -> List Ed -> Nat) (hyp_ : ∀ (W : InW) d a i K, Xg8 [.ro _ d, .i a, .i i] K -> ∀ A : List Ed -> Prop, (∀ e, meas e < meas [.ro _ d, .i a, .i i] -> Xg8 e K -> A e) -> Xf7 d a i A K) : Xh9 :=
 LE.okOf' (fun W => @TT W) (fun W => @Xc W) Xa T0 1000 50 (by kernel_rfl) Xi0 (fun W => @meas W) fun W d a i K hs =>
  (Xoc W d a i (fun e => meas e < meas [.ro _ d, .i a, .i i] /\ Xg8 e K) K).mpr (hyp_ W d a i K hs _ fun e h1 h2 => ⟨h1, h2⟩)
theorem Xtf : Xh9 := Xqc (fun e => match e with | [.ro _ d, _, .i i] => ((d.xs.length : Int) - i).toNat | _ => 0) fun W d a i K hs A hA => by
 obtain ⟨⟨h0, h1, h2⟩, hk⟩ := hs;have hm := d.len;simp only [maxLen] at hm;unfold Xf7;delta Zc;refine vifd (fun e => ?_) fun e => ?_
 ·rw [show d.xs.length - i.toNat = (d.xs.length - (i.toNat + 1)) + 1 by omega] at hk;have ez : (i + 1).toNat = i.toNat + 1 := by omega
  have ei : ((i.toNat : Nat) : Int) = i := Int.toNat_of_nonneg h0;simp only [Sp.ansD, Sp.ansL, Sp.bx, ei] at hk;have hA' : ∀ b, -1 <= b -> Vif (Sp.ansD d.xs (i.toNat + 1) (d.xs.length - (i.toNat + 1)) b) (K 1 []) (K 0 [.i (Sp.ansL d.xs (i.toNat + 1) (d.xs.length - (i.toNat + 1)) b)]) -> A [.ro _ d, .i b, .i (i + 1)] := fun b hb f => hA _ (by show ((d.xs.length : Int) - (i + 1)).toNat < ((d.xs.length : Int) - i).toNat; omega) ⟨⟨by omega, by omega, hb⟩, by rw [ez]; exact f⟩;clear hA;simp only [Nat.zero_add, Nat.reduceAdd]
  by_cases c1 : (cel d.xs i.toNat 0).int = 1
  ·simp only [c1, if_true] at hk ⊢
   by_cases c2 : 0 <= a
   ·simp only [c2, if_true] at hk
    repeat' (first | omega|intro _|with_reducible first|apply vifd|apply vifn|apply vifq|apply Xf|apply Xe|apply vifb|apply vif|apply nedd|apply ned2|apply ned|apply ar64|apply Xb|exact True.intro|assumption|rfl|apply And.intro)
    all_goals first | exact hk.1 rfl | contradiction
   ·simp only [c2, if_false] at hk
    repeat' (first | omega|intro _|with_reducible first|apply vifd|apply vifn|apply vifq|apply Xf|apply Xe|apply vifb|apply vif|apply nedd|apply ned2|apply ned|apply ar64|apply Xb|exact True.intro|assumption|rfl|apply And.intro)
    all_goals first | contradiction | exact hA' _ (by omega) hk
  ·simp only [c1, if_false] at hk
   repeat' (first | omega|intro _|with_reducible first|apply vifd|apply vifn|apply vifq|apply Xf|apply Xe|apply vifb|apply vif|apply nedd|apply ned2|apply ned|apply ar64|apply Xb|exact True.intro|assumption|rfl|apply And.intro)
   all_goals first | contradiction | exact hA' _ (by omega) hk
 ·rw [show d.xs.length - i.toNat = 0 by omega] at hk;exact hk.2 rfl
def Xuc : LE Try.prog := ⟨8, 4, fun W => @Yum W Xi0, Xtf⟩
def T8 : Tab Try.prog := ⟨[], [Xuc], []⟩
def Xkq [W : InW] (d : Ro Jc) (Q : DS -> Prop) : Prop :=
 Pre ((0 : Int) <= 0 /\ (0 : Int) <= (↑(d.xs.length) : Int) /\ (-1 : Int) <= (-1 : Int)) (Vif (Sp.ansD d.xs (Int.toNat (0 : Int)) (d.xs.length - Int.toNat (0 : Int)) (-1 : Int)) (Q [[Cl.i (-1 : Int)]]) (Q [[Cl.i (Sp.ansL d.xs (Int.toNat (0 : Int)) (d.xs.length - Int.toNat (0 : Int)) (-1 : Int))]]))
theorem Xr0 (W : InW) (d Q) : Yx2 (cxT Try.prog TT T8 1000 50) 1000 8 [.rs _ d] [] 0 (Y2i [(false, [.int .i64])] Q) (fun _ _ _ _ => Stuck 421) = Xkq d Q := by kernel_rfl
abbrev Xe6 : List AT := [.one (.sl Jc)]
theorem Xsn {pre : DS -> Prop} {res : DS -> DS} (hyp_ : ∀ (W : InW) (d : Ro Jc), pre [[.l d.xs]] -> ∀ Q : DS -> Prop, Q (res [[.l d.xs]]) -> Xkq d Q) : PureOk Try.prog 8 Xe6 [(false, [.int .i64])] pre res :=
 PureOk.of' (fun W => @TT W) (fun W => @Xc W) Xa T8 1000 50 fun W d hp =>
  (Xr0 W d (fun o => o = res [[.l d.xs]])).mpr (hyp_ W d hp _ rfl)
abbrev Xez (ds : DS) : DS := match ds with | [[.l d]] => [[.i (Sp.ansOf d)]] | _ => []
theorem okans : PureOk Try.prog 8 Xe6 [(false, [.int .i64])] (fun _ => True) Xez :=
 Xsn fun W d hp Q h => by
  unfold Xkq;simp only [show Int.toNat 0 = 0 from rfl, Nat.sub_zero];simp only [Xez, Sp.ansOf] at h;refine ⟨⟨by omega, by omega, by omega⟩, vif (fun e => ?_) fun e => ?_⟩
  ·rw [if_pos e] at h; exact h
  ·rw [if_neg (by simp [e])] at h; exact h
def Xr4 : PC Try.prog := ⟨8, Xe6, [(false, [.int .i64])], fun _ => True, Xez, okans⟩
namespace Sp
def row (sh : Dt) (i : Nat) : Dt := (cel sh i 0).lst
def unsRow (d : Dt) (i : Int) : Nat -> Nat -> Dt
 | _, 0 => []
 | j, n + 1 => (if bx d j = 2 then [[.i i, .i j]] else []) ++ unsRow d i (j + 1) n
def unsAll (sh : Dt) : Nat -> Nat -> Dt
 | _, 0 => []
 | i, n + 1 => unsRow (row sh i) i 0 (row sh i).length ++ unsAll sh (i + 1) n
def uns (sh : Dt) : Dt := unsAll sh 0 sh.length
def Few (sh : Dt) : Prop := sh.length <= 12 /\ ∀ i, i < sh.length -> (row sh i).length <= 4
theorem unsRow_len (d : Dt) (i : Int) : ∀ n j, (unsRow d i j n).length <= n
 | 0, _ => Nat.le_refl _
 | n + 1, j => by
  have := unsRow_len d i n (j + 1);simp only [unsRow, List.length_append]
  split <;> simp <;> omega
end Sp
def Xgl [InW] (e : List Ed) (K : Nat -> List Ed -> Prop) : Prop := match e with
 | [.ro _ sh, .i i, .i j, .l acc] => Pre (0 <= i /\ i < sh.xs.length /\ 0 <= j /\ j <= (Sp.row sh.xs i.toNat).length /\ (acc.length : Int) <= 4 * i + j /\ Sp.Few sh.xs) (K 0 [.ro _ sh, .i i, .l (acc ++ Sp.unsRow (Sp.row sh.xs i.toNat) i j.toNat ((Sp.row sh.xs i.toNat).length - j.toNat))])
 | _ => False
def Xif : LC where
 len := 36
 T := [(0, .rs Jb), (3, (.row 3)), (4, .int .i64), (5, .int .i64)]
 H := [(3, .arr 74 Ja)]
 W := (rgg 12 23)
 outs := [⟨.exit 2, [(0, .rs Jb), (3, (.row 6)), (4, .int .i64)], [(6, .arr 74 Ja)], ([5] ++ rgg 12 23)⟩]
 spec := Xgl
def Xfl [W : InW] (sh : Ro Jb) (i j : Int) (acc : Dt) (A : List Ed -> Prop) (K : Nat -> List Ed -> Prop) : Prop :=
 Need (decide (0 <= i) && decide (i < (↑(sh.xs.length) : Int))) (Need (decide (i.toNat < sh.xs.length)) (Vif (decide (j < (↑(List.length (cel sh.xs i.toNat (0 : Nat)).lst) : Int))) (Need (decide (0 <= i) && decide (i < (↑(sh.xs.length) : Int))) (Need (decide (i.toNat < sh.xs.length)) (Need (decide (0 <= j) && decide (j < (↑(List.length (cel sh.xs i.toNat (0 : Nat)).lst) : Int))) (Need (decide (j.toNat < List.length (cel sh.xs i.toNat (0 : Nat)).lst)) (Vif (decide ((cel (cel sh.xs i.toNat (0 : Nat)).lst j.toNat (0 : Nat)).int = 2)) (Need (decide ((acc.length + [[Cl.i i, Cl.i j]].length) * 16 <= 140737488355328)) (Ar .i64 (j + 1) fun z => A [.ro [Ty.sl [Ty.int IntKind.i64]] sh, .i i, .i z, .l (acc ++ [[Cl.i i, Cl.i j]])])) (Ar .i64 (j + 1) fun z => A [.ro [Ty.sl [Ty.int IntKind.i64]] sh, .i i, .i z, .l acc])))))) (K 0 [.ro [Ty.sl [Ty.int IntKind.i64]] sh, .i i, .l acc])))
theorem Xnq (W : InW) (sh i j acc A K) : Yfh { cxT Try.prog TT T0 1000 50 with fn := 36 } 1000 (Yor Try.prog 36 7) (Yd9 36 [(0, .rs _ sh), (3, .rw 3), (4, .si .i64 i), (5, .si .i64 j)] (rgg 12 23)) [(3, .arr 74 Ja acc)] (Yvi Xif A K) = Xfl sh i j acc A K := by kernel_rfl
def Xho : Prop := ∀ (W : InW) (body a : Code), (Try.prog.funcs[36]?).bind (·.body) = some body -> a ∈ Y1 body -> Yf2 a = 7 -> @Ym8 W Try.prog a (@Yum W Xif)
theorem Xpq (meas : [InW] -> List Ed -> Nat) (hyp_ : ∀ (W : InW) sh i j acc K, Xgl [.ro _ sh, .i i, .i j, .l acc] K -> ∀ A : List Ed -> Prop, (∀ e, meas e < meas [.ro _ sh, .i i, .i j, .l acc] -> Xgl e K -> A e) -> Xfl sh i j acc A K) : Xho :=
 LE.okOf' (fun W => @TT W) (fun W => @Xc W) Xa T0 1000 50 (by kernel_rfl) Xif (fun W => @meas W) fun W sh i j acc K hs =>
  (Xnq W sh i j acc (fun e => meas e < meas [.ro _ sh, .i i, .i j, .l acc] /\ Xgl e K) K).mpr (hyp_ W sh i j acc K hs _ fun e h1 h2 => ⟨h1, h2⟩)
theorem Xst : Xho := Xpq (fun e => match e with | [.ro _ sh, .i i, .i j, _] => (((Sp.row sh.xs i.toNat).length : Int) - j).toNat | _ => 0) fun W sh i j acc K hs A hA => by
 obtain ⟨⟨h0, h1, h2, h3, h4, h5⟩, hk⟩ := hs;have hm := sh.len;have hrow := h5.2 i.toNat (by omega);have h51 := h5.1;simp only [maxLen] at hm;unfold Xfl;simp only [List.length_cons, List.length_nil, show (cel sh.xs i.toNat 0).lst = Sp.row sh.xs i.toNat from rfl];have ej : ((j.toNat : Nat) : Int) = j := Int.toNat_of_nonneg h2;have ez : (j + 1).toNat = j.toNat + 1 := by omega
 have hlt : j < (Sp.row sh.xs i.toNat).length -> (((Sp.row sh.xs i.toNat).length : Int) - (j + 1)).toNat < (((Sp.row sh.xs i.toNat).length : Int) - j).toNat := by omega
 by_cases hj : j < (Sp.row sh.xs i.toNat).length
 ·rw [show (Sp.row sh.xs i.toNat).length - j.toNat = ((Sp.row sh.xs i.toNat).length - (j.toNat + 1)) + 1 by omega] at hk;simp only [Sp.unsRow, Sp.bx, ej] at hk
  by_cases c : (cel (Sp.row sh.xs i.toNat) j.toNat 0).int = 2
  ·simp only [c, if_true] at hk;rw [<- List.append_assoc] at hk;have hA' := hA [.ro _ sh, .i i, .i (j + 1), .l (acc ++ [[.i i, .i j]])] (hlt hj) ⟨⟨h0, h1, by omega, by omega, by simp; omega, h5⟩, by rw [ez]; exact hk⟩;clear hA hk
   repeat' (first | omega|intro _|with_reducible first|apply vifd|apply vifn|apply vifq|apply Xf|apply Xe|apply vifb|apply vif|apply nedd|apply ned2|apply ned|apply ar64|apply Xb|exact True.intro|assumption|rfl|apply And.intro)
   all_goals first | contradiction | exact hA' | (simp; omega)
  ·simp only [c, if_false, List.nil_append] at hk;have hA' := hA [.ro _ sh, .i i, .i (j + 1), .l acc] (hlt hj) ⟨⟨h0, h1, by omega, by omega, by omega, h5⟩, by rw [ez]; exact hk⟩;clear hA hk
   repeat' (first | omega|intro _|with_reducible first|apply vifd|apply vifn|apply vifq|apply Xf|apply Xe|apply vifb|apply vif|apply nedd|apply ned2|apply ned|apply ar64|apply Xb|exact True.intro|assumption|rfl|apply And.intro)
   all_goals first | contradiction | exact hA'
 ·rw [show (Sp.row sh.xs i.toNat).length - j.toNat = 0 by omega] at hk;simp only [Sp.unsRow, List.append_nil] at hk;clear hA
  repeat' (first | omega|intro _|with_reducible first|apply vifd|apply vifn|apply vifq|apply Xf|apply Xe|apply vifb|apply vif|apply nedd|apply ned2|apply ned|apply ar64|apply Xb|exact True.intro|assumption|rfl|apply And.intro)
  all_goals exact hk
def Xts : LE Try.prog := ⟨36, 7, fun W => @Yum W Xif, Xst⟩
def T11 : Tab Try.prog := ⟨[], [Xts], []⟩
def Xgk [InW] (e : List Ed) (K : Nat -> List Ed -> Prop) : Prop := match e with
 | [.ro _ sh, .i i, .l acc] => Pre (0 <= i /\ i <= sh.xs.length /\ (acc.length : Int) <= 4 * i /\ Sp.Few sh.xs) (K 0 [.l (acc ++ Sp.unsAll sh.xs i.toNat (sh.xs.length - i.toNat))])
 | _ => False
def Xie : LC where
 len := 36
 T := [(0, .rs Jb), (3, (.row 3)), (4, .int .i64)]
 H := [(3, .arr 74 Ja)]
 W := (rgg 5 30)
 outs := [⟨.exit 0, [(3, (.row 6))], [(6, .arr 74 Ja)], ([0] ++ rgg 4 31)⟩]
 spec := Xgk
def Xfk [W : InW] (sh : Ro Jb) (i : Int) (acc : Dt) (A : List Ed -> Prop) (K : Nat -> List Ed -> Prop) : Prop :=
 Vif (decide (i < (↑(sh.xs.length) : Int))) (Pre (0 <= i /\ i < (↑(sh.xs.length) : Int) /\ Zb <= 0 /\ Zb <= (↑(List.length (Sp.row sh.xs i.toNat)) : Int) /\ (↑(acc.length) : Int) <= 4 * i + 0 /\ Sp.Few sh.xs) (Ar .i64 (i + 1) fun z => A [.ro [Ty.sl [Ty.int IntKind.i64]] sh, .i z, .l (acc ++ Sp.unsRow (Sp.row sh.xs i.toNat) i (Int.toNat Zb) (List.length (Sp.row sh.xs i.toNat) - Int.toNat Zb))])) (K 0 [.l acc])
theorem Xnp (W : InW) (sh i acc A K) : Yfh { cxT Try.prog TT T11 1000 50 with fn := 36 } 1000 (Yor Try.prog 36 4) (Yd9 36 [(0, .rs _ sh), (3, .rw 3), (4, .si .i64 i)] (rgg 5 30)) [(3, .arr 74 Ja acc)] (Yvi Xie A K) = Xfk sh i acc A K := by kernel_rfl
def Xhn : Prop := ∀ (W : InW) (body a : Code), (Try.prog.funcs[36]?).bind (·.body) = some body -> a ∈ Y1 body -> Yf2 a = 4 -> @Ym8 W Try.prog a (@Yum W Xie)
theorem Xpp (meas : [InW] -> List Ed -> Nat) (hyp_ : ∀ (W : InW) sh i acc K, Xgk [.ro _ sh, .i i, .l acc] K -> ∀ A : List Ed -> Prop, (∀ e, meas e < meas [.ro _ sh, .i i, .l acc] -> Xgk e K -> A e) -> Xfk sh i acc A K) : Xhn :=
 LE.okOf' (fun W => @TT W) (fun W => @Xc W) Xa T11 1000 50 (by kernel_rfl) Xie (fun W => @meas W) fun W sh i acc K hs =>
  (Xnp W sh i acc (fun e => meas e < meas [.ro _ sh, .i i, .l acc] /\ Xgk e K) K).mpr (hyp_ W sh i acc K hs _ fun e h1 h2 => ⟨h1, h2⟩)
theorem Xss : Xhn := Xpp (fun e => match e with | [.ro _ sh, .i i, _] => ((sh.xs.length : Int) - i).toNat | _ => 0) fun W sh i acc K hs A hA => by
 obtain ⟨⟨h0, h1, h4, h5⟩, hk⟩ := hs;have hm := sh.len;have h51 := h5.1;simp only [maxLen] at hm;unfold Xfk;delta Zb;simp only [show Int.toNat 0 = 0 from rfl, Nat.sub_zero, show (cel sh.xs i.toNat 0).lst = Sp.row sh.xs i.toNat from rfl];have ei : ((i.toNat : Nat) : Int) = i := Int.toNat_of_nonneg h0;have ez : (i + 1).toNat = i.toNat + 1 := by omega
 by_cases hj : i < sh.xs.length
 ·rw [show sh.xs.length - i.toNat = (sh.xs.length - (i.toNat + 1)) + 1 by omega] at hk;simp only [Sp.unsAll, ei] at hk;rw [<- List.append_assoc] at hk;have hrow := h5.2 i.toNat (by omega);have hl := Sp.unsRow_len (Sp.row sh.xs i.toNat) i (Sp.row sh.xs i.toNat).length 0;have hA' := hA [.ro _ sh, .i (i + 1), .l (acc ++ Sp.unsRow (Sp.row sh.xs i.toNat) i 0 (Sp.row sh.xs i.toNat).length)] (show ((sh.xs.length : Int) - (i + 1)).toNat < ((sh.xs.length : Int) - i).toNat by omega) ⟨⟨by omega, by omega, by simp; omega, h5⟩, by rw [ez]; exact hk⟩;clear hA hk
  repeat' (first | (with_reducible refine Xb ⟨by omega, by omega, by omega, by omega, by omega, h5⟩ ?_) | omega|intro _|with_reducible first|apply vifd|apply vifn|apply vifq|apply Xf|apply Xe|apply vifb|apply vif|apply nedd|apply ned2|apply ned|apply ar64|apply Xb|exact True.intro|assumption|rfl|apply And.intro)
  all_goals first | exact hA' | skip
 ·rw [show sh.xs.length - i.toNat = 0 by omega] at hk;simp only [Sp.unsAll, List.append_nil] at hk;clear hA
  repeat' (first | omega|intro _|with_reducible first|apply vifd|apply vifn|apply vifq|apply Xf|apply Xe|apply vifb|apply vif|apply nedd|apply ned2|apply ned|apply ar64|apply Xb|exact True.intro|assumption|rfl|apply And.intro)
  all_goals exact hk
def Xtr : LE Try.prog := ⟨36, 4, fun W => @Yum W Xie, Xss⟩
def T12 : Tab Try.prog := ⟨[], [Xtr], []⟩
def Xkm [W : InW] (sh : Ro Jb) (Q : DS -> Prop) : Prop :=
 Pre ((0 : Int) <= 0 /\ (0 : Int) <= (↑(sh.xs.length) : Int) /\ (↑(0 : Nat) : Int) <= 4 * 0 /\ Sp.Few sh.xs) (Q [[Cl.l (Sp.unsAll sh.xs (Int.toNat (0 : Int)) (sh.xs.length - Int.toNat (0 : Int)))]])
theorem Xrw (W : InW) (sh Q) : Yx2 (cxT Try.prog TT T12 1000 50) 1000 36 [.rs _ sh] [] 0 (Y2i [(false, [.row 74 Ja])] Q) (fun _ _ _ _ => Stuck 421) = Xkm sh Q := by kernel_rfl
abbrev Xe2 : List AT := [.one (.sl Jb)]
theorem Xsj {pre : DS -> Prop} {res : DS -> DS} (hyp_ : ∀ (W : InW) (sh : Ro Jb), pre [[.l sh.xs]] -> ∀ Q : DS -> Prop, Q (res [[.l sh.xs]]) -> Xkm sh Q) : PureOk Try.prog 36 Xe2 [(false, [.row 74 Ja])] pre res :=
 PureOk.of' (fun W => @TT W) (fun W => @Xc W) Xa T12 1000 50 fun W sh hp =>
  (Xrw W sh (fun o => o = res [[.l sh.xs]])).mpr (hyp_ W sh hp _ rfl)
abbrev Xes (ds : DS) : DS := match ds with | [[.l sh]] => [[.l (Sp.uns sh)]] | _ => []
abbrev Xju (ds : DS) : Prop := match ds with | [[.l sh]] => Sp.Few sh | _ => False
theorem okuns : PureOk Try.prog 36 Xe2 [(false, [.row 74 Ja])] Xju Xes :=
 Xsj fun W sh hp Q h => by
  have hp : Sp.Few sh.xs := hp;unfold Xkm;simp only [show Int.toNat 0 = 0 from rfl, Nat.sub_zero, List.nil_append];simp only [Xes, Sp.uns] at h;exact ⟨⟨by omega, by omega, by simp, hp⟩, h⟩
def Xjy : PC Try.prog := ⟨36, Xe2, [(false, [.row 74 Ja])], Xju, Xes, okuns⟩
namespace Sp
structure KeyOk (qs ps : Dt) (all : Int) : Prop where
 n1 : 1 <= qs.length
 n2 : qs.length <= 12
 p1 : 1 <= ps.length
 p2 : ps.length <= 4
 part : ∀ i, i < qs.length -> 0 <= qPart qs i /\ qPart qs i < ps.length
 boxes : ∀ i, i < qs.length -> 2 <= qBoxes qs i /\ qBoxes qs i <= 4
 right : ∀ i, i < qs.length -> 0 <= qRight qs i /\ qRight qs i < qBoxes qs i
 pts : ∀ i, i < qs.length -> 0 <= qPts qs i /\ qPts qs i <= 20
 minus : ∀ i, i < qs.length -> 0 <= qMin qs i /\ qMin qs i <= 20
 need : ∀ i, i < ps.length -> -240 <= (cel ps i 0).int /\ (cel ps i 0).int <= 240
 all_ : -240 <= all /\ all <= 240
theorem qErr_ok {np : Nat} {qs : Dt} {i : Nat} (h : qErr np qs i = 0) : (0 <= qPart qs i /\ qPart qs i < np) /\ (2 <= qBoxes qs i /\ qBoxes qs i <= 4) /\ (0 <= qRight qs i /\ qRight qs i < qBoxes qs i) /\ (0 <= qPts qs i /\ qPts qs i <= 20) /\ (0 <= qMin qs i /\ qMin qs i <= 20) := by
 unfold qErr at h
 split at h
 ·rename_i h1
  split at h
  ·rename_i h2
   split at h
   ·rename_i h3
    split at h
    ·rename_i h4;rw [Bool.and_eq_true] at h4;have a := inr_iff.1 h1;have b := inr_iff.1 h2;have c := inr_iff.1 h3;have d := inr_iff.1 h4.1;have e := inr_iff.1 h4.2;omega
    ·omega
   ·omega
  ·omega
 ·omega
theorem qErr_of {np : Nat} {qs : Dt} {i : Nat} (a : 0 <= qPart qs i /\ qPart qs i < np) (b : 2 <= qBoxes qs i /\ qBoxes qs i <= 4) (c : 0 <= qRight qs i /\ qRight qs i < qBoxes qs i) (d : 0 <= qPts qs i /\ qPts qs i <= 20) (e : 0 <= qMin qs i /\ qMin qs i <= 20) : qErr np qs i = 0 := by
 unfold qErr;rw [if_pos (inr_iff.2 (by omega)), if_pos (inr_iff.2 (by omega)), if_pos (inr_iff.2 (by omega)), if_pos (by rw [Bool.and_eq_true]; exact ⟨inr_iff.2 d, inr_iff.2 e⟩)]
theorem chkE_iff {qs ps : Dt} {all : Int} : chkE qs ps all = 0 ↔ KeyOk qs ps all := by
 constructor
 ·intro h;unfold chkE chk at h
  split at h
  ·rename_i h1;rw [Bool.and_eq_true] at h1;have a := inr_iff.1 h1.1;have b := inr_iff.1 h1.2
   split at h
   ·rename_i h2;exact absurd h (hasE_ix h2).2.2
   ·rename_i h2
    split at h
    ·rename_i h3;exact absurd h (hasE_ix h3).2.2
    ·rename_i h3
     split at h
     ·rename_i h4;have hq := fun i (hi : i < qs.length) => qErr_ok (hasE_no (by simpa using h2) i (by omega) (by omega));have hp := fun i (hi : i < ps.length) => hasE_no (by simpa using h3) i (by omega) (by omega);refine ⟨by omega, by omega, by omega, by omega, fun i hi => (hq i hi).1, fun i hi => (hq i hi).2.1, fun i hi => (hq i hi).2.2.1, fun i hi => (hq i hi).2.2.2.1, fun i hi => (hq i hi).2.2.2.2, fun i hi => ?_, inr_iff.1 h4⟩;have := hp i hi;unfold pErr at this
      split at this
      ·rename_i h5; exact inr_iff.1 h5
      ·omega
     ·simp at h
  ·simp at h
 ·intro h;have h1 := h.n1;have h2 := h.n2;have h3 := h.p1;have h4 := h.p2;unfold chkE chk;rw [if_pos (by rw [Bool.and_eq_true]; exact ⟨inr_iff.2 (by omega), inr_iff.2 (by omega)⟩), if_neg, if_neg, if_pos (inr_iff.2 h.all_)]
  ·rw [hasE_of fun i _ hi => by unfold pErr; rw [if_pos (inr_iff.2 (h.need i (by omega)))]]; simp
  ·rw [hasE_of fun i _ hi => qErr_of (h.part i (by omega)) (h.boxes i (by omega)) (h.right i (by omega)) (h.pts i (by omega)) (h.minus i (by omega))]; simp
def rowE (qs sh : Dt) (i : Nat) : Int := if ((row sh i).length : Int) = qBoxes qs i then (if out 0 2 (row sh i) then 7 else 0) else 3
def shE (qs sh : Dt) : Int := if (sh.length : Int) = qs.length then (if hasE (rowE qs sh) 0 sh.length then rowE qs sh (idxE (rowE qs sh) 0 sh.length) else if 7 < (uns sh).length then 3 else 0) else 3
theorem outs_ff {lo hi : Int} {xs : Dt} : ∀ {n i : Nat}, outs lo hi xs i n = false -> ∀ k, i <= k -> k < i + n -> lo <= (cel xs k 0).int /\ (cel xs k 0).int <= hi
 | 0, _, _, k, h1, h2 => by omega
 | n + 1, i, h, k, h1, h2 => by
  simp only [outs, Bool.or_eq_false_iff, Bool.not_eq_false'] at h;rcases Nat.eq_or_lt_of_le h1 with e | e
  ·rw [<- e]; exact inr_iff.1 h.1
  ·exact outs_ff h.2 k e (by omega)
theorem outs_of {lo hi : Int} {xs : Dt} : ∀ {n i : Nat}, (∀ k, i <= k -> k < i + n -> lo <= (cel xs k 0).int /\ (cel xs k 0).int <= hi) -> outs lo hi xs i n = false
 | 0, _, _ => rfl
 | n + 1, i, h => by
  simp only [outs, Bool.or_eq_false_iff, Bool.not_eq_false'];exact ⟨inr_iff.2 (h i (by omega) (by omega)), outs_of fun k h1 h2 => h k (by omega) (by omega)⟩
structure ShapeOk (qs sh : Dt) : Prop where
 n : sh.length = qs.length
 row_ : ∀ i, i < qs.length -> ((row sh i).length : Int) = qBoxes qs i
 val : ∀ i j, i < qs.length -> j < (row sh i).length -> 0 <= bx (row sh i) j /\ bx (row sh i) j <= 2
structure ShOk (qs sh : Dt) : Prop extends ShapeOk qs sh where
 seven : (uns sh).length <= 7
theorem rowE_ok {qs sh : Dt} {i : Nat} (h : rowE qs sh i = 0) : ((row sh i).length : Int) = qBoxes qs i /\ ∀ j, j < (row sh i).length -> 0 <= bx (row sh i) j /\ bx (row sh i) j <= 2 := by
 unfold rowE at h
 split at h
 ·rename_i h1
  split at h
  ·omega
  ·rename_i h2;exact ⟨h1, fun j hj => outs_ff (by simpa [out] using h2) j (by omega) (by omega)⟩
 ·omega
theorem shE_iff {qs sh : Dt} : shE qs sh = 0 ↔ ShOk qs sh := by
 unfold shE;constructor
 ·intro h
  split at h
  ·rename_i h1
   split at h
   ·rename_i h2; exact absurd h (hasE_ix h2).2.2
   ·rename_i h2
    split at h
    ·omega
    ·have hr := fun i (hi : i < sh.length) => rowE_ok (hasE_no (by simpa using h2) i (by omega) (by omega));exact ⟨⟨by omega, fun i hi => (hr i (by omega)).1, fun i j hi => (hr i (by omega)).2 j⟩, by omega⟩
  ·omega
 ·intro h;have h1 := h.n;have h2 := h.seven;rw [if_pos (by omega), if_neg, if_neg (by omega)];rw [hasE_of fun i _ hi => by
   unfold rowE;rw [if_pos (h.row_ i (by omega)), if_neg];unfold out;rw [outs_of fun k _ hk => h.val i k (by omega) (by omega)];simp]
  simp
theorem ShapeOk.few {qs ps sh : Dt} {all : Int} (hk : KeyOk qs ps all) (h : ShapeOk qs sh) : Few sh := by
 have h1 := h.n;have h2 := hk.n2;refine ⟨by omega, fun i hi => ?_⟩;have h3 := h.row_ i (by omega);have h4 := hk.boxes i (by omega);omega
end Sp
def Xgo [InW] (e : List Ed) (K : Nat -> List Ed -> Prop) : Prop := match e with
 | [.ro _ sh, .i i, .i j] => Pre (0 <= i /\ i < sh.xs.length /\ 0 <= j /\ j <= (Sp.row sh.xs i.toNat).length) (Vif (Sp.outs 0 2 (Sp.row sh.xs i.toNat) j.toNat ((Sp.row sh.xs i.toNat).length - j.toNat)) (K 1 []) (K 0 [.ro _ sh, .i i]))
 | _ => False
def Xii : LC where
 len := 53
 T := [(1, .rs Jb), (5, .int .i64), (6, .int .i64)]
 H := []
 W := ([4] ++ rgg 31 18)
 outs := [⟨.exit 2, [(1, .rs Jb), (5, .int .i64)], [], ([4, 6] ++ rgg 31 18)⟩, ⟨.ret, [(4, (.lit (.int .i64 7)))], [], ([1, 5, 6] ++ rgg 31 18)⟩]
 spec := Xgo
def Xfo [W : InW] (sh : Ro Jb) (i j : Int) (A : List Ed -> Prop) (K : Nat -> List Ed -> Prop) : Prop :=
 Need (decide (0 <= i) && decide (i < (↑(sh.xs.length) : Int))) (Need (decide (i.toNat < sh.xs.length)) (Vif (decide (j < (↑(List.length (cel sh.xs i.toNat (0 : Nat)).lst) : Int))) (Need (decide (0 <= i) && decide (i < (↑(sh.xs.length) : Int))) (Need (decide (i.toNat < sh.xs.length)) (Need (decide (0 <= j) && decide (j < (↑(List.length (cel sh.xs i.toNat (0 : Nat)).lst) : Int))) (Need (decide (j.toNat < List.length (cel sh.xs i.toNat (0 : Nat)).lst)) (Pre True (Vif (!Sp.inr (cel (cel sh.xs i.toNat (0 : Nat)).lst j.toNat (0 : Nat)).int (0 : Int) (2 : Int)) (K (0+1) []) (Ar .i64 (j + 1) fun z => A [.ro [Ty.sl [Ty.int IntKind.i64]] sh, .i i, .i z]))))))) (K 0 [.ro [Ty.sl [Ty.int IntKind.i64]] sh, .i i])))
theorem Xnt (W : InW) (sh i j A K) : Yfh { cxT Try.prog TT T2 1000 50 with fn := 7 } 1000 (Yor Try.prog 7 10) (Yd9 53 [(1, .rs _ sh), (5, .si .i64 i), (6, .si .i64 j)] ([4] ++ rgg 31 18)) [] (Yvi Xii A K) = Xfo sh i j A K := by kernel_rfl
def Xhr : Prop := ∀ (W : InW) (body a : Code), (Try.prog.funcs[7]?).bind (·.body) = some body -> a ∈ Y1 body -> Yf2 a = 10 -> @Ym8 W Try.prog a (@Yum W Xii)
theorem Xpt (meas : [InW] -> List Ed -> Nat) (hyp_ : ∀ (W : InW) sh i j K, Xgo [.ro _ sh, .i i, .i j] K -> ∀ A : List Ed -> Prop, (∀ e, meas e < meas [.ro _ sh, .i i, .i j] -> Xgo e K -> A e) -> Xfo sh i j A K) : Xhr :=
 LE.okOf' (fun W => @TT W) (fun W => @Xc W) Xa T2 1000 50 (by kernel_rfl) Xii (fun W => @meas W) fun W sh i j K hs =>
  (Xnt W sh i j (fun e => meas e < meas [.ro _ sh, .i i, .i j] /\ Xgo e K) K).mpr (hyp_ W sh i j K hs _ fun e h1 h2 => ⟨h1, h2⟩)
theorem Xsw : Xhr := Xpt (fun e => match e with | [.ro _ sh, .i i, .i j] => (((Sp.row sh.xs i.toNat).length : Int) - j).toNat | _ => 0) fun W sh i j K hs A hA => by
 obtain ⟨⟨h0, h1, h2, h3⟩, hk⟩ := hs;have hm := sh.len;have hr := (sh.sub [.int .i64] i.toNat 0 (sh.ok i.toNat 0)).len;simp only [maxLen] at hm;have hr : (Sp.row sh.xs i.toNat).length <= 9223372036854775807 := hr;unfold Xfo;simp only [show (cel sh.xs i.toNat 0).lst = Sp.row sh.xs i.toNat from rfl];have ez : (j + 1).toNat = j.toNat + 1 := by omega
 have hlt : j < (Sp.row sh.xs i.toNat).length -> (((Sp.row sh.xs i.toNat).length : Int) - (j + 1)).toNat < (((Sp.row sh.xs i.toNat).length : Int) - j).toNat := by omega
 by_cases hj : j < (Sp.row sh.xs i.toNat).length
 ·rw [show (Sp.row sh.xs i.toNat).length - j.toNat = ((Sp.row sh.xs i.toNat).length - (j.toNat + 1)) + 1 by omega] at hk;simp only [Sp.outs] at hk
  by_cases c : Sp.inr (cel (Sp.row sh.xs i.toNat) j.toNat 0).int 0 2 = true
  ·simp only [c, Bool.not_true, Bool.false_or] at hk ⊢;have hA' := hA [.ro _ sh, .i i, .i (j + 1)] (hlt hj) ⟨⟨h0, h1, by omega, by omega⟩, by rw [ez]; exact hk⟩;clear hA hk
   repeat' (first | omega|intro _|with_reducible first|apply vifd|apply vifn|apply vifq|apply Xf|apply Xe|apply vifb|apply vif|apply nedd|apply ned2|apply ned|apply ar64|apply Xb|exact True.intro|assumption|rfl|apply And.intro)
   all_goals first | contradiction | exact hA'
  ·have c : Sp.inr (cel (Sp.row sh.xs i.toNat) j.toNat 0).int 0 2 = false := by simpa using c
   simp only [c, Bool.not_false, Bool.true_or] at hk ⊢;clear hA
   repeat' (first | omega|intro _|with_reducible first|apply vifd|apply vifn|apply vifq|apply Xf|apply Xe|apply vifb|apply vif|apply nedd|apply ned2|apply ned|apply ar64|apply Xb|exact True.intro|assumption|rfl|apply And.intro)
   all_goals first | contradiction | exact hk.1 rfl
 ·rw [show (Sp.row sh.xs i.toNat).length - j.toNat = 0 by omega] at hk;clear hA
  repeat' (first | omega|intro _|with_reducible first|apply vifd|apply vifn|apply vifq|apply Xf|apply Xe|apply vifb|apply vif|apply nedd|apply ned2|apply ned|apply ar64|apply Xb|exact True.intro|assumption|rfl|apply And.intro)
  all_goals exact hk.2 rfl
def Xtv : LE Try.prog := ⟨7, 10, fun W => @Yum W Xii, Xsw⟩
def T13 : Tab Try.prog := ⟨[Xl7], [Xtv], []⟩
def Xgn [InW] (e : List Ed) (K : Nat -> List Ed -> Prop) : Prop := match e with
 | [.ro _ sh, .i i, .ro _ qs, .ro _ ps, .i all] => Pre (0 <= i /\ i <= sh.xs.length /\ sh.xs.length = qs.xs.length) (Vif (Sp.hasE (Sp.rowE qs.xs sh.xs) i.toNat (sh.xs.length - i.toNat)) (K 1 [.i (Sp.rowE qs.xs sh.xs (Sp.idxE (Sp.rowE qs.xs sh.xs) i.toNat (sh.xs.length - i.toNat)))]) (K 0 [.ro _ sh]))
 | _ => False
def Xih : LC where
 len := 53
 T := [(1, .rs Jb), (2, (.ptr 1 0)), (5, .int .i64)]
 H := [(1, .blk 25 [.rs Iv5, .rs Jc, .int .i64])]
 W := ([4, 6] ++ rgg 13 36)
 outs := [⟨.exit 0, [(1, .rs Jb)], [], ([2, 4, 5, 6] ++ rgg 13 36)⟩, ⟨.ret, [(4, .int .i64)], [], ([1, 2, 5, 6] ++ rgg 13 36)⟩]
 spec := Xgn
def Xfn [W : InW] (sh : Ro Jb) (i : Int) (qs : Ro Iv5) (ps : Ro Jc) (all : Int) (A : List Ed -> Prop) (K : Nat -> List Ed -> Prop) : Prop :=
 Vif (decide (i < (↑(sh.xs.length) : Int))) (Need (decide (0 <= i) && decide (i < (↑(sh.xs.length) : Int))) (Need (decide (i.toNat < sh.xs.length)) (Need (decide (0 <= i) && decide (i < (↑(qs.xs.length) : Int))) (Need (decide (i.toNat < qs.xs.length)) (Vif (!decide ((↑(List.length (cel sh.xs i.toNat (0 : Nat)).lst) : Int) = (cel qs.xs i.toNat (0+1)).int)) (K (0+1) [.i (3 : Int)]) (Pre (0 <= i /\ i < (↑(sh.xs.length) : Int) /\ Zb <= 0 /\ Zb <= (↑(List.length (Sp.row sh.xs i.toNat)) : Int)) (Vif (Sp.outs Zb (2 : Int) (Sp.row sh.xs i.toNat) (Int.toNat Zb) (List.length (Sp.row sh.xs i.toNat) - Int.toNat Zb)) (K (0+1) [.i (7 : Int)]) (Ar .i64 (i + 1) fun z => A [.ro [Ty.sl [Ty.int IntKind.i64]] sh, .i z, .ro _ qs, .ro _ ps, .i all])))))))) (K 0 [.ro [Ty.sl [Ty.int IntKind.i64]] sh])
theorem Xns (W : InW) (sh i qs ps all A K) : Yfh { cxT Try.prog TT T13 1000 50 with fn := 7 } 1000 (Yor Try.prog 7 5) (Yd9 53 [(1, .rs _ sh), (2, .ptr 1 0), (5, .si .i64 i)] ([4, 6] ++ rgg 13 36)) [(1, .blk 25 [.rs _ qs, .rs _ ps, .si .i64 all])] (Yvi Xih A K) = Xfn sh i qs ps all A K := by kernel_rfl
def Xhq : Prop := ∀ (W : InW) (body a : Code), (Try.prog.funcs[7]?).bind (·.body) = some body -> a ∈ Y1 body -> Yf2 a = 5 -> @Ym8 W Try.prog a (@Yum W Xih)
theorem Xps (meas : [InW] -> List Ed -> Nat) (hyp_ : ∀ (W : InW) sh i qs ps all K, Xgn [.ro _ sh, .i i, .ro _ qs, .ro _ ps, .i all] K -> ∀ A : List Ed -> Prop, (∀ e, meas e < meas [.ro _ sh, .i i, .ro _ qs, .ro _ ps, .i all] -> Xgn e K -> A e) -> Xfn sh i qs ps all A K) : Xhq :=
 LE.okOf' (fun W => @TT W) (fun W => @Xc W) Xa T13 1000 50 (by kernel_rfl) Xih (fun W => @meas W) fun W sh i qs ps all K hs =>
  (Xns W sh i qs ps all (fun e => meas e < meas [.ro _ sh, .i i, .ro _ qs, .ro _ ps, .i all] /\ Xgn e K) K).mpr (hyp_ W sh i qs ps all K hs _ fun e h1 h2 => ⟨h1, h2⟩)
theorem Xsv : Xhq := Xps (fun e => match e with | [.ro _ sh, .i i, _, _, _] => ((sh.xs.length : Int) - i).toNat | _ => 0) fun W sh i qs ps all K hs A hA => by
 obtain ⟨⟨h0, h1, h2⟩, hk⟩ := hs;have hm := sh.len;simp only [maxLen] at hm;unfold Xfn;delta Zb;simp only [show Int.toNat 0 = 0 from rfl, Nat.sub_zero, show (cel sh.xs i.toNat 0).lst = Sp.row sh.xs i.toNat from rfl, Nat.zero_add];have ez : (i + 1).toNat = i.toNat + 1 := by omega
 by_cases hi : i < sh.xs.length
 ·rw [show sh.xs.length - i.toNat = (sh.xs.length - (i.toNat + 1)) + 1 by omega] at hk;obtain ⟨g1, g2⟩ := Xdf (K1 := fun _ e => K 1 [.i e]) hk;have hA' : Sp.rowE qs.xs sh.xs i.toNat = 0 -> A [.ro _ sh, .i (i + 1), .ro _ qs, .ro _ ps, .i all] := fun f => hA _ (by show ((sh.xs.length : Int) - (i + 1)).toNat < ((sh.xs.length : Int) - i).toNat; omega) ⟨⟨by omega, by omega, h2⟩, by rw [ez]; exact g2 f⟩;clear hA hk g2;unfold Sp.rowE Sp.qBoxes Sp.out at hA' g1
  by_cases c : ((Sp.row sh.xs i.toNat).length : Int) = (cel qs.xs i.toNat 1).int
  ·rw [if_pos c] at hA' g1
   by_cases c2 : Sp.outs 0 2 (Sp.row sh.xs i.toNat) 0 (Sp.row sh.xs i.toNat).length = true
   ·rw [if_pos c2] at hA' g1;have g1 := g1 (by decide);simp only [c, c2]
    repeat' (first | omega|intro _|with_reducible first|apply vifd|apply vifn|apply vifq|apply Xf|apply Xe|apply vifb|apply vif|apply nedd|apply ned2|apply ned|apply ar64|apply Xb|exact True.intro|assumption|rfl|apply And.intro)
    all_goals first | contradiction | exact g1 | (simp at *; done) | skip
   ·rw [if_neg c2] at hA' g1;have c2 : Sp.outs 0 2 (Sp.row sh.xs i.toNat) 0 (Sp.row sh.xs i.toNat).length = false := by simpa using c2
    have hA' := hA' rfl;simp only [c, c2]
    repeat' (first | omega|intro _|with_reducible first|apply vifd|apply vifn|apply vifq|apply Xf|apply Xe|apply vifb|apply vif|apply nedd|apply ned2|apply ned|apply ar64|apply Xb|exact True.intro|assumption|rfl|apply And.intro)
    all_goals first | contradiction | exact hA' | (simp at *; done) | skip
  ·rw [if_neg c] at hA' g1;have g1 := g1 (by decide)
   repeat' (first | omega|intro _|with_reducible first|apply vifd|apply vifn|apply vifq|apply Xf|apply Xe|apply vifb|apply vif|apply nedd|apply ned2|apply ned|apply ar64|apply Xb|exact True.intro|assumption|rfl|apply And.intro)
   all_goals first | contradiction | exact g1 | skip
 ·rw [show sh.xs.length - i.toNat = 0 by omega] at hk;clear hA
  repeat' (first | omega|intro _|with_reducible first|apply vifd|apply vifn|apply vifq|apply Xf|apply Xe|apply vifb|apply vif|apply nedd|apply ned2|apply ned|apply ar64|apply Xb|exact True.intro|assumption|rfl|apply And.intro)
  all_goals exact hk.2 rfl
def Xtu : LE Try.prog := ⟨7, 5, fun W => @Yum W Xih, Xsv⟩
def T14 : Tab Try.prog := ⟨[Xjy], [Xtu], []⟩
def Xd4 [W : InW] (kQ : Ro Iv5) (kP : Ro Jc) (kA : Int) (sh : Ro Jb) (Q : DS -> Prop) : Prop :=
 Vif (!decide ((↑(sh.xs.length) : Int) = (↑(kQ.xs.length) : Int))) (Q [[Cl.i 3]]) (Pre (Zb <= 0 /\ Zb <= (↑(sh.xs.length) : Int) /\ sh.xs.length = kQ.xs.length) (Vif (Sp.hasE (Sp.rowE kQ.xs sh.xs) (Int.toNat Zb) (sh.xs.length - Int.toNat Zb)) (Q [[Cl.i (Sp.rowE kQ.xs sh.xs (Sp.idxE (Sp.rowE kQ.xs sh.xs) (Int.toNat Zb) (sh.xs.length - Int.toNat Zb)))]]) (Pre (Sp.Few sh.xs) (Vif (decide ((7 : Int) < (↑(List.length (Sp.uns sh.xs)) : Int))) (Q [[Cl.i 3]]) (Q [[Cl.i 0]])))))
theorem Xll (W : InW) (kQ kP kA sh Q) : Yx2 (cxT Try.prog TT T14 1000 50) 1000 7 [.agg [.rs _ kQ, .rs _ kP, .si .i64 kA], .rs _ sh] [] 0 (Y2i [(false, [.int .i64])] Q) (fun _ _ _ _ => Stuck 421) = Xd4 kQ kP kA sh Q := by kernel_rfl
abbrev Xc1 : List AT := [.agg [.sl Iv5, .sl Jc, .int .i64], .one (.sl Jb)]
theorem Xml {pre : DS -> Prop} {res : DS -> DS} (hyp_ : ∀ (W : InW) (kQ : Ro Iv5) (kP : Ro Jc) (kA : Int) (sh : Ro Jb), pre [[.l kQ.xs, .l kP.xs, .i kA], [.l sh.xs]] -> ∀ Q : DS -> Prop, Q (res [[.l kQ.xs, .l kP.xs, .i kA], [.l sh.xs]]) -> Xd4 kQ kP kA sh Q) : PureOk Try.prog 7 Xc1 [(false, [.int .i64])] pre res :=
 PureOk.of' (fun W => @TT W) (fun W => @Xc W) Xa T14 1000 50 fun W kQ kP kA sh hp =>
  (Xll W kQ kP kA sh (fun o => o = res [[.l kQ.xs, .l kP.xs, .i kA], [.l sh.xs]])).mpr (hyp_ W kQ kP kA sh hp _ rfl)
abbrev Xcu (ds : DS) : DS := match ds with | [[.l qs, .l ps, .i all], [.l sh]] => [[.i (Sp.shE qs sh)]] | _ => []
abbrev Xjw (ds : DS) : Prop := match ds with | [.l qs, .l ps, .i all] :: _ => Sp.KeyOk qs ps all | _ => False
theorem Xpk : PureOk Try.prog 7 Xc1 [(false, [.int .i64])] Xjw Xcu :=
 Xml fun W qs ps all sh hp Q h => by
  have hp : Sp.KeyOk qs.xs ps.xs all := hp;unfold Xd4;delta Zb;simp only [show Int.toNat 0 = 0 from rfl, Nat.sub_zero];simp only [Xcu, Sp.shE] at h;refine vifn (fun e => ?_) fun e => ?_
  ·rw [if_neg e] at h; exact h
  ·rw [if_pos e] at h;refine ⟨⟨by omega, by omega, by omega⟩, vif (fun e1 => ?_) fun e1 => ?_⟩
   ·rw [if_pos e1] at h; exact h
   ·rw [if_neg (by simp [e1])] at h;have hf : Sp.Few sh.xs := Sp.ShapeOk.few hp ⟨by omega, fun i hi => (Sp.rowE_ok (Sp.hasE_no e1 i (by omega) (by omega))).1, fun i j hi => (Sp.rowE_ok (Sp.hasE_no e1 i (by omega) (by omega))).2 j⟩;refine ⟨hf, vifd (fun e2 => ?_) fun e2 => ?_⟩
    ·rw [if_pos (by omega)] at h; exact h
    ·rw [if_neg (by omega)] at h; exact h
def Xl6 : PC Try.prog := ⟨7, Xc1, [(false, [.int .i64])], Xjw, Xcu, Xpk⟩
namespace Sp
def ptsQ (qs sh : Dt) (i : Nat) : Int := ptsV (qRight qs i) (qPts qs i) (qMin qs i) (row sh i)
def addG (qs sh : Dt) : Nat -> Nat -> Dt -> Dt
 | _, 0, l => l
 | i, n + 1, l => addG qs sh (i + 1) n (l.set (qPart qs i).toNat [.i (num l (qPart qs i).toNat + ptsQ qs sh i)])
def mk (qs ps sh : Dt) : Dt := addG qs sh 0 sh.length (List.replicate ps.length [.i 0])
def partsOk (l ps : Dt) : Nat -> Nat -> Bool := allF fun p => decide (num ps p <= num l p)
def passOf (all : Int) (ps l : Dt) : Bool := decide (all <= total l) && partsOk l ps 0 l.length
theorem num_set {l : Dt} {p : Nat} {v : Int} (hp : p < l.length) (q : Nat) : num (l.set p [.i v]) q = if p = q then v else num l q := by
 unfold num cel
 by_cases e : p = q
 ·subst e; simp [List.getD_eq_getElem?_getD, List.getElem?_set_self hp]
 ·simp [List.getD_eq_getElem?_getD, List.getElem?_set_ne e, e]
end Sp
attribute [local irreducible] Go.Oper.wp
def LE.unroll {P : Program} (tt : (W : InW) -> @Tr (@TI W)) (ht : ∀ W : InW, @TabOk W P (tt W)) (hm : P.follows .mixedOrders = true) (T : Tab P) (n m u : Nat) (g : FuncId) (key : Nat) (h1 : (match Ye7 P g key with | [_] => true | _ => false) = true) : LE P where
 g := g
 key := key
 f := fun W tm hp K => @Yzs W (@Yfh W { @cxT W P (tt W) T n m with fn := g } n (Yor P g key)) u tm hp K
 ok := fun W body a hbd ha hk tm hp K h => by
  obtain ⟨h2, h3⟩ := Yzt h1;rw [h2 body a hbd ha hk];have hP := Y01 P (tt W) T n m;have hL := (Yta (T := T) (ht W) hm n m).at g;have := Yl4 (P := P) (cd := Yor P g key) (fun tm hp K h => by
   have := Yg6 (c := { @cxT W P (tt W) T n m with fn := g }) hL (by rw [show ({ @cxT W P (tt W) T n m with fn := g } : Cx).P = P from hP]; exact hm) n (root := Yj6 P g) (by
    show ((cxT P (tt W) T n m).P.funcs[g]?).bind (·.body) = _
    rw [hP]; exact Yz0 h1) (Yor P g key) h3.loop tm hp K h
   rw [show ({ @cxT W P (tt W) T n m with fn := g } : Cx).P = P from hP] at this;exact this) u tm hp K h
  exact this
end Go.Proofs.Ytfbhampnigdaaaa
namespace Go.Proofs.Ytfbhampnigdaaaa
open Go.RowKit
set_option maxRecDepth 100000
set_option maxHeartbeats 4000000
def Xrk : LE Try.prog := LE.unroll (fun W => @TT W) (fun W => @Xc W) Xa T0 1000 50 14 37 4 (by kernel_rfl)
def T18 : Tab Try.prog := ⟨[], [Xrk], []⟩
namespace Sp
def withR (sh : Dt) (q j : Nat) (v : Int) : Nat -> Nat -> Dt
 | _, 0 => []
 | i, n + 1 => [.l (if i = q then (row sh i).set j [.i v] else row sh i)] :: withR sh q j v (i + 1) n
def withD (sh : Dt) (q j : Nat) (v : Int) : Dt := withR sh q j v 0 sh.length
end Sp
def Zba [W : InW] (sh : Ro Jb) := (↑(sh.xs.length) : Int)
def Zd := (0 : Nat)
def Ze [W : InW] (sh : Ro Jb) := cel sh.xs (Int.toNat Zb) Zd
def Zp [W : InW] (sh : Ro Jb) := cel sh.xs (Int.ofNat (0+1)).toNat Zd
def Zq [W : InW] (sh : Ro Jb) := cel sh.xs (Int.ofNat (1+1)).toNat Zd
def Zr [W : InW] (sh : Ro Jb) := cel sh.xs (Int.ofNat (2+1)).toNat Zd
def Zt [W : InW] (sh : Ro Jb) := cel sh.xs (Int.ofNat (3+1)).toNat Zd
def Zu [W : InW] (sh : Ro Jb) := cel sh.xs (Int.ofNat (4+1)).toNat Zd
def Zx [W : InW] (sh : Ro Jb) := cel sh.xs (Int.ofNat (5+1)).toNat Zd
def Zdg [W : InW] (sh : Ro Jb) := cel sh.xs (Int.ofNat (6+1)).toNat Zd
def Zdh [W : InW] (sh : Ro Jb) := cel sh.xs (Int.ofNat (7+1)).toNat Zd
def Zs [W : InW] (sh : Ro Jb) := cel sh.xs (Int.ofNat (nat_lit 10 + 1)).toNat Zd
def Zy [W : InW] (sh : Ro Jb) := cel sh.xs (Int.ofNat (nat_lit 11 + 1)).toNat Zd
def Zdf := nat_lit 12 + 1
def Zbu [W : InW] (b_A : Int) := decide (b_A = (↑Zd : Int))
def Zv [W : InW] (sh : Ro Jb) (b_B : Int) := decide (0 <= b_B) && decide (b_B < (↑(List.length (Ze sh).lst) : Int))
def Zbj [W : InW] (sh : Ro Jb) (b_B : Int) := decide (b_B.toNat < List.length (Ze sh).lst)
def Zbk [W : InW] (sh : Ro Jb) (b_B v : Int) := [Cl.l (List.set (Ze sh).lst b_B.toNat [Cl.i v])]
def Zbb [W : InW] (sh : Ro Jb) := cel sh.xs (Int.ofNat (nat_lit 0 + 1)).toNat Zd
def Zi [W : InW] (sh : Ro Jb) := [Cl.l (Zbb sh).lst]
def Zz [W : InW] (sh : Ro Jb) := cel sh.xs (Int.ofNat (nat_lit 1 + 1)).toNat Zd
def Zj [W : InW] (sh : Ro Jb) := [Cl.l (Zz sh).lst]
def Zl [W : InW] (sh : Ro Jb) := cel sh.xs (Int.ofNat (nat_lit 2 + 1)).toNat Zd
def Zbc [W : InW] (sh : Ro Jb) := [Cl.l (Zl sh).lst]
def Zm [W : InW] (sh : Ro Jb) := cel sh.xs (Int.ofNat (nat_lit 3 + 1)).toNat Zd
def Zbd [W : InW] (sh : Ro Jb) := [Cl.l (Zm sh).lst]
def Zk [W : InW] (sh : Ro Jb) := cel sh.xs (Int.ofNat (nat_lit 4 + 1)).toNat Zd
def Zbe [W : InW] (sh : Ro Jb) := [Cl.l (Zk sh).lst]
def Zg [W : InW] (sh : Ro Jb) := cel sh.xs (Int.ofNat (nat_lit 5 + 1)).toNat Zd
def Zbf [W : InW] (sh : Ro Jb) := [Cl.l (Zg sh).lst]
def Zf [W : InW] (sh : Ro Jb) := cel sh.xs (Int.ofNat (nat_lit 6 + 1)).toNat Zd
def Zbg [W : InW] (sh : Ro Jb) := [Cl.l (Zf sh).lst]
def Zh [W : InW] (sh : Ro Jb) := cel sh.xs (Int.ofNat (nat_lit 7 + 1)).toNat Zd
def Zbh [W : InW] (sh : Ro Jb) := [Cl.l (Zh sh).lst]
def Zn [W : InW] (sh : Ro Jb) := cel sh.xs (Int.ofNat (nat_lit 8 + 1)).toNat Zd
def Zbl [W : InW] (sh : Ro Jb) := [Cl.l (Zn sh).lst]
def Zbn [W : InW] (sh : Ro Jb) := cel sh.xs (Int.ofNat (nat_lit 9 + 1)).toNat Zd
def Zo [W : InW] (sh : Ro Jb) := [Cl.l (Zbn sh).lst]
def Zce [W : InW] (sh : Ro Jb) := [Cl.l (Zs sh).lst]
def Zde [W : InW] (sh : Ro Jb) := [Cl.l (Zy sh).lst]
def Zch [W : InW] (sh : Ro Jb) (b_B : Int) := decide (0 <= b_B) && decide (b_B < (↑(List.length (Zbb sh).lst) : Int))
def Zw [W : InW] (sh : Ro Jb) := [Cl.l (Ze sh).lst]
def Zdp [W : InW] (sh : Ro Jb) (b_B v : Int) := [Cl.l (List.set (Zbb sh).lst b_B.toNat [Cl.i v])]
def Zci [W : InW] (sh : Ro Jb) (b_B : Int) := decide (0 <= b_B) && decide (b_B < (↑(List.length (Zz sh).lst) : Int))
def Zcw [W : InW] (sh : Ro Jb) (b_B v : Int) := [Cl.l (List.set (Zz sh).lst b_B.toNat [Cl.i v])]
def Zcj [W : InW] (sh : Ro Jb) (b_B : Int) := decide (0 <= b_B) && decide (b_B < (↑(List.length (Zl sh).lst) : Int))
def Zdj [W : InW] (sh : Ro Jb) (b_B : Int) := decide (b_B.toNat < List.length (Zl sh).lst)
def Zcx [W : InW] (sh : Ro Jb) (b_B v : Int) := [Cl.l (List.set (Zl sh).lst b_B.toNat [Cl.i v])]
def Zck [W : InW] (sh : Ro Jb) (b_B : Int) := decide (0 <= b_B) && decide (b_B < (↑(List.length (Zm sh).lst) : Int))
def Zdk [W : InW] (sh : Ro Jb) (b_B : Int) := decide (b_B.toNat < List.length (Zm sh).lst)
def Zcy [W : InW] (sh : Ro Jb) (b_B v : Int) := [Cl.l (List.set (Zm sh).lst b_B.toNat [Cl.i v])]
def Zbv [W : InW] (sh : Ro Jb) (b_B : Int) := decide (0 <= b_B) && decide (b_B < (↑(List.length (Zk sh).lst) : Int))
def Zdl [W : InW] (sh : Ro Jb) (b_B : Int) := decide (b_B.toNat < List.length (Zk sh).lst)
def Zcz [W : InW] (sh : Ro Jb) (b_B v : Int) := [Cl.l (List.set (Zk sh).lst b_B.toNat [Cl.i v])]
def Zbw [W : InW] (sh : Ro Jb) (b_B : Int) := decide (0 <= b_B) && decide (b_B < (↑(List.length (Zg sh).lst) : Int))
def Zdm [W : InW] (sh : Ro Jb) (b_B : Int) := decide (b_B.toNat < List.length (Zg sh).lst)
def Zco [W : InW] (sh : Ro Jb) (b_B v : Int) := [Cl.l (List.set (Zg sh).lst b_B.toNat [Cl.i v])]
def Zbx [W : InW] (sh : Ro Jb) (b_B : Int) := decide (0 <= b_B) && decide (b_B < (↑(List.length (Zf sh).lst) : Int))
def Zct [W : InW] (sh : Ro Jb) (b_B : Int) := decide (b_B.toNat < List.length (Zf sh).lst)
def Zcp [W : InW] (sh : Ro Jb) (b_B v : Int) := [Cl.l (List.set (Zf sh).lst b_B.toNat [Cl.i v])]
def Zby [W : InW] (sh : Ro Jb) (b_B : Int) := decide (0 <= b_B) && decide (b_B < (↑(List.length (Zh sh).lst) : Int))
def Zcu [W : InW] (sh : Ro Jb) (b_B : Int) := decide (b_B.toNat < List.length (Zh sh).lst)
def Zda [W : InW] (sh : Ro Jb) (b_B v : Int) := [Cl.l (List.set (Zh sh).lst b_B.toNat [Cl.i v])]
def Zcl [W : InW] (sh : Ro Jb) (b_B : Int) := decide (0 <= b_B) && decide (b_B < (↑(List.length (Zn sh).lst) : Int))
def Zdn [W : InW] (sh : Ro Jb) (b_B : Int) := decide (b_B.toNat < List.length (Zn sh).lst)
def Zdc [W : InW] (sh : Ro Jb) (b_B : Int) := decide (0 <= b_B) && decide (b_B < (↑(List.length (Zbn sh).lst) : Int))
def Zcd [W : InW] (b_A : Int) := decide (b_A = (↑(0+1) : Int))
def Zcg [W : InW] (b_A : Int) := decide (b_A = (↑(1+1) : Int))
def Zcm [W : InW] (b_A : Int) := decide (b_A = (↑(2+1) : Int))
def Zcs [W : InW] (b_A : Int) := decide (b_A = (↑(3+1) : Int))
def Zbs [W : InW] (sh : Ro Jb) (b_B : Int) := decide (b_B.toNat < List.length (Zp sh).lst)
def Zcb [W : InW] (sh : Ro Jb) (b_B : Int) := decide (b_B.toNat < List.length (Zq sh).lst)
def Zdi [W : InW] (b_A : Int) := decide (b_A = (↑(4+1) : Int))
def Zbq [W : InW] (sh : Ro Jb) := [Cl.l (Zp sh).lst]
def Zbr [W : InW] (sh : Ro Jb) := [Cl.l (Zq sh).lst]
def Zbt [W : InW] (sh : Ro Jb) := [Cl.l (Zr sh).lst]
def Zca [W : InW] (sh : Ro Jb) := [Cl.l (Zt sh).lst]
def Zcf [W : InW] (sh : Ro Jb) := [Cl.l (Zu sh).lst]
def Zcr [W : InW] (sh : Ro Jb) := [Cl.l (Zx sh).lst]
def Zbm [W : InW] (sh : Ro Jb) := [Cl.l (Zdg sh).lst]
def Zbi [W : InW] (sh : Ro Jb) (b_B : Int) := decide (0 <= b_B) && decide (b_B < (↑(List.length (Zp sh).lst) : Int))
def Zcc [W : InW] (sh : Ro Jb) (b_B v : Int) := [Cl.l (List.set (Zp sh).lst b_B.toNat [Cl.i v])]
def Zbo [W : InW] (sh : Ro Jb) (b_B : Int) := decide (0 <= b_B) && decide (b_B < (↑(List.length (Zq sh).lst) : Int))
def Zbp [W : InW] (sh : Ro Jb) (b_B : Int) := decide (0 <= b_B) && decide (b_B < (↑(List.length (Zr sh).lst) : Int))
def Zcn [W : InW] (sh : Ro Jb) (b_B : Int) := decide (b_B.toNat < List.length (Zr sh).lst)
def Zbz [W : InW] (sh : Ro Jb) (b_B : Int) := decide (0 <= b_B) && decide (b_B < (↑(List.length (Zt sh).lst) : Int))
def Zcv [W : InW] (sh : Ro Jb) (b_B : Int) := decide (b_B.toNat < List.length (Zt sh).lst)
def Zdo [W : InW] (sh : Ro Jb) (b_B : Int) := decide (b_B.toNat < List.length (Zu sh).lst)
def Zcq [W : InW] (sh : Ro Jb) (b_B v : Int) := [Cl.l (List.set (Zq sh).lst b_B.toNat [Cl.i v])]
def Zdb [W : InW] (sh : Ro Jb) (b_B v : Int) := [Cl.l (List.set (Zr sh).lst b_B.toNat [Cl.i v])]
def Zdd [W : InW] (sh : Ro Jb) (b_B : Int) := decide (0 <= b_B) && decide (b_B < (↑(List.length (Zu sh).lst) : Int))
def Xe7 [W : InW] (sh : Ro Jb) (b_A b_B v : Int) (Q : DS -> Prop) : Prop :=
 Vif (decide (Zb < (Zba sh))) (Need (decide (Zb <= 0) && decide (Zb < (Zba sh))) (Need (decide (Int.toNat Zb < sh.xs.length)) (Need (decide ((Zd + List.length (Ze sh).lst) * 8 <= 140737488355328)) (Vif (decide (Int.ofNat (0+1) < (Zba sh))) (Need (decide (Zb <= Int.ofNat (0+1)) && decide (Int.ofNat (0+1) < (Zba sh))) (Need (decide ((Int.ofNat (0+1)).toNat < sh.xs.length)) (Need (decide ((Zd + List.length (Zp sh).lst) * 8 <= 140737488355328)) (Vif (decide (Int.ofNat (1+1) < (Zba sh))) (Need (decide (Zb <= Int.ofNat (1+1)) && decide (Int.ofNat (1+1) < (Zba sh))) (Need (decide ((Int.ofNat (1+1)).toNat < sh.xs.length)) (Need (decide ((Zd + List.length (Zq sh).lst) * 8 <= 140737488355328)) (Vif (decide (Int.ofNat (2+1) < (Zba sh))) (Need (decide (Zb <= Int.ofNat (2+1)) && decide (Int.ofNat (2+1) < (Zba sh))) (Need (decide ((Int.ofNat (2+1)).toNat < sh.xs.length)) (Need (decide ((Zd + List.length (Zr sh).lst) * 8 <= 140737488355328)) (Vif (decide (Int.ofNat (3+1) < (Zba sh))) (Need (decide (Zb <= Int.ofNat (3+1)) && decide (Int.ofNat (3+1) < (Zba sh))) (Need (decide ((Int.ofNat (3+1)).toNat < sh.xs.length)) (Need (decide ((Zd + List.length (Zt sh).lst) * 8 <= 140737488355328)) (Vif (decide (Int.ofNat (4+1) < (Zba sh))) (Need (decide (Zb <= Int.ofNat (4+1)) && decide (Int.ofNat (4+1) < (Zba sh))) (Need (decide ((Int.ofNat (4+1)).toNat < sh.xs.length)) (Need (decide ((Zd + List.length (Zu sh).lst) * 8 <= 140737488355328)) (Vif (decide (Int.ofNat (5+1) < (Zba sh))) (Need (decide (Zb <= Int.ofNat (5+1)) && decide (Int.ofNat (5+1) < (Zba sh))) (Need (decide ((Int.ofNat (5+1)).toNat < sh.xs.length)) (Need (decide ((Zd + List.length (Zx sh).lst) * 8 <= 140737488355328)) (Vif (decide (Int.ofNat (6+1) < (Zba sh))) (Need (decide (Zb <= Int.ofNat (6+1)) && decide (Int.ofNat (6+1) < (Zba sh))) (Need (decide ((Int.ofNat (6+1)).toNat < sh.xs.length)) (Need (decide ((Zd + List.length (Zdg sh).lst) * 8 <= 140737488355328)) (Vif (decide (Int.ofNat (7+1) < (Zba sh))) (Need (decide (Zb <= Int.ofNat (7+1)) && decide (Int.ofNat (7+1) < (Zba sh))) (Need (decide ((Int.ofNat (7+1)).toNat < sh.xs.length)) (Need (decide ((Zd + List.length (Zdh sh).lst) * 8 <= 140737488355328)) (Vif (decide (Int.ofNat (8+1) < (Zba sh))) (Need (decide (Zb <= Int.ofNat (8+1)) && decide (Int.ofNat (8+1) < (Zba sh))) (Need (decide ((Int.ofNat (8+1)).toNat < sh.xs.length)) (Need (decide ((Zd + List.length (cel sh.xs (Int.ofNat (8+1)).toNat Zd).lst) * 8 <= 140737488355328)) (Vif (decide (Int.ofNat (9+1) < (Zba sh))) (Need (decide (Zb <= Int.ofNat (9+1)) && decide (Int.ofNat (9+1) < (Zba sh))) (Need (decide ((Int.ofNat (9+1)).toNat < sh.xs.length)) (Need (decide ((Zd + List.length (cel sh.xs (Int.ofNat (9+1)).toNat Zd).lst) * 8 <= 140737488355328)) (Vif (decide (Int.ofNat (10+1) < (Zba sh))) (Need (decide (Zb <= Int.ofNat (10+1)) && decide (Int.ofNat (10+1) < (Zba sh))) (Need (decide ((Int.ofNat (10+1)).toNat < sh.xs.length)) (Need (decide ((Zd + List.length (Zs sh).lst) * 8 <= 140737488355328)) (Vif (decide (Int.ofNat (11+1) < (Zba sh))) (Need (decide (Zb <= Int.ofNat (nat_lit 11 + 1)) && decide (Int.ofNat (nat_lit 11 + 1) < (Zba sh))) (Need (decide ((Int.ofNat (nat_lit 11 + 1)).toNat < sh.xs.length)) (Need (decide ((Zd + List.length (Zy sh).lst) * 8 <= 140737488355328)) (Vif (decide (Int.ofNat Zdf < (Zba sh))) (Need (decide (Zb <= Int.ofNat Zdf) && decide (Int.ofNat Zdf < (Zba sh))) (Need (decide ((Int.ofNat Zdf).toNat < sh.xs.length)) (Need (decide ((Zd + List.length (cel sh.xs (Int.ofNat Zdf).toNat Zd).lst) * 8 <= 140737488355328)) ((45 : Nat) = 45 + 1)))) (Need (decide (0 <= b_A) && decide (b_A < (↑Zdf : Int))) (Vif (Zbu b_A) (Need (Zv sh b_B) (Need (Zbj sh b_B) (Q [[Cl.l [(Zbk sh b_B v), (Zi sh), (Zj sh), (Zbc sh), (Zbd sh), (Zbe sh), (Zbf sh), (Zbg sh), (Zbh sh), (Zbl sh), (Zo sh), (Zce sh), (Zde sh)]]]))) (Vif (decide (b_A = (↑(nat_lit 0 + 1) : Int))) (Need (Zch sh b_B) (Need (decide (b_B.toNat < List.length (Zbb sh).lst)) (Q [[Cl.l [(Zw sh), (Zdp sh b_B v), (Zj sh), (Zbc sh), (Zbd sh), (Zbe sh), (Zbf sh), (Zbg sh), (Zbh sh), (Zbl sh), (Zo sh), (Zce sh), (Zde sh)]]]))) (Vif (decide (b_A = (↑(nat_lit 1 + 1) : Int))) (Need (Zci sh b_B) (Need (decide (b_B.toNat < List.length (Zz sh).lst)) (Q [[Cl.l [(Zw sh), (Zi sh), (Zcw sh b_B v), (Zbc sh), (Zbd sh), (Zbe sh), (Zbf sh), (Zbg sh), (Zbh sh), (Zbl sh), (Zo sh), (Zce sh), (Zde sh)]]]))) (Vif (decide (b_A = (↑(nat_lit 2 + 1) : Int))) (Need (Zcj sh b_B) (Need (Zdj sh b_B) (Q [[Cl.l [(Zw sh), (Zi sh), (Zj sh), (Zcx sh b_B v), (Zbd sh), (Zbe sh), (Zbf sh), (Zbg sh), (Zbh sh), (Zbl sh), (Zo sh), (Zce sh), (Zde sh)]]]))) (Vif (decide (b_A = (↑(nat_lit 3 + 1) : Int))) (Need (Zck sh b_B) (Need (Zdk sh b_B) (Q [[Cl.l [(Zw sh), (Zi sh), (Zj sh), (Zbc sh), (Zcy sh b_B v), (Zbe sh), (Zbf sh), (Zbg sh), (Zbh sh), (Zbl sh), (Zo sh), (Zce sh), (Zde sh)]]]))) (Vif (decide (b_A = (↑(nat_lit 4 + 1) : Int))) (Need (Zbv sh b_B) (Need (Zdl sh b_B) (Q [[Cl.l [(Zw sh), (Zi sh), (Zj sh), (Zbc sh), (Zbd sh), (Zcz sh b_B v), (Zbf sh), (Zbg sh), (Zbh sh), (Zbl sh), (Zo sh), (Zce sh), (Zde sh)]]]))) (Vif (decide (b_A = (↑(nat_lit 5 + 1) : Int))) (Need (Zbw sh b_B) (Need (Zdm sh b_B) (Q [[Cl.l [(Zw sh), (Zi sh), (Zj sh), (Zbc sh), (Zbd sh), (Zbe sh), (Zco sh b_B v), (Zbg sh), (Zbh sh), (Zbl sh), (Zo sh), (Zce sh), (Zde sh)]]]))) (Vif (decide (b_A = (↑(nat_lit 6 + 1) : Int))) (Need (Zbx sh b_B) (Need (Zct sh b_B) (Q [[Cl.l [(Zw sh), (Zi sh), (Zj sh), (Zbc sh), (Zbd sh), (Zbe sh), (Zbf sh), (Zcp sh b_B v), (Zbh sh), (Zbl sh), (Zo sh), (Zce sh), (Zde sh)]]]))) (Vif (decide (b_A = (↑(nat_lit 7 + 1) : Int))) (Need (Zby sh b_B) (Need (Zcu sh b_B) (Q [[Cl.l [(Zw sh), (Zi sh), (Zj sh), (Zbc sh), (Zbd sh), (Zbe sh), (Zbf sh), (Zbg sh), (Zda sh b_B v), (Zbl sh), (Zo sh), (Zce sh), (Zde sh)]]]))) (Vif (decide (b_A = (↑(nat_lit 8 + 1) : Int))) (Need (Zcl sh b_B) (Need (Zdn sh b_B) (Q [[Cl.l [(Zw sh), (Zi sh), (Zj sh), (Zbc sh), (Zbd sh), (Zbe sh), (Zbf sh), (Zbg sh), (Zbh sh), [Cl.l (List.set (Zn sh).lst b_B.toNat [Cl.i v])], (Zo sh), (Zce sh), (Zde sh)]]]))) (Vif (decide (b_A = (↑(nat_lit 9 + 1) : Int))) (Need (Zdc sh b_B) (Need (decide (b_B.toNat < List.length (Zbn sh).lst)) (Q [[Cl.l [(Zw sh), (Zi sh), (Zj sh), (Zbc sh), (Zbd sh), (Zbe sh), (Zbf sh), (Zbg sh), (Zbh sh), (Zbl sh), [Cl.l (List.set (Zbn sh).lst b_B.toNat [Cl.i v])], (Zce sh), (Zde sh)]]]))) (Vif (decide (b_A = (↑(nat_lit 10 + 1) : Int))) (Need (decide (0 <= b_B) && decide (b_B < (↑(List.length (Zs sh).lst) : Int))) (Need (decide (b_B.toNat < List.length (Zs sh).lst)) (Q [[Cl.l [(Zw sh), (Zi sh), (Zj sh), (Zbc sh), (Zbd sh), (Zbe sh), (Zbf sh), (Zbg sh), (Zbh sh), (Zbl sh), (Zo sh), [Cl.l (List.set (Zs sh).lst b_B.toNat [Cl.i v])], (Zde sh)]]]))) (Need (decide (0 <= b_B) && decide (b_B < (↑(List.length (Zy sh).lst) : Int))) (Need (decide (b_B.toNat < List.length (Zy sh).lst)) (Q [[Cl.l [(Zw sh), (Zi sh), (Zj sh), (Zbc sh), (Zbd sh), (Zbe sh), (Zbf sh), (Zbg sh), (Zbh sh), (Zbl sh), (Zo sh), (Zce sh), [Cl.l (List.set (Zy sh).lst b_B.toNat [Cl.i v])]]]])))))))))))))))))))) (Need (decide (0 <= b_A) && decide (b_A < (↑(nat_lit 11 + 1) : Int))) (Vif (Zbu b_A) (Need (Zv sh b_B) (Need (Zbj sh b_B) (Q [[Cl.l [(Zbk sh b_B v), (Zi sh), (Zj sh), (Zbc sh), (Zbd sh), (Zbe sh), (Zbf sh), (Zbg sh), (Zbh sh), (Zbl sh), (Zo sh), (Zce sh)]]]))) (Vif (decide (b_A = (↑(nat_lit 0 + 1) : Int))) (Need (Zch sh b_B) (Need (decide (b_B.toNat < List.length (Zbb sh).lst)) (Q [[Cl.l [(Zw sh), (Zdp sh b_B v), (Zj sh), (Zbc sh), (Zbd sh), (Zbe sh), (Zbf sh), (Zbg sh), (Zbh sh), (Zbl sh), (Zo sh), (Zce sh)]]]))) (Vif (decide (b_A = (↑(nat_lit 1 + 1) : Int))) (Need (Zci sh b_B) (Need (decide (b_B.toNat < List.length (Zz sh).lst)) (Q [[Cl.l [(Zw sh), (Zi sh), (Zcw sh b_B v), (Zbc sh), (Zbd sh), (Zbe sh), (Zbf sh), (Zbg sh), (Zbh sh), (Zbl sh), (Zo sh), (Zce sh)]]]))) (Vif (decide (b_A = (↑(nat_lit 2 + 1) : Int))) (Need (Zcj sh b_B) (Need (Zdj sh b_B) (Q [[Cl.l [(Zw sh), (Zi sh), (Zj sh), (Zcx sh b_B v), (Zbd sh), (Zbe sh), (Zbf sh), (Zbg sh), (Zbh sh), (Zbl sh), (Zo sh), (Zce sh)]]]))) (Vif (decide (b_A = (↑(nat_lit 3 + 1) : Int))) (Need (Zck sh b_B) (Need (Zdk sh b_B) (Q [[Cl.l [(Zw sh), (Zi sh), (Zj sh), (Zbc sh), (Zcy sh b_B v), (Zbe sh), (Zbf sh), (Zbg sh), (Zbh sh), (Zbl sh), (Zo sh), (Zce sh)]]]))) (Vif (decide (b_A = (↑(nat_lit 4 + 1) : Int))) (Need (Zbv sh b_B) (Need (Zdl sh b_B) (Q [[Cl.l [(Zw sh), (Zi sh), (Zj sh), (Zbc sh), (Zbd sh), (Zcz sh b_B v), (Zbf sh), (Zbg sh), (Zbh sh), (Zbl sh), (Zo sh), (Zce sh)]]]))) (Vif (decide (b_A = (↑(nat_lit 5 + 1) : Int))) (Need (Zbw sh b_B) (Need (Zdm sh b_B) (Q [[Cl.l [(Zw sh), (Zi sh), (Zj sh), (Zbc sh), (Zbd sh), (Zbe sh), (Zco sh b_B v), (Zbg sh), (Zbh sh), (Zbl sh), (Zo sh), (Zce sh)]]]))) (Vif (decide (b_A = (↑(nat_lit 6 + 1) : Int))) (Need (Zbx sh b_B) (Need (Zct sh b_B) (Q [[Cl.l [(Zw sh), (Zi sh), (Zj sh), (Zbc sh), (Zbd sh), (Zbe sh), (Zbf sh), (Zcp sh b_B v), (Zbh sh), (Zbl sh), (Zo sh), (Zce sh)]]]))) (Vif (decide (b_A = (↑(nat_lit 7 + 1) : Int))) (Need (Zby sh b_B) (Need (Zcu sh b_B) (Q [[Cl.l [(Zw sh), (Zi sh), (Zj sh), (Zbc sh), (Zbd sh), (Zbe sh), (Zbf sh), (Zbg sh), (Zda sh b_B v), (Zbl sh), (Zo sh), (Zce sh)]]]))) (Vif (decide (b_A = (↑(nat_lit 8 + 1) : Int))) (Need (Zcl sh b_B) (Need (Zdn sh b_B) (Q [[Cl.l [(Zw sh), (Zi sh), (Zj sh), (Zbc sh), (Zbd sh), (Zbe sh), (Zbf sh), (Zbg sh), (Zbh sh), [Cl.l (List.set (Zn sh).lst b_B.toNat [Cl.i v])], (Zo sh), (Zce sh)]]]))) (Vif (decide (b_A = (↑(nat_lit 9 + 1) : Int))) (Need (Zdc sh b_B) (Need (decide (b_B.toNat < List.length (Zbn sh).lst)) (Q [[Cl.l [(Zw sh), (Zi sh), (Zj sh), (Zbc sh), (Zbd sh), (Zbe sh), (Zbf sh), (Zbg sh), (Zbh sh), (Zbl sh), [Cl.l (List.set (Zbn sh).lst b_B.toNat [Cl.i v])], (Zce sh)]]]))) (Need (decide (0 <= b_B) && decide (b_B < (↑(List.length (Zs sh).lst) : Int))) (Need (decide (b_B.toNat < List.length (Zs sh).lst)) (Q [[Cl.l [(Zw sh), (Zi sh), (Zj sh), (Zbc sh), (Zbd sh), (Zbe sh), (Zbf sh), (Zbg sh), (Zbh sh), (Zbl sh), (Zo sh), [Cl.l (List.set (Zs sh).lst b_B.toNat [Cl.i v])]]]]))))))))))))))))))) (Need (decide (0 <= b_A) && decide (b_A < (↑(10+1) : Int))) (Vif (Zbu b_A) (Need (Zv sh b_B) (Need (Zbj sh b_B) (Q [[Cl.l [(Zbk sh b_B v), (Zi sh), (Zj sh), (Zbc sh), (Zbd sh), (Zbe sh), (Zbf sh), (Zbg sh), (Zbh sh), (Zbl sh), (Zo sh)]]]))) (Vif (Zcd b_A) (Need (Zch sh b_B) (Need (decide (b_B.toNat < List.length (Zbb sh).lst)) (Q [[Cl.l [(Zw sh), (Zdp sh b_B v), (Zj sh), (Zbc sh), (Zbd sh), (Zbe sh), (Zbf sh), (Zbg sh), (Zbh sh), (Zbl sh), (Zo sh)]]]))) (Vif (Zcg b_A) (Need (Zci sh b_B) (Need (decide (b_B.toNat < List.length (Zz sh).lst)) (Q [[Cl.l [(Zw sh), (Zi sh), (Zcw sh b_B v), (Zbc sh), (Zbd sh), (Zbe sh), (Zbf sh), (Zbg sh), (Zbh sh), (Zbl sh), (Zo sh)]]]))) (Vif (Zcm b_A) (Need (Zcj sh b_B) (Need (Zdj sh b_B) (Q [[Cl.l [(Zw sh), (Zi sh), (Zj sh), (Zcx sh b_B v), (Zbd sh), (Zbe sh), (Zbf sh), (Zbg sh), (Zbh sh), (Zbl sh), (Zo sh)]]]))) (Vif (Zcs b_A) (Need (Zck sh b_B) (Need (Zdk sh b_B) (Q [[Cl.l [(Zw sh), (Zi sh), (Zj sh), (Zbc sh), (Zcy sh b_B v), (Zbe sh), (Zbf sh), (Zbg sh), (Zbh sh), (Zbl sh), (Zo sh)]]]))) (Vif (decide (b_A = (↑(nat_lit 4 + 1) : Int))) (Need (Zbv sh b_B) (Need (Zdl sh b_B) (Q [[Cl.l [(Zw sh), (Zi sh), (Zj sh), (Zbc sh), (Zbd sh), (Zcz sh b_B v), (Zbf sh), (Zbg sh), (Zbh sh), (Zbl sh), (Zo sh)]]]))) (Vif (decide (b_A = (↑(nat_lit 5 + 1) : Int))) (Need (Zbw sh b_B) (Need (Zdm sh b_B) (Q [[Cl.l [(Zw sh), (Zi sh), (Zj sh), (Zbc sh), (Zbd sh), (Zbe sh), (Zco sh b_B v), (Zbg sh), (Zbh sh), (Zbl sh), (Zo sh)]]]))) (Vif (decide (b_A = (↑(nat_lit 6 + 1) : Int))) (Need (Zbx sh b_B) (Need (Zct sh b_B) (Q [[Cl.l [(Zw sh), (Zi sh), (Zj sh), (Zbc sh), (Zbd sh), (Zbe sh), (Zbf sh), (Zcp sh b_B v), (Zbh sh), (Zbl sh), (Zo sh)]]]))) (Vif (decide (b_A = (↑(nat_lit 7 + 1) : Int))) (Need (Zby sh b_B) (Need (Zcu sh b_B) (Q [[Cl.l [(Zw sh), (Zi sh), (Zj sh), (Zbc sh), (Zbd sh), (Zbe sh), (Zbf sh), (Zbg sh), (Zda sh b_B v), (Zbl sh), (Zo sh)]]]))) (Vif (decide (b_A = (↑(nat_lit 8 + 1) : Int))) (Need (Zcl sh b_B) (Need (Zdn sh b_B) (Q [[Cl.l [(Zw sh), (Zi sh), (Zj sh), (Zbc sh), (Zbd sh), (Zbe sh), (Zbf sh), (Zbg sh), (Zbh sh), [Cl.l (List.set (Zn sh).lst b_B.toNat [Cl.i v])], (Zo sh)]]]))) (Need (Zdc sh b_B) (Need (decide (b_B.toNat < List.length (Zbn sh).lst)) (Q [[Cl.l [(Zw sh), (Zi sh), (Zj sh), (Zbc sh), (Zbd sh), (Zbe sh), (Zbf sh), (Zbg sh), (Zbh sh), (Zbl sh), [Cl.l (List.set (Zbn sh).lst b_B.toNat [Cl.i v])]]]])))))))))))))))))) (Need (decide (0 <= b_A) && decide (b_A < (↑(9+1) : Int))) (Vif (Zbu b_A) (Need (Zv sh b_B) (Need (Zbj sh b_B) (Q [[Cl.l [(Zbk sh b_B v), (Zi sh), (Zj sh), (Zbc sh), (Zbd sh), (Zbe sh), (Zbf sh), (Zbg sh), (Zbh sh), (Zbl sh)]]]))) (Vif (Zcd b_A) (Need (Zch sh b_B) (Need (Zbs sh b_B) (Q [[Cl.l [(Zw sh), (Zdp sh b_B v), (Zj sh), (Zbc sh), (Zbd sh), (Zbe sh), (Zbf sh), (Zbg sh), (Zbh sh), (Zbl sh)]]]))) (Vif (Zcg b_A) (Need (Zci sh b_B) (Need (Zcb sh b_B) (Q [[Cl.l [(Zw sh), (Zi sh), (Zcw sh b_B v), (Zbc sh), (Zbd sh), (Zbe sh), (Zbf sh), (Zbg sh), (Zbh sh), (Zbl sh)]]]))) (Vif (Zcm b_A) (Need (Zcj sh b_B) (Need (Zdj sh b_B) (Q [[Cl.l [(Zw sh), (Zi sh), (Zj sh), (Zcx sh b_B v), (Zbd sh), (Zbe sh), (Zbf sh), (Zbg sh), (Zbh sh), (Zbl sh)]]]))) (Vif (Zcs b_A) (Need (Zck sh b_B) (Need (Zdk sh b_B) (Q [[Cl.l [(Zw sh), (Zi sh), (Zj sh), (Zbc sh), (Zcy sh b_B v), (Zbe sh), (Zbf sh), (Zbg sh), (Zbh sh), (Zbl sh)]]]))) (Vif (Zdi b_A) (Need (Zbv sh b_B) (Need (Zdl sh b_B) (Q [[Cl.l [(Zw sh), (Zi sh), (Zj sh), (Zbc sh), (Zbd sh), (Zcz sh b_B v), (Zbf sh), (Zbg sh), (Zbh sh), (Zbl sh)]]]))) (Vif (decide (b_A = (↑(5+1) : Int))) (Need (Zbw sh b_B) (Need (Zdm sh b_B) (Q [[Cl.l [(Zw sh), (Zi sh), (Zj sh), (Zbc sh), (Zbd sh), (Zbe sh), (Zco sh b_B v), (Zbg sh), (Zbh sh), (Zbl sh)]]]))) (Vif (decide (b_A = (↑(6+1) : Int))) (Need (Zbx sh b_B) (Need (Zct sh b_B) (Q [[Cl.l [(Zw sh), (Zi sh), (Zj sh), (Zbc sh), (Zbd sh), (Zbe sh), (Zbf sh), (Zcp sh b_B v), (Zbh sh), (Zbl sh)]]]))) (Vif (decide (b_A = (↑(7+1) : Int))) (Need (Zby sh b_B) (Need (Zcu sh b_B) (Q [[Cl.l [(Zw sh), (Zi sh), (Zj sh), (Zbc sh), (Zbd sh), (Zbe sh), (Zbf sh), (Zbg sh), (Zda sh b_B v), (Zbl sh)]]]))) (Need (Zcl sh b_B) (Need (Zdn sh b_B) (Q [[Cl.l [(Zw sh), (Zi sh), (Zj sh), (Zbc sh), (Zbd sh), (Zbe sh), (Zbf sh), (Zbg sh), (Zbh sh), [Cl.l (List.set (Zn sh).lst b_B.toNat [Cl.i v])]]]]))))))))))))))))) (Need (decide (0 <= b_A) && decide (b_A < (↑(8+1) : Int))) (Vif (Zbu b_A) (Need (Zv sh b_B) (Need (Zbj sh b_B) (Q [[Cl.l [(Zbk sh b_B v), (Zbq sh), (Zbr sh), (Zbt sh), (Zca sh), (Zcf sh), (Zcr sh), (Zbm sh), [Cl.l (Zdh sh).lst]]]]))) (Vif (Zcd b_A) (Need (Zbi sh b_B) (Need (Zbs sh b_B) (Q [[Cl.l [(Zw sh), (Zcc sh b_B v), (Zbr sh), (Zbt sh), (Zca sh), (Zcf sh), (Zcr sh), (Zbm sh), [Cl.l (Zdh sh).lst]]]]))) (Vif (Zcg b_A) (Need (Zbo sh b_B) (Need (Zcb sh b_B) (Q [[Cl.l [(Zw sh), (Zbq sh), (Zcw sh b_B v), (Zbt sh), (Zca sh), (Zcf sh), (Zcr sh), (Zbm sh), [Cl.l (Zdh sh).lst]]]]))) (Vif (Zcm b_A) (Need (Zbp sh b_B) (Need (Zcn sh b_B) (Q [[Cl.l [(Zw sh), (Zi sh), (Zj sh), (Zcx sh b_B v), (Zbd sh), (Zbe sh), (Zbf sh), (Zbg sh), (Zbh sh)]]]))) (Vif (Zcs b_A) (Need (Zbz sh b_B) (Need (Zcv sh b_B) (Q [[Cl.l [(Zw sh), (Zi sh), (Zj sh), (Zbc sh), (Zcy sh b_B v), (Zbe sh), (Zbf sh), (Zbg sh), (Zbh sh)]]]))) (Vif (Zdi b_A) (Need (Zbv sh b_B) (Need (Zdo sh b_B) (Q [[Cl.l [(Zw sh), (Zi sh), (Zj sh), (Zbc sh), (Zbd sh), (Zcz sh b_B v), (Zbf sh), (Zbg sh), (Zbh sh)]]]))) (Vif (decide (b_A = (↑(5+1) : Int))) (Need (Zbw sh b_B) (Need (decide (b_B.toNat < List.length (Zx sh).lst)) (Q [[Cl.l [(Zw sh), (Zi sh), (Zj sh), (Zbc sh), (Zbd sh), (Zbe sh), (Zco sh b_B v), (Zbg sh), (Zbh sh)]]]))) (Vif (decide (b_A = (↑(6+1) : Int))) (Need (Zbx sh b_B) (Need (Zct sh b_B) (Q [[Cl.l [(Zw sh), (Zi sh), (Zj sh), (Zbc sh), (Zbd sh), (Zbe sh), (Zbf sh), (Zcp sh b_B v), (Zbh sh)]]]))) (Need (Zby sh b_B) (Need (Zcu sh b_B) (Q [[Cl.l [(Zw sh), (Zi sh), (Zj sh), (Zbc sh), (Zbd sh), (Zbe sh), (Zbf sh), (Zbg sh), (Zda sh b_B v)]]])))))))))))))))) (Need (decide (0 <= b_A) && decide (b_A < (↑(7+1) : Int))) (Vif (Zbu b_A) (Need (Zv sh b_B) (Need (Zbj sh b_B) (Q [[Cl.l [(Zbk sh b_B v), (Zbq sh), (Zbr sh), (Zbt sh), (Zca sh), (Zcf sh), (Zcr sh), (Zbm sh)]]]))) (Vif (Zcd b_A) (Need (Zbi sh b_B) (Need (Zbs sh b_B) (Q [[Cl.l [(Zw sh), (Zcc sh b_B v), (Zbr sh), (Zbt sh), (Zca sh), (Zcf sh), (Zcr sh), (Zbm sh)]]]))) (Vif (Zcg b_A) (Need (Zbo sh b_B) (Need (Zcb sh b_B) (Q [[Cl.l [(Zw sh), (Zbq sh), (Zcq sh b_B v), (Zbt sh), (Zca sh), (Zcf sh), (Zcr sh), (Zbm sh)]]]))) (Vif (Zcm b_A) (Need (Zbp sh b_B) (Need (Zcn sh b_B) (Q [[Cl.l [(Zw sh), (Zbq sh), (Zbr sh), (Zdb sh b_B v), (Zca sh), (Zcf sh), (Zcr sh), (Zbm sh)]]]))) (Vif (Zcs b_A) (Need (Zbz sh b_B) (Need (Zcv sh b_B) (Q [[Cl.l [(Zw sh), (Zbq sh), (Zbr sh), (Zbt sh), [Cl.l (List.set (Zt sh).lst b_B.toNat [Cl.i v])], (Zcf sh), (Zcr sh), (Zbm sh)]]]))) (Vif (Zdi b_A) (Need (Zdd sh b_B) (Need (Zdo sh b_B) (Q [[Cl.l [(Zw sh), (Zbq sh), (Zbr sh), (Zbt sh), (Zca sh), [Cl.l (List.set (Zu sh).lst b_B.toNat [Cl.i v])], (Zcr sh), (Zbm sh)]]]))) (Vif (decide (b_A = (↑(5+1) : Int))) (Need (decide (0 <= b_B) && decide (b_B < (↑(List.length (Zx sh).lst) : Int))) (Need (decide (b_B.toNat < List.length (Zx sh).lst)) (Q [[Cl.l [(Zw sh), (Zbq sh), (Zbr sh), (Zbt sh), (Zca sh), (Zcf sh), (Zco sh b_B v), (Zbm sh)]]]))) (Need (decide (0 <= b_B) && decide (b_B < (↑(List.length (Zdg sh).lst) : Int))) (Need (decide (b_B.toNat < List.length (Zdg sh).lst)) (Q [[Cl.l [(Zw sh), (Zbq sh), (Zbr sh), (Zbt sh), (Zca sh), (Zcf sh), (Zcr sh), (Zcp sh b_B v)]]]))))))))))))))) (Need (decide (0 <= b_A) && decide (b_A < (↑(6+1) : Int))) (Vif (Zbu b_A) (Need (Zv sh b_B) (Need (Zbj sh b_B) (Q [[Cl.l [(Zbk sh b_B v), (Zbq sh), (Zbr sh), (Zbt sh), (Zca sh), (Zcf sh), (Zcr sh)]]]))) (Vif (Zcd b_A) (Need (Zbi sh b_B) (Need (Zbs sh b_B) (Q [[Cl.l [(Zw sh), (Zcc sh b_B v), (Zbr sh), (Zbt sh), (Zca sh), (Zcf sh), (Zcr sh)]]]))) (Vif (Zcg b_A) (Need (Zbo sh b_B) (Need (Zcb sh b_B) (Q [[Cl.l [(Zw sh), (Zbq sh), (Zcq sh b_B v), (Zbt sh), (Zca sh), (Zcf sh), (Zcr sh)]]]))) (Vif (Zcm b_A) (Need (Zbp sh b_B) (Need (Zcn sh b_B) (Q [[Cl.l [(Zw sh), (Zbq sh), (Zbr sh), (Zdb sh b_B v), (Zca sh), (Zcf sh), (Zcr sh)]]]))) (Vif (Zcs b_A) (Need (Zbz sh b_B) (Need (Zcv sh b_B) (Q [[Cl.l [(Zw sh), (Zbq sh), (Zbr sh), (Zbt sh), [Cl.l (List.set (Zt sh).lst b_B.toNat [Cl.i v])], (Zcf sh), (Zcr sh)]]]))) (Vif (Zdi b_A) (Need (Zdd sh b_B) (Need (Zdo sh b_B) (Q [[Cl.l [(Zw sh), (Zbq sh), (Zbr sh), (Zbt sh), (Zca sh), [Cl.l (List.set (Zu sh).lst b_B.toNat [Cl.i v])], (Zcr sh)]]]))) (Need (decide (0 <= b_B) && decide (b_B < (↑(List.length (Zx sh).lst) : Int))) (Need (decide (b_B.toNat < List.length (Zx sh).lst)) (Q [[Cl.l [(Zw sh), (Zbq sh), (Zbr sh), (Zbt sh), (Zca sh), (Zcf sh), [Cl.l (List.set (Zx sh).lst b_B.toNat [Cl.i v])]]]])))))))))))))) (Need (decide (0 <= b_A) && decide (b_A < (↑(5+1) : Int))) (Vif (Zbu b_A) (Need (Zv sh b_B) (Need (Zbj sh b_B) (Q [[Cl.l [(Zbk sh b_B v), (Zbq sh), (Zbr sh), (Zbt sh), (Zca sh), (Zcf sh)]]]))) (Vif (Zcd b_A) (Need (Zbi sh b_B) (Need (Zbs sh b_B) (Q [[Cl.l [(Zw sh), (Zcc sh b_B v), (Zbr sh), (Zbt sh), (Zca sh), (Zcf sh)]]]))) (Vif (Zcg b_A) (Need (Zbo sh b_B) (Need (Zcb sh b_B) (Q [[Cl.l [(Zw sh), (Zbq sh), (Zcq sh b_B v), (Zbt sh), (Zca sh), (Zcf sh)]]]))) (Vif (Zcm b_A) (Need (Zbp sh b_B) (Need (Zcn sh b_B) (Q [[Cl.l [(Zw sh), (Zbq sh), (Zbr sh), (Zdb sh b_B v), (Zca sh), (Zcf sh)]]]))) (Vif (Zcs b_A) (Need (Zbz sh b_B) (Need (Zcv sh b_B) (Q [[Cl.l [(Zw sh), (Zbq sh), (Zbr sh), (Zbt sh), [Cl.l (List.set (Zt sh).lst b_B.toNat [Cl.i v])], (Zcf sh)]]]))) (Need (Zdd sh b_B) (Need (Zdo sh b_B) (Q [[Cl.l [(Zw sh), (Zbq sh), (Zbr sh), (Zbt sh), (Zca sh), [Cl.l (List.set (Zu sh).lst b_B.toNat [Cl.i v])]]]]))))))))))))) (Need (decide (0 <= b_A) && decide (b_A < (↑(4+1) : Int))) (Vif (Zbu b_A) (Need (Zv sh b_B) (Need (Zbj sh b_B) (Q [[Cl.l [(Zbk sh b_B v), (Zbq sh), (Zbr sh), (Zbt sh), (Zca sh)]]]))) (Vif (Zcd b_A) (Need (Zbi sh b_B) (Need (Zbs sh b_B) (Q [[Cl.l [(Zw sh), (Zcc sh b_B v), (Zbr sh), (Zbt sh), (Zca sh)]]]))) (Vif (Zcg b_A) (Need (Zbo sh b_B) (Need (Zcb sh b_B) (Q [[Cl.l [(Zw sh), (Zbq sh), (Zcq sh b_B v), (Zbt sh), (Zca sh)]]]))) (Vif (Zcm b_A) (Need (Zbp sh b_B) (Need (Zcn sh b_B) (Q [[Cl.l [(Zw sh), (Zbq sh), (Zbr sh), (Zdb sh b_B v), (Zca sh)]]]))) (Need (Zbz sh b_B) (Need (Zcv sh b_B) (Q [[Cl.l [(Zw sh), (Zbq sh), (Zbr sh), (Zbt sh), [Cl.l (List.set (Zt sh).lst b_B.toNat [Cl.i v])]]]])))))))))))) (Need (decide (0 <= b_A) && decide (b_A < (↑(3+1) : Int))) (Vif (Zbu b_A) (Need (Zv sh b_B) (Need (Zbj sh b_B) (Q [[Cl.l [(Zbk sh b_B v), (Zbq sh), (Zbr sh), (Zbt sh)]]]))) (Vif (Zcd b_A) (Need (Zbi sh b_B) (Need (Zbs sh b_B) (Q [[Cl.l [(Zw sh), (Zcc sh b_B v), (Zbr sh), (Zbt sh)]]]))) (Vif (Zcg b_A) (Need (Zbo sh b_B) (Need (Zcb sh b_B) (Q [[Cl.l [(Zw sh), (Zbq sh), (Zcq sh b_B v), (Zbt sh)]]]))) (Need (Zbp sh b_B) (Need (Zcn sh b_B) (Q [[Cl.l [(Zw sh), (Zbq sh), (Zbr sh), (Zdb sh b_B v)]]]))))))))))) (Need (decide (0 <= b_A) && decide (b_A < (↑(2+1) : Int))) (Vif (Zbu b_A) (Need (Zv sh b_B) (Need (Zbj sh b_B) (Q [[Cl.l [(Zbk sh b_B v), (Zbq sh), (Zbr sh)]]]))) (Vif (Zcd b_A) (Need (Zbi sh b_B) (Need (Zbs sh b_B) (Q [[Cl.l [(Zw sh), (Zcc sh b_B v), (Zbr sh)]]]))) (Need (Zbo sh b_B) (Need (Zcb sh b_B) (Q [[Cl.l [(Zw sh), (Zbq sh), (Zcq sh b_B v)]]])))))))))) (Need (decide (0 <= b_A) && decide (b_A < (↑(1+1) : Int))) (Vif (Zbu b_A) (Need (Zv sh b_B) (Need (Zbj sh b_B) (Q [[Cl.l [(Zbk sh b_B v), (Zbq sh)]]]))) (Need (Zbi sh b_B) (Need (Zbs sh b_B) (Q [[Cl.l [(Zw sh), (Zcc sh b_B v)]]]))))))))) (Need (decide (0 <= b_A) && decide (b_A < (↑(1 : Nat) : Int))) (Need (Zv sh b_B) (Need (Zbj sh b_B) (Q [[Cl.l [(Zbk sh b_B v)]]])))))))) (false = false /\ False)
theorem Xol (W : InW) (sh b_A b_B v Q) : Yx2 (cxT Try.prog TT T18 1000 50) 1000 37 [.rs _ sh, .agg [.si .i64 b_A, .si .i64 b_B], .si .i64 v] [] 0 (Y2i [(false, [.fro [.sl Jc]])] Q) (fun _ _ _ _ => Stuck 421) = Xe7 sh b_A b_B v Q := by kernel_rfl
abbrev Xdt : List AT := [.one (.sl Jb), .agg [.int .i64, .int .i64], .one (.int .i64)]
theorem Xqm {pre : DS -> Prop} {res : DS -> DS} (hyp_ : ∀ (W : InW) (sh : Ro Jb) (b_A b_B v : Int), pre [[.l sh.xs], [.i b_A, .i b_B], [.i v]] -> ∀ Q : DS -> Prop, Q (res [[.l sh.xs], [.i b_A, .i b_B], [.i v]]) -> Xe7 sh b_A b_B v Q) : PureOk Try.prog 37 Xdt [(false, [.fro [.sl Jc]])] pre res :=
 PureOk.of' (fun W => @TT W) (fun W => @Xc W) Xa T18 1000 50 fun W sh b_A b_B v hp =>
  (Xol W sh b_A b_B v (fun o => o = res [[.l sh.xs], [.i b_A, .i b_B], [.i v]])).mpr (hyp_ W sh b_A b_B v hp _ rfl)
abbrev Xhd (ds : DS) : DS := match ds with | [[.l sh], [.i q, .i j], [.i v]] => [[.l (Sp.withD sh q.toNat j.toNat v)]] | _ => []
abbrev Xhh (ds : DS) : Prop := match ds with | [[.l sh], [.i q, .i j], [.i v]] => Sp.Few sh /\ (0 <= q /\ q < sh.length) /\ 0 <= j /\ j < (Sp.row sh q.toNat).length | _ => False
theorem Xd [InW] {sh : Dt} {q j v : Int} {Q : DS -> Prop} {n : Nat} (m : Nat) (hq : q = (m : Int)) (h5 : 0 <= j) (h6 : j < (Sp.row sh q.toNat).length) {R : Dt} (h : Q [[.l (Sp.withR sh q.toNat j.toNat v 0 n)]]) (e : Sp.withR sh m j.toNat v 0 n = R) :
  Need (decide (0 <= j) && decide (j < ((Sp.row sh m).length : Int))) (Need (decide (j.toNat < (Sp.row sh m).length)) (Q [[.l R]])) := by
 subst hq;rw [Int.toNat_natCast] at h6 h;rw [e] at h;exact ned (by simp only [Bool.and_eq_true, decide_eq_true_eq]; exact ⟨h5, h6⟩) (nedd (by omega) h)
theorem Xr8 : PureOk Try.prog 37 Xdt [(false, [.fro [.sl Jc]])] Xhh Xhd :=
 Xqm fun W sh q j v hp Q h => by
  obtain ⟨⟨h1, h2⟩, ⟨h3, h4⟩, h5, h6⟩ : Sp.Few sh.xs /\ (0 <= q /\ q < sh.xs.length) /\ 0 <= j /\ j < (Sp.row sh.xs q.toNat).length := hp;have h : Q [[.l (Sp.withR sh.xs q.toNat j.toNat v 0 sh.xs.length)]] := h;unfold Xe7;delta Zbk Zbj Zv Zcc Zw Zbs Zbi Zbq Zcq Zcb Zbo Zbr Zdb Zcn Zbp Zbt Zcv Zbz Zca Zdo Zdd Zcf Zcr Zcp Zbm Zco Zda Zbg Zbf Zbe Zbd Zbc Zj Zi Zcu Zby Zbh Zct Zbx Zbw Zcz Zbv Zcy Zcx Zcw Zdn Zcl Zbl Zdm Zdl Zdk Zck Zdj Zcj Zci Zdp Zch Zdc Zo Zce Zde Ze Zp Zbu Zq Zr Zt Zu Zx Zf Zdg Zg Zh Zk Zm Zl Zz Zbb Zdh Zn Zbn Zs Zy Zd Zb Zcd Zcg Zcm Zcs Zdi Zdf Zba;simp only [Nat.zero_add, Nat.reduceAdd, Int.ofNat_eq_natCast, Int.toNat_natCast, show Int.toNat 0 = 0 from rfl, show ∀ k, (cel sh.xs k 0).lst = Sp.row sh.xs k from fun _ => rfl];have hb : ∀ k, (Sp.row sh.xs k).length <= 4 := fun k => by
   rcases Nat.lt_or_ge k sh.xs.length with a | a
   ·exact h2 k a
   ·have : Sp.row sh.xs k = [] := by unfold Sp.row cel; rw [List.getD_eq_getElem?_getD (l := sh.xs), List.getElem?_eq_none a]; rfl
    rw [this]; simp
  refine vifd (fun e => ?_) fun e => by omega
  have b0 := hb 0;refine ned (by simp only [Bool.and_eq_true, decide_eq_true_eq]; omega) (nedd (by omega) (nedd (by omega) ?_));refine vifd (fun e => ?_) fun e => ?_
  rotate_left
  ·rw [show sh.xs.length = 1 by omega] at h;refine ned (by simp only [Bool.and_eq_true, decide_eq_true_eq]; omega) ?_;exact Xd 0 (by omega) h5 h6 h rfl
  have b1 := hb 1;refine ned (by simp only [Bool.and_eq_true, decide_eq_true_eq]; omega) (nedd (by omega) (nedd (by omega) ?_));refine vifd (fun e => ?_) fun e => ?_
  rotate_left
  ·rw [show sh.xs.length = 2 by omega] at h;refine ned (by simp only [Bool.and_eq_true, decide_eq_true_eq]; omega) ?_
   iterate 1 refine vifd (fun e => Xd _ e h5 h6 h rfl) fun _ => ?_
   exact Xd 1 (by omega) h5 h6 h rfl
  have b2 := hb 2;refine ned (by simp only [Bool.and_eq_true, decide_eq_true_eq]; omega) (nedd (by omega) (nedd (by omega) ?_));refine vifd (fun e => ?_) fun e => ?_
  rotate_left
  ·rw [show sh.xs.length = 3 by omega] at h;refine ned (by simp only [Bool.and_eq_true, decide_eq_true_eq]; omega) ?_
   iterate 2 refine vifd (fun e => Xd _ e h5 h6 h rfl) fun _ => ?_
   exact Xd 2 (by omega) h5 h6 h rfl
  have b3 := hb 3;refine ned (by simp only [Bool.and_eq_true, decide_eq_true_eq]; omega) (nedd (by omega) (nedd (by omega) ?_));refine vifd (fun e => ?_) fun e => ?_
  rotate_left
  ·rw [show sh.xs.length = 4 by omega] at h;refine ned (by simp only [Bool.and_eq_true, decide_eq_true_eq]; omega) ?_
   iterate 3 refine vifd (fun e => Xd _ e h5 h6 h rfl) fun _ => ?_
   exact Xd 3 (by omega) h5 h6 h rfl
  have b4 := hb 4;refine ned (by simp only [Bool.and_eq_true, decide_eq_true_eq]; omega) (nedd (by omega) (nedd (by omega) ?_));refine vifd (fun e => ?_) fun e => ?_
  rotate_left
  ·rw [show sh.xs.length = 5 by omega] at h;refine ned (by simp only [Bool.and_eq_true, decide_eq_true_eq]; omega) ?_
   iterate 4 refine vifd (fun e => Xd _ e h5 h6 h rfl) fun _ => ?_
   exact Xd 4 (by omega) h5 h6 h rfl
  have b5 := hb 5;refine ned (by simp only [Bool.and_eq_true, decide_eq_true_eq]; omega) (nedd (by omega) (nedd (by omega) ?_));refine vifd (fun e => ?_) fun e => ?_
  rotate_left
  ·rw [show sh.xs.length = 6 by omega] at h;refine ned (by simp only [Bool.and_eq_true, decide_eq_true_eq]; omega) ?_
   iterate 5 refine vifd (fun e => Xd _ e h5 h6 h rfl) fun _ => ?_
   exact Xd 5 (by omega) h5 h6 h rfl
  have b6 := hb 6;refine ned (by simp only [Bool.and_eq_true, decide_eq_true_eq]; omega) (nedd (by omega) (nedd (by omega) ?_));refine vifd (fun e => ?_) fun e => ?_
  rotate_left
  ·rw [show sh.xs.length = 7 by omega] at h;refine ned (by simp only [Bool.and_eq_true, decide_eq_true_eq]; omega) ?_
   iterate 6 refine vifd (fun e => Xd _ e h5 h6 h rfl) fun _ => ?_
   exact Xd 6 (by omega) h5 h6 h rfl
  have b7 := hb 7;refine ned (by simp only [Bool.and_eq_true, decide_eq_true_eq]; omega) (nedd (by omega) (nedd (by omega) ?_));refine vifd (fun e => ?_) fun e => ?_
  rotate_left
  ·rw [show sh.xs.length = 8 by omega] at h;refine ned (by simp only [Bool.and_eq_true, decide_eq_true_eq]; omega) ?_
   iterate 7 refine vifd (fun e => Xd _ e h5 h6 h rfl) fun _ => ?_
   exact Xd 7 (by omega) h5 h6 h rfl
  have b8 := hb 8;refine ned (by simp only [Bool.and_eq_true, decide_eq_true_eq]; omega) (nedd (by omega) (nedd (by omega) ?_));refine vifd (fun e => ?_) fun e => ?_
  rotate_left
  ·rw [show sh.xs.length = 9 by omega] at h;refine ned (by simp only [Bool.and_eq_true, decide_eq_true_eq]; omega) ?_
   iterate 8 refine vifd (fun e => Xd _ e h5 h6 h rfl) fun _ => ?_
   exact Xd 8 (by omega) h5 h6 h rfl
  have b9 := hb 9;refine ned (by simp only [Bool.and_eq_true, decide_eq_true_eq]; omega) (nedd (by omega) (nedd (by omega) ?_));refine vifd (fun e => ?_) fun e => ?_
  rotate_left
  ·rw [show sh.xs.length = 10 by omega] at h;refine ned (by simp only [Bool.and_eq_true, decide_eq_true_eq]; omega) ?_
   iterate 9 refine vifd (fun e => Xd _ e h5 h6 h rfl) fun _ => ?_
   exact Xd 9 (by omega) h5 h6 h rfl
  have b10 := hb 10;refine ned (by simp only [Bool.and_eq_true, decide_eq_true_eq]; omega) (nedd (by omega) (nedd (by omega) ?_));refine vifd (fun e => ?_) fun e => ?_
  rotate_left
  ·rw [show sh.xs.length = 11 by omega] at h;refine ned (by simp only [Bool.and_eq_true, decide_eq_true_eq]; omega) ?_
   iterate 10 refine vifd (fun e => Xd _ e h5 h6 h rfl) fun _ => ?_
   exact Xd 10 (by omega) h5 h6 h rfl
  have b11 := hb 11;refine ned (by simp only [Bool.and_eq_true, decide_eq_true_eq]; omega) (nedd (by omega) (nedd (by omega) ?_));refine vifd (fun e => ?_) fun e => ?_
  rotate_left
  ·rw [show sh.xs.length = 12 by omega] at h;refine ned (by simp only [Bool.and_eq_true, decide_eq_true_eq]; omega) ?_
   iterate 11 refine vifd (fun e => Xd _ e h5 h6 h rfl) fun _ => ?_
   exact Xd 11 (by omega) h5 h6 h rfl
  omega
def Xpc : PC Try.prog := ⟨37, Xdt, [(false, [.fro [.sl Jc]])], Xhh, Xhd, Xr8⟩
namespace Sp
def prow (d : Dt) (i : Nat) : Nat -> Nat -> List (Nat × Nat)
 | _, 0 => []
 | j, n + 1 => (if bx d j = 2 then [(i, j)] else []) ++ prow d i (j + 1) n
def pall (sh : Dt) : Nat -> Nat -> List (Nat × Nat)
 | _, 0 => []
 | i, n + 1 => prow (row sh i) i 0 (row sh i).length ++ pall sh (i + 1) n
def pos (sh : Dt) : List (Nat × Nat) := pall sh 0 sh.length
def prC (p : Nat × Nat) : List Cl := [.i p.1, .i p.2]
theorem unsRow_pos (d : Dt) (i : Nat) : ∀ n j, unsRow d i j n = (prow d i j n).map prC
 | 0, _ => rfl
 | n + 1, j => by
  simp only [unsRow, prow, List.map_append, unsRow_pos d i n]
  split <;> rfl
theorem unsAll_pos (sh : Dt) : ∀ n i, unsAll sh i n = (pall sh i n).map prC
 | 0, _ => rfl
 | n + 1, i => by simp only [unsAll, pall, List.map_append, unsAll_pos sh n, unsRow_pos]
theorem uns_pos (sh : Dt) : uns sh = (pos sh).map prC := unsAll_pos sh _ _
theorem uns_len (sh : Dt) : (uns sh).length = (pos sh).length := by rw [uns_pos, List.length_map]
theorem mem_prow {d : Dt} {i : Nat} {p : Nat × Nat} : ∀ {n j : Nat}, p ∈ prow d i j n ↔ p.1 = i /\ j <= p.2 /\ p.2 < j + n /\ bx d p.2 = 2
 | 0, j => by simp [prow]; omega
 | n + 1, j => by
  simp only [prow, List.mem_append, mem_prow (n := n)]
  by_cases e : bx d j = 2
  ·simp only [e, if_true, List.mem_singleton];constructor
   ·rintro (h | ⟨h1, h2, h3, h4⟩)
    ·subst h; exact ⟨rfl, Nat.le_refl _, by show j < _; omega, e⟩
    ·exact ⟨h1, by omega, by omega, h4⟩
   ·rintro ⟨h1, h2, h3, h4⟩;rcases Nat.eq_or_lt_of_le h2 with c | c
    ·exact .inl (Prod.ext h1 c.symm)
    ·exact .inr ⟨h1, by omega, by omega, h4⟩
  ·simp only [e, if_false, List.not_mem_nil, false_or];constructor
   ·rintro ⟨h1, h2, h3, h4⟩;exact ⟨h1, by omega, by omega, h4⟩
   ·rintro ⟨h1, h2, h3, h4⟩;rcases Nat.eq_or_lt_of_le h2 with c | c
    ·exact absurd (c ▸ h4) e
    ·exact ⟨h1, by omega, by omega, h4⟩
theorem mem_pall {sh : Dt} {p : Nat × Nat} : ∀ {n i : Nat}, p ∈ pall sh i n ↔ i <= p.1 /\ p.1 < i + n /\ p.2 < (row sh p.1).length /\ bx (row sh p.1) p.2 = 2
 | 0, i => by simp [pall]; omega
 | n + 1, i => by
  simp only [pall, List.mem_append, mem_pall (n := n), mem_prow];constructor
  ·rintro (⟨h1, h2, h3, h4⟩ | ⟨h1, h2, h3, h4⟩)
   ·subst h1; exact ⟨Nat.le_refl _, by omega, by omega, h4⟩
   ·exact ⟨by omega, by omega, h3, h4⟩
  ·rintro ⟨h1, h2, h3, h4⟩;rcases Nat.eq_or_lt_of_le h1 with c | c
   ·left; rw [c]; exact ⟨rfl, by omega, by omega, h4⟩
   ·right; exact ⟨by omega, by omega, h3, h4⟩
theorem mem_pos {sh : Dt} {p : Nat × Nat} : p ∈ pos sh ↔ p.1 < sh.length /\ p.2 < (row sh p.1).length /\ bx (row sh p.1) p.2 = 2 := by
 unfold pos; rw [mem_pall]; constructor
 ·rintro ⟨_, h2, h3⟩; exact ⟨by omega, h3⟩
 ·rintro ⟨h2, h3⟩; exact ⟨Nat.zero_le _, by omega, h3⟩
theorem prow_nd (d : Dt) (i : Nat) : ∀ n j, (prow d i j n).Nodup
 | 0, _ => List.nodup_nil
 | n + 1, j => by
  simp only [prow]
  split
  ·refine List.nodup_cons.2 ⟨fun h => ?_, prow_nd d i n (j + 1)⟩;have := (mem_prow.1 h).2.1;simp at this; omega
  ·exact prow_nd d i n (j + 1)
theorem pall_nd (sh : Dt) : ∀ n i, (pall sh i n).Nodup
 | 0, _ => List.nodup_nil
 | n + 1, i => by
  simp only [pall];refine List.nodup_append.2 ⟨prow_nd _ _ _ _, pall_nd sh n (i + 1), fun a ha b hb e => ?_⟩;subst e;have h1 := (mem_prow.1 ha).1;have h2 := (mem_pall.1 hb).1;omega
theorem pos_nd (sh : Dt) : (pos sh).Nodup := pall_nd _ _ _
theorem withR_len (sh : Dt) (q j : Nat) (v : Int) : ∀ n i, (withR sh q j v i n).length = n
 | 0, _ => rfl
 | n + 1, i => by simp [withR, withR_len sh q j v n]
theorem withD_len (sh : Dt) (q j : Nat) (v : Int) : (withD sh q j v).length = sh.length := withR_len _ _ _ _ _ _
theorem row_cons0 (a : Dt) (l : Dt) : row ([.l a] :: l) 0 = a := rfl
theorem row_consS (a : List Cl) (l : Dt) (k : Nat) : row (a :: l) (k + 1) = row l k := rfl
theorem withR_row (sh : Dt) (q j : Nat) (v : Int) : ∀ n i k, k < n -> row (withR sh q j v i n) k = if i + k = q then (row sh (i + k)).set j [.i v] else row sh (i + k)
 | 0, _, _, h => by omega
 | n + 1, i, 0, _ => by simp only [withR, row_cons0, Nat.add_zero]
 | n + 1, i, k + 1, h => by
  simp only [withR, row_consS];rw [withR_row sh q j v n (i + 1) k (by omega), show i + 1 + k = i + (k + 1) by omega]
theorem row_out {sh : Dt} {k : Nat} (h : sh.length <= k) : row sh k = [] := by
 unfold row cel;rw [List.getD_eq_getElem?_getD (l := sh), List.getElem?_eq_none h]; rfl
theorem withD_row (sh : Dt) (q j : Nat) (v : Int) (k : Nat) (hk : k < sh.length) : row (withD sh q j v) k = if k = q then (row sh k).set j [.i v] else row sh k := by
 unfold withD; rw [withR_row _ _ _ _ _ _ _ hk]; simp
theorem withD_rlen (sh : Dt) (q j : Nat) (v : Int) (k : Nat) : (row (withD sh q j v) k).length = (row sh k).length := by
 rcases Nat.lt_or_ge k sh.length with h | h
 ·rw [withD_row _ _ _ _ _ h]; split <;> simp
 ·rw [row_out h, row_out (by rw [withD_len]; exact h)]
theorem bx_set (d : Dt) (j k : Nat) (v : Int) (h : k < d.length) : bx (d.set j [.i v]) k = if k = j then v else bx d k := by
 unfold bx cel;rw [List.getD_eq_getElem?_getD (l := d.set j [.i v]), List.getElem?_set]
 by_cases e : j = k
 ·subst e; simp [h, Cl.int]
 ·simp [e, Ne.symm e]
theorem withD_bx (sh : Dt) (q j : Nat) (v : Int) (k b : Nat) (hk : k < sh.length) (hb : b < (row sh k).length) : bx (row (withD sh q j v) k) b = if (k, b) = (q, j) then v else bx (row sh k) b := by
 rw [withD_row _ _ _ _ _ hk]
 by_cases e : k = q
 ·subst e; rw [if_pos rfl, bx_set _ _ _ _ hb]; simp
 ·rw [if_neg e, if_neg (by simp [e])]
theorem prow_f {d d' : Dt} {i : Nat} {p : Nat × Nat} (h : ∀ j, j < d.length -> (bx d' j = 2 ↔ bx d j = 2 /\ (i, j) ≠ p)) : ∀ n j, j + n <= d.length -> prow d' i j n = (prow d i j n).filter (fun x => decide (x ≠ p))
 | 0, _, _ => rfl
 | n + 1, j, hj => by
  simp only [prow, List.filter_append, prow_f h n (j + 1) (by omega)];have := h j (by omega)
  by_cases e : bx d j = 2
  ·by_cases e2 : (i, j) = p
   ·rw [if_neg (fun c => (this.1 c).2 e2)]; simp [e, e2]
   ·rw [if_pos (this.2 ⟨e, e2⟩)]; simp [e, e2]
  ·rw [if_neg (fun c => e (this.1 c).1)]; simp [e]
theorem pos_with {sh : Dt} {q j : Nat} {v : Int} (hv : v ≠ 2) : pos (withD sh q j v) = (pos sh).filter (fun x => decide (x ≠ (q, j))) := by
 unfold pos;rw [withD_len]
 suffices h : ∀ n i, i + n <= sh.length -> pall (withD sh q j v) i n = (pall sh i n).filter (fun x => decide (x ≠ (q, j))) from h _ _ (by omega)
 intro n
 induction n with
 | zero => intro i _; rfl
 | succ n ih =>
  intro i hi;simp only [pall, List.filter_append, ih (i + 1) (by omega), withD_rlen];rw [prow_f (d := row sh i) (p := (q, j)) (fun b hb => ?_) _ _ (by omega)];rw [withD_bx _ _ _ _ _ _ (by omega) hb]
  by_cases e : (i, b) = (q, j)
  ·rw [if_pos e]; simp [e, hv]
  ·rw [if_neg e]; simp [e]
theorem filter_ne_tl {p : Nat × Nat} : ∀ {l : List (Nat × Nat)}, p ∉ l -> l.filter (fun x => decide (x ≠ p)) = l
 | [], _ => rfl
 | a :: l, h => by
  have h1 : a ≠ p := fun e => h (e ▸ List.mem_cons_self);have h2 : p ∉ l := fun e => h (List.mem_cons_of_mem _ e);simp [h1];intro a b c d;exact h2 (d ▸ c)
theorem pos_with_tl {sh : Dt} {p : Nat × Nat} {ps : List (Nat × Nat)} {v : Int} (hv : v ≠ 2) (h : pos sh = p :: ps) : pos (withD sh p.1 p.2 v) = ps := by
 have hn := pos_nd sh;rw [h] at hn;rw [pos_with hv, h, List.filter_cons_of_neg (by simp), filter_ne_tl (List.nodup_cons.1 hn).1]
theorem Few.withD {sh : Dt} (h : Few sh) (q j : Nat) (v : Int) : Few (withD sh q j v) := by
 refine ⟨by rw [withD_len]; exact h.1, fun i hi => ?_⟩;rw [withD_rlen];rw [withD_len] at hi;exact h.2 i hi
theorem ShapeOk.withD {qs sh : Dt} (h : ShapeOk qs sh) {q j : Nat} {v : Int} (hv : 0 <= v /\ v <= 2) : ShapeOk qs (withD sh q j v) := by
 have hl := h.n;refine ⟨by rw [withD_len]; exact hl, fun i hi => by rw [withD_rlen]; exact h.row_ i hi, fun i b hi hb => ?_⟩;rw [withD_rlen] at hb;rw [withD_bx _ _ _ _ _ _ (by omega) hb]
 split
 ·exact hv
 ·exact h.val i b hi hb
def rdL : Nat -> Dt -> List Dt
 | 0, sh => [sh]
 | n + 1, sh => match pos sh with
  | [] => [sh]
  | p :: _ => rdL n (withD sh p.1 p.2 0) ++ rdL n (withD sh p.1 p.2 1)
def rds (sh : Dt) : List Dt := rdL (pos sh).length sh
def shC (sh : Dt) : List Cl := [.l sh]
def rdD (sh : Dt) : Dt := (rds sh).map shC
theorem rds_nil {sh : Dt} (h : pos sh = []) : rds sh = [sh] := by unfold rds; rw [h]; rfl
theorem rds_cons {sh : Dt} {p : Nat × Nat} {ps : List (Nat × Nat)} (h : pos sh = p :: ps) : rds sh = rds (withD sh p.1 p.2 0) ++ rds (withD sh p.1 p.2 1) := by
 unfold rds;rw [pos_with_tl (by decide) h, pos_with_tl (by decide) h, h];simp only [List.length_cons, rdL, h]
theorem rdL_len : ∀ n sh, (pos sh).length = n -> (rdL n sh).length = 2 ^ n
 | 0, _, _ => rfl
 | n + 1, sh, h => by
  obtain ⟨p, ps, e⟩ : ∃ p ps, pos sh = p :: ps := by
   cases hp : pos sh with
   | nil => rw [hp] at h; simp at h
   | cons p ps => exact ⟨p, ps, rfl⟩
  rw [e] at h;simp only [rdL, e];rw [List.length_append, rdL_len n _ (by rw [pos_with_tl (by decide) e]; simpa using h), rdL_len n _ (by rw [pos_with_tl (by decide) e]; simpa using h), Nat.pow_succ];omega
theorem rds_len (sh : Dt) : (rds sh).length = 2 ^ (pos sh).length := rdL_len _ sh rfl
theorem rds_ind {P : Dt -> Prop} {sh : Dt} (h0 : P sh) (hs : ∀ s q j v, P s -> (q, j) ∈ pos s -> v = 0 \/ v = 1 -> P (withD s q j v)) : ∀ r ∈ rds sh, P r := by
 suffices h : ∀ n s, (pos s).length = n -> P s -> ∀ r ∈ rds s, P r from h _ sh rfl h0
 intro n
 induction n with
 | zero =>
  intro s hl hp r hr;rw [rds_nil (List.length_eq_zero_iff.1 hl), List.mem_singleton] at hr;exact hr ▸ hp
 | succ n ih =>
  intro s hl hp r hr;cases e : pos s with
  | nil => rw [e] at hl; simp at hl
  | cons p ps =>
   rw [rds_cons e, List.mem_append] at hr;have hm : (p.1, p.2) ∈ pos s := by rw [e]; exact List.mem_cons_self
   rw [e] at hl;rcases hr with hr | hr
   ·exact ih _ (by rw [pos_with_tl (by decide) e]; simpa using hl) (hs _ _ _ _ hp hm (.inl rfl)) r hr
   ·exact ih _ (by rw [pos_with_tl (by decide) e]; simpa using hl) (hs _ _ _ _ hp hm (.inr rfl)) r hr
theorem rds_sure {sh : Dt} : ∀ r ∈ rds sh, pos r = [] := by
 suffices h : ∀ n s, (pos s).length = n -> ∀ r ∈ rds s, pos r = [] from h _ sh rfl
 intro n
 induction n with
 | zero =>
  intro s hl r hr;have hl := List.length_eq_zero_iff.1 hl;rw [rds_nil hl, List.mem_singleton] at hr;rw [hr]; exact hl
 | succ n ih =>
  intro s hl r hr;cases e : pos s with
  | nil => rw [e] at hl; simp at hl
  | cons p ps =>
   rw [rds_cons e, List.mem_append] at hr;rw [e] at hl;rcases hr with hr | hr
   ·exact ih _ (by rw [pos_with_tl (by decide) e]; simpa using hl) r hr
   ·exact ih _ (by rw [pos_with_tl (by decide) e]; simpa using hl) r hr
theorem rds_shape {sh : Dt} : ∀ r ∈ rds sh, r.length = sh.length /\ ∀ i, (row r i).length = (row sh i).length :=
 rds_ind (P := fun r => r.length = sh.length /\ ∀ i, (row r i).length = (row sh i).length) ⟨rfl, fun _ => rfl⟩ fun s q j v h _ _ => ⟨by rw [withD_len]; exact h.1, fun i => by rw [withD_rlen]; exact h.2 i⟩
end Sp
set_option maxHeartbeats 1600000
namespace Sp
def psS (qs ps : Dt) (all : Int) (sh : Dt) : Bool := passOf all ps (mk qs ps sh)
theorem rdD_len (sh : Dt) : (rdD sh).length = 2 ^ (pos sh).length := by unfold rdD; rw [List.length_map, rds_len]
theorem rdD_row {sh : Dt} {k : Nat} (h : k < (rdD sh).length) : ∃ h2 : k < (rds sh).length, row (rdD sh) k = (rds sh)[k] := by
 have h2 : k < (rds sh).length := by unfold rdD at h; simpa using h
 refine ⟨h2, ?_⟩;unfold row cel rdD;rw [List.getD_eq_getElem?_getD (l := (rds sh).map shC), List.getElem?_map, List.getElem?_eq_getElem h2];rfl
end Sp
namespace Sp
def dcI (qs ps : Dt) (all : Int) (rs : Dt) (a b : Nat) (k : Nat) : Bool := !(psS qs ps all (row rs k) == psS qs ps all (withD (row rs k) a b 1))
def dcV (qs ps : Dt) (all : Int) (sh : Dt) (a b : Nat) : Bool := anyF (dcI qs ps all (rdD (withD sh a b 0)) a b) 0 (rdD (withD sh a b 0)).length
def dcL (qs ps : Dt) (all : Int) (sh u : Dt) : Nat -> Nat -> Dt
 | _, 0 => []
 | i, n + 1 => (if dcV qs ps all sh (cel u i 0).int.toNat (cel u i 1).int.toNat = true then [[.i (cel u i 0).int, .i (cel u i 1).int]] else []) ++ dcL qs ps all sh u (i + 1) n
structure BxOk (sh u : Dt) : Prop where
 few : u.length <= 7
 in_ : ∀ i, i < u.length -> 0 <= (cel u i 0).int /\ (cel u i 0).int < sh.length /\ 0 <= (cel u i 1).int /\ (cel u i 1).int < (row sh (cel u i 0).int.toNat).length
theorem uns_cel {sh : Dt} {i : Nat} (h : i < (uns sh).length) : ∃ p ∈ pos sh, (cel (uns sh) i 0).int = p.1 /\ (cel (uns sh) i 1).int = p.2 := by
 have h2 : i < (pos sh).length := by rw [<- uns_len]; exact h
 refine ⟨(pos sh)[i], List.getElem_mem h2, ?_, ?_⟩
 ·rw [uns_pos]; unfold cel; rw [List.getD_eq_getElem?_getD (l := (pos sh).map prC), List.getElem?_map, List.getElem?_eq_getElem h2]; rfl
 ·rw [uns_pos]; unfold cel; rw [List.getD_eq_getElem?_getD (l := (pos sh).map prC), List.getElem?_map, List.getElem?_eq_getElem h2]; rfl
theorem ShOk.bx {qs sh : Dt} (h : ShOk qs sh) : BxOk sh (uns sh) := by
 refine ⟨h.seven, fun i hi => ?_⟩;obtain ⟨p, hp, e1, e2⟩ := uns_cel hi;have := mem_pos.1 hp;rw [e1, e2, Int.toNat_natCast];omega
end Sp
namespace Sp
def cA (u : Dt) (i : Nat) : Int := (cel u i 0).int
def cB (u : Dt) (i : Nat) : Int := (cel u i 1).int
theorem ShOk.withD {qs sh : Dt} (h : ShOk qs sh) {q j : Nat} {v : Int} (hv : v = 0 \/ v = 1) : ShOk qs (withD sh q j v) := by
 refine ⟨h.toShapeOk.withD (by omega), ?_⟩;have := h.seven;rw [uns_len] at this ⊢;rw [pos_with (by omega)];exact Nat.le_trans (List.length_filter_le _ _) this
end Sp
namespace Sp
def strA (qs : Dt) (all : Int) (i : Nat) : Int := all - qPts qs i
def strP (qs ps : Dt) (i : Nat) : Dt := ps.set (qPart qs i).toNat [.i (num ps (qPart qs i).toNat - qPts qs i)]
def strQ (qs : Dt) (i : Nat) : Dt := qs.take i ++ qs.drop (i + 1)
def strE (qs ps : Dt) (all i : Int) : Int := if chkE qs ps all = 0 then (if inr i 0 (qs.length - 1) = true then (if qs.length = 1 then 3 else if inr (strA qs all i.toNat) (-240) 240 = true then (if inr (num (strP qs ps i.toNat) (qPart qs i.toNat).toNat) (-240) 240 = true then 0 else 7) else 7) else 4) else chkE qs ps all
def strK (qs ps : Dt) (all i : Int) : List Cl := if strE qs ps all i = 0 then [.l (strQ qs i.toNat), .l (strP qs ps i.toNat), .i (strA qs all i.toNat)] else [.l [], .l [], .i 0]
end Sp
abbrev Xg9 : RTs := [(true, [.row 43 Iv5, .row 3 Jc, .int .i64]), (false, [.int .i64])]
abbrev Xet (ds : DS) : DS := match ds with | [[.l qs, .l ps, .i all], [.i i]] => [Sp.strK qs ps all i, [.i (Sp.strE qs ps all i)]] | _ => []
namespace Sp
def mis1 (right : Int) (rs : Dt) (k : Nat) : Bool := !decide (ansOf (row (row rs k) 0) = right)
def one (b : Dt) : Dt := [[.l b]]
def mAny (right : Int) (b : Dt) : Bool := anyF (mis1 right (rdD (one b))) 0 (rdD (one b)).length
def mAll (right : Int) (b : Dt) : Bool := allF (mis1 right (rdD (one b))) 0 (rdD (one b)).length
end Sp
namespace Sp
def errL (f : Nat -> Int) : Nat -> Nat -> Int -> Int
 | _, 0, e => e
 | i, n + 1, e => if e = 0 then errL f (i + 1) n (f i) else e
theorem errL_ne {f : Nat -> Int} {e : Int} (h : e ≠ 0) : ∀ n i, errL f i n e = e
 | 0, _ => rfl
 | n + 1, i => by unfold errL; rw [if_neg h]
theorem errL_0 {f : Nat -> Int} : ∀ n i e, errL f i n e = 0 -> e = 0 /\ ∀ k, i <= k -> k < i + n -> f k = 0
 | 0, i, e, h => ⟨h, fun k a b => by omega⟩
 | n + 1, i, e, h => by
  unfold errL at h
  by_cases c : e = 0
  ·rw [if_pos c] at h;have := errL_0 n (i + 1) _ h;refine ⟨c, fun k a b => ?_⟩;rcases Nat.eq_or_lt_of_le a with d | d
   ·exact d ▸ this.1
   ·exact this.2 k (by omega) (by omega)
  ·rw [if_neg c] at h; exact absurd h c
def shI (qs pp : Dt) (i : Nat) : Int := shE qs (row pp i)
end Sp
namespace Sp
def mAdd (qs sh l : Dt) (j : Nat) : Dt := l.set j [.i ((cel l j 0).int + if mAll (qRight qs j) (row sh j) = true then 1 else 0), .i ((cel l j 1).int + if mAny (qRight qs j) (row sh j) = true then 1 else 0)]
def addQ (qs sh : Dt) : Nat -> Nat -> Dt -> Dt
 | _, 0, l => l
 | j, n + 1, l => addQ qs sh (j + 1) n (mAdd qs sh l j)
def addP (qs pp : Dt) : Nat -> Nat -> Dt -> Dt
 | _, 0, l => l
 | i, n + 1, l => addP qs pp (i + 1) n (addQ qs (row pp i) 0 l.length l)
structure CntAt (l : Dt) (m : Int) (q : Int) : Prop where
 ok : ∀ j : Nat, j < l.length -> ∃ x y : Int, l.getD j [] = [.i x, .i y] /\ 0 <= x /\ x <= (if (j : Int) < q then m + 1 else m) /\ 0 <= y /\ y <= (if (j : Int) < q then m + 1 else m)
theorem set_getD {l : Dt} {j : Nat} {c : List Cl} (h : j < l.length) : (l.set j c).getD j [] = c := by
 rw [List.getD_eq_getElem?_getD, List.getElem?_set_self h]; rfl
theorem set_getN {l : Dt} {j k : Nat} {c : List Cl} (h : j ≠ k) : (l.set j c).getD k [] = l.getD k [] := by
 rw [List.getD_eq_getElem?_getD, List.getElem?_set_ne h, <- List.getD_eq_getElem?_getD]
theorem cel_set {l : Dt} {j k : Nat} {c : List Cl} (h : j < l.length) : cel (l.set j c) j k = c.getD k .z := by
 unfold cel; rw [set_getD h]
theorem CntAt.next {l : Dt} {m : Int} {j : Nat} (h : CntAt l m j) (hj : j < l.length) {x y dx dy : Int} (e : l.getD j [] = [.i x, .i y]) (hx : dx = 0 \/ dx = 1) (hy : dy = 0 \/ dy = 1) : CntAt (l.set j [.i (x + dx), .i (y + dy)]) m (j + 1 : Int) := by
 refine ⟨fun k hk => ?_⟩;rw [List.length_set] at hk;obtain ⟨a, b, h1, h2, h3, h4, h5⟩ := h.ok k hk
 by_cases c : j = k
 ·subst c;rw [e] at h1;injection h1 with h6 h7
  injection h6 with h6
  injection h7 with h7 _
  injection h7 with h7
  subst h6; subst h7;refine ⟨x + dx, y + dy, set_getD hj, ?_⟩;rw [if_neg (by omega)] at h3 h5;rw [if_pos (by omega)];omega
 ·refine ⟨a, b, by rw [set_getN c]; exact h1, h2, ?_, h4, ?_⟩
  ·split at h3 <;> split <;> omega
  ·split at h5 <;> split <;> omega
end Sp
namespace Sp
theorem addQ_len (qs sh : Dt) : ∀ n j l, (addQ qs sh j n l).length = l.length
 | 0, _, _ => rfl
 | n + 1, j, l => by simp [addQ, addQ_len qs sh n, mAdd]
theorem addP_len (qs pp : Dt) : ∀ n i l, (addP qs pp i n l).length = l.length
 | 0, _, _ => rfl
 | n + 1, i, l => by simp [addP, addP_len qs pp n, addQ_len]
theorem CntAt.go {qs sh : Dt} {m : Int} : ∀ n j l, CntAt l m (j : Nat) -> j + n = l.length -> CntAt (addQ qs sh j n l) m (l.length : Nat)
 | 0, j, l, h, e => by rw [<- e]; exact h
 | n + 1, j, l, h, e => by
  obtain ⟨x, y, hg, _⟩ := h.ok j (by omega);have c0 : cel l j 0 = .i x := by unfold cel; rw [hg]; rfl
  have c1 : cel l j 1 = .i y := by unfold cel; rw [hg]; rfl
  have := CntAt.go (qs := qs) (sh := sh) n (j + 1) (mAdd qs sh l j) (by
   unfold mAdd;rw [c0, c1];exact h.next (by omega) hg (by split <;> simp) (by split <;> simp)) (by unfold mAdd; rw [List.length_set]; omega)
  rw [show (mAdd qs sh l j).length = l.length by unfold mAdd; rw [List.length_set]] at this;exact this
theorem CntAt.up {l : Dt} {m : Int} (h : CntAt l m (l.length : Nat)) : CntAt l (m + 1) 0 := ⟨fun j hj => by
 obtain ⟨x, y, hg, h1, h2, h3, h4⟩ := h.ok j hj;rw [if_pos (by omega)] at h2 h4;exact ⟨x, y, hg, h1, by rw [if_neg (by omega)]; exact h2, h3, by rw [if_neg (by omega)]; exact h4⟩⟩
end Sp
namespace Sp
def misE (qs ps : Dt) (all : Int) (pp : Dt) : Int := errL (shI qs pp) 0 pp.length (if chkE qs ps all = 0 then (if 20 < pp.length then 3 else 0) else chkE qs ps all)
def misV (qs ps : Dt) (all : Int) (pp : Dt) : Dt := if misE qs ps all pp = 0 then addP qs pp 0 pp.length (List.replicate qs.length [.i 0, .i 0]) else []
theorem misE_ok {qs ps pp : Dt} {all : Int} (h : misE qs ps all pp = 0) : KeyOk qs ps all /\ pp.length <= 20 /\ ∀ i, i < pp.length -> ShOk qs (row pp i) := by
 obtain ⟨h1, h2⟩ := errL_0 _ _ _ h
 split at h1
 ·rename_i e
  split at h1
  ·omega
  ·exact ⟨chkE_iff.1 e, by omega, fun i hi => shE_iff.1 (h2 i (by omega) (by omega))⟩
 ·rename_i e; exact absurd h1 e
end Sp
abbrev Xew (ds : DS) : DS := match ds with | [[.l qs, .l ps, .i all], [.l pp]] => [[.l (Sp.misV qs ps all pp)], [.i (Sp.misE qs ps all pp)]] | _ => []
end Go.Proofs.Ytfbhampnigdaaaa
