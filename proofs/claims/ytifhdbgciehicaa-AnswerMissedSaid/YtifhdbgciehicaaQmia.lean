/-
  'AnswerMissed': for every input the law returns true, and what is handed in reads as before. No condition.
-/
import Derived.Test.YtifhdbgciehicaaQd
import Derived.IntWalk
import Derived.Test.YtifhdbgciehicaaProg
set_option linter.unusedVariables false
set_option linter.unusedSectionVars false
set_option linter.unusedSimpArgs false
noncomputable section
namespace Go.Proofs.Ytifhdbgciehicaa
abbrev Ja : List Ty := [.int .i64, .int .i64]
abbrev Jb : List Ty := [.sl [.int .i64]]
abbrev Jc : List Ty := [.int .i64]
abbrev Iv11 : List Ty := [.int .i64, .int .i64, .int .i64, .int .i64, .int .i64, .int .i64, .int .i64, .int .i64, .int .i64, .int .i64, .int .i64]
abbrev Iv5 : List Ty := [.int .i64, .int .i64, .int .i64, .int .i64, .int .i64]
abbrev Iv4 : List Ty := [.int .i64, .int .i64, .int .i64, .int .i64]
abbrev Ivs : List Ty := [.str, .int .i64, .int .i64, .int .i64]
open Go.RowKit
theorem vif [InW] {b : Bool} {A B : Prop} (h : b = true -> A) (h2 : b = false -> B) : Vif b A B := ⟨h, h2⟩
theorem vifd [InW] {p : Prop} {_ : Decidable p} {A B : Prop} (h : p -> A) (h2 : ¬ p -> B) : Vif (decide p) A B := ⟨fun e => h (of_decide_eq_true e), fun e => h2 (of_decide_eq_false e)⟩
theorem ned [InW] {b : Bool} {A : Prop} (h : b = true) (h2 : A) : Need b A := ⟨h, h2⟩
theorem nedd [InW] {p : Prop} {_ : Decidable p} {A : Prop} (h : p) (h2 : A) : Need (decide p) A := ⟨decide_eq_true h, h2⟩
theorem ar64 [InW] {n : Int} {K : Int -> Prop} (h : -9223372036854775808 <= n /\ n <= 9223372036854775807) (k : K n) : Ar .i64 n K := ⟨by rw [IntWalk.i64_in n h]; exact k⟩
theorem notT {b : Bool} (h : (!b) = true) : b = false := by cases b <;> simp_all
theorem notF {b : Bool} (h : (!b) = false) : b = true := by cases b <;> simp_all
theorem vifn [InW] {p : Prop} {_ : Decidable p} {A B : Prop} (h : ¬ p -> A) (h2 : p -> B) : Vif (!decide p) A B := ⟨fun e => h (of_decide_eq_false (notT e)), fun e => h2 (of_decide_eq_true (notF e))⟩
theorem vifb [InW] {b : Bool} {A B : Prop} (h : b = false -> A) (h2 : b = true -> B) : Vif (!b) A B := ⟨fun e => h (notT e), fun e => h2 (notF e)⟩
theorem Xb {p A : Prop} (h : p) (h2 : A) : Pre p A := ⟨h, h2⟩
theorem ned2 [InW] {p q : Prop} {_ : Decidable p} {_ : Decidable q} {K : Prop} (h : p /\ q) (hK : K) : Need (decide p && decide q) K := ⟨by simp [h], hK⟩
namespace Sp
def inr (n lo hi : Int) : Bool := decide (lo <= n) && decide (n <= hi)
def outs (lo hi : Int) (xs : Dt) : Nat -> Nat -> Bool
 | _, 0 => false
 | i, n + 1 => !inr (cel xs i 0).int lo hi || outs lo hi xs (i + 1) n
def out (lo hi : Int) (xs : Dt) : Bool := outs lo hi xs 0 xs.length
def outI (lo hi : Int) (xs : Dt) : Nat -> Nat -> Nat
 | i, 0 => i
 | i, n + 1 => if inr (cel xs i 0).int lo hi = true then outI lo hi xs (i + 1) n else i
def hasE (f : Nat -> Int) : Nat -> Nat -> Bool
 | _, 0 => false
 | i, n + 1 => !decide (f i = 0) || hasE f (i + 1) n
def idxE (f : Nat -> Int) : Nat -> Nat -> Nat
 | i, 0 => i
 | i, n + 1 => if f i = 0 then idxE f (i + 1) n else i
def allF (f : Nat -> Bool) : Nat -> Nat -> Bool
 | _, 0 => true
 | i, n + 1 => f i && allF f (i + 1) n
theorem allF_iff {f : Nat -> Bool} : ∀ {n i : Nat}, allF f i n = true ↔ ∀ k, i <= k -> k < i + n -> f k = true
 | 0, i => by simp [allF]; omega
 | n + 1, i => by
  simp only [allF, Bool.and_eq_true, allF_iff (n := n)];constructor
  ·rintro ⟨h1, h2⟩ k a b;rcases Nat.eq_or_lt_of_le a with e | e
   ·exact e ▸ h1
   ·exact h2 k (by omega) (by omega)
  ·exact fun h => ⟨h i (by omega) (by omega), fun k a b => h k (by omega) (by omega)⟩
def anyF (f : Nat -> Bool) : Nat -> Nat -> Bool
 | _, 0 => false
 | i, n + 1 => f i || anyF f (i + 1) n
theorem anyF_iff {f : Nat -> Bool} : ∀ {n i : Nat}, anyF f i n = true ↔ ∃ k, i <= k /\ k < i + n /\ f k = true
 | 0, i => by simp [anyF]; omega
 | n + 1, i => by
  simp only [anyF, Bool.or_eq_true, anyF_iff (n := n)];constructor
  ·rintro (h | ⟨k, a, b, c⟩)
   ·exact ⟨i, by omega, by omega, h⟩
   ·exact ⟨k, by omega, by omega, c⟩
  ·rintro ⟨k, a, b, c⟩;rcases Nat.eq_or_lt_of_le a with e | e
   ·exact .inl (e ▸ c)
   ·exact .inr ⟨k, by omega, by omega, c⟩
def fstF (f : Nat -> Bool) : Nat -> Nat -> Nat
 | i, 0 => i
 | i, n + 1 => if f i then i else fstF f (i + 1) n
theorem fstF_spec {f : Nat -> Bool} : ∀ {n i : Nat}, anyF f i n = true -> i <= fstF f i n /\ fstF f i n < i + n /\ f (fstF f i n) = true /\ ∀ k, i <= k -> k < fstF f i n -> f k = false
 | 0, i, h => by simp [anyF] at h
 | n + 1, i, h => by
  unfold fstF
  by_cases e : f i = true
  ·rw [if_pos e];exact ⟨by omega, by omega, e, fun k a b => by omega⟩
  ·rw [if_neg e];simp only [anyF, e, Bool.false_or, Bool.or_eq_true, Bool.false_eq_true, false_or] at h;obtain ⟨h1, h2, h3, h4⟩ := fstF_spec h;refine ⟨by omega, by omega, h3, fun k a b => ?_⟩;rcases Nat.eq_or_lt_of_le a with e2 | e2
   ·subst e2; simpa using e
   ·exact h4 k (by omega) b
def sumF (f : Nat -> Int) : Nat -> Nat -> Int -> Int
 | _, 0, a => a
 | i, n + 1, a => sumF f (i + 1) n (a + f i)
theorem hasE_ix {f : Nat -> Int} : ∀ {n i : Nat}, hasE f i n = true -> i <= idxE f i n /\ idxE f i n < i + n /\ f (idxE f i n) ≠ 0
 | 0, i, h => by simp [hasE] at h
 | n + 1, i, h => by
  unfold idxE
  by_cases e : f i = 0
  ·rw [if_pos e];simp only [hasE, e, decide_true, Bool.not_true, Bool.false_or] at h;have := hasE_ix h;exact ⟨by omega, by omega, this.2.2⟩
  ·rw [if_neg e]; exact ⟨by omega, by omega, e⟩
theorem hasE_no {f : Nat -> Int} : ∀ {n i : Nat}, hasE f i n = false -> ∀ k, i <= k -> k < i + n -> f k = 0
 | 0, i, _, k, a, b => by omega
 | n + 1, i, h, k, a, b => by
  simp only [hasE, Bool.or_eq_false_iff, Bool.not_eq_false', decide_eq_true_eq] at h;rcases Nat.eq_or_lt_of_le a with e | e
  ·exact e ▸ h.1
  ·exact hasE_no h.2 k (by omega) (by omega)
theorem hasE_of {f : Nat -> Int} : ∀ {n i : Nat}, (∀ k, i <= k -> k < i + n -> f k = 0) -> hasE f i n = false
 | 0, i, _ => rfl
 | n + 1, i, h => by
  simp only [hasE, h i (by omega) (by omega), decide_true, Bool.not_true, Bool.false_or];exact hasE_of fun k a b => h k (by omega) (by omega)
theorem inr_iff {n lo hi : Int} : inr n lo hi = true ↔ lo <= n /\ n <= hi := by simp [inr]
end Sp
theorem Xc2 [InW] {f : Nat -> Int} {i n : Nat} {K1 : Nat -> Int -> Prop} {K0 : Prop} (h : Vif (Sp.hasE f i (n + 1)) (K1 (Sp.idxE f i (n + 1)) (f (Sp.idxE f i (n + 1)))) K0) :
  (f i ≠ 0 -> K1 i (f i)) /\ (f i = 0 -> Vif (Sp.hasE f (i + 1) n) (K1 (Sp.idxE f (i + 1) n) (f (Sp.idxE f (i + 1) n))) K0) := by
 simp only [Sp.hasE, Sp.idxE] at h;refine ⟨fun e => ?_, fun e => ?_⟩
 ·have := h.1 (by simp [e]);simpa [e] using this
 ·simpa [e] using h
theorem vifq [InW] {p q : Prop} {_ : Decidable p} {_ : Decidable q} {A B : Prop} (h : ¬ (p ↔ q) -> A) (h2 : (p ↔ q) -> B) : Vif (!(decide p == decide q)) A B :=
 ⟨fun e => h (by simpa using notT e), fun e => h2 (by simpa using notF e)⟩
theorem Xd [InW] {p : Prop} {_ : Decidable p} {A B : Prop} (h : p -> A) (h2 : ¬ p -> B) : Vif (!(decide p == false)) A B :=
 ⟨fun e => h (by simpa using e), fun e => h2 (by simpa using e)⟩
theorem Xc [InW] {p : Prop} {_ : Decidable p} {A B : Prop} (h : p -> A) (h2 : ¬ p -> B) : Vif (!(false == decide p)) A B :=
 ⟨fun e => h (by simpa using e), fun e => h2 (by simpa using e)⟩
theorem out1 (lo hi n : Int) : Sp.out lo hi [[Cl.i n]] = !Sp.inr n lo hi := by simp [Sp.out, Sp.outs, cel, Cl.int]
theorem out2 (lo hi n m : Int) : Sp.out lo hi [[Cl.i n], [Cl.i m]] = (!Sp.inr n lo hi || !Sp.inr m lo hi) := by simp [Sp.out, Sp.outs, cel, Cl.int]
set_option maxRecDepth 100000
def tTab [InW] : TI := ⟨some false, some 1, some [.v (.nilFunc)], [], none, none⟩
def tTaw [InW] : Tr TI := .node .nil tTab .nil
def tTaa [InW] : Tr TI := .node .nil ⟨none, none, none, [], none, none⟩ .nil
def tTag [InW] : Tr TI := .node tTaw tTab tTaa
def tTac [InW] : Tr TI := .node tTag tTab (.node (.node .nil ⟨some true, some 11, some [.v (.int .u64 0), .v (.int .u64 0), .v (.int .u32 0), .v (.int .u8 0), .v (.int .u8 0), .v (.int .u8 0), .v (.int .u8 0), .v (.nilFunc), .v (.pointer none), .v (.int .i32 0), .v (.int .i32 0)], [(some (0, 1)), (some (1, 1)), (some (2, 1)), (some (3, 1)), (some (4, 1)), (some (5, 1)), (some (6, 1)), (some (7, 1)), (some (8, 1)), (some (9, 1)), (some (10, 1))], none, none⟩ .nil) tTab tTaa)
def tTad [InW] : TI := ⟨some false, some 1, some [.v (.pointer none)], [], none, none⟩
def tTbb [InW] : Tr TI := .node .nil tTad .nil
def tTav [InW] : List AV := [.v (.int .i64 0), .v (.int .i64 0)]
def tTaf [InW] : TI := ⟨some true, some 2, some tTav, [(some (0, 1)), (some (1, 1))], none, none⟩
def tTao [InW] : List AV := [.v (.slice none 0 0)]
def tTae [InW] : Tr TI := .node tTaa tTab tTaa
def tTba [InW] : List (Option (Nat × Nat)) := [(some (0, 1)), (some (1, 1)), (some (2, 1)), (some (3, 1))]
def tTap [InW] : TI := ⟨some true, some 4, some [.v (.int .i64 0), .v (.int .i64 0), .v (.bool false), .v (.int .u8 0)], tTba, none, none⟩
def tTax [InW] : List AV := [.v (.int .i64 0), .v (.int .i64 0), .v (.int .i64 0), .v (.int .i64 0), .v (.int .i64 0)]
def tTai [InW] : TI := ⟨some true, some 5, some tTax, [(some (0, 1)), (some (1, 1)), (some (2, 1)), (some (3, 1)), (some (4, 1))], none, none⟩
def tTay [InW] : Tr TI := .node .nil ⟨some true, some 0, some [], [(some (0, 0))], none, none⟩ .nil
def tTak [InW] : TI := ⟨some false, some 1, some [.v (.int .i64 0)], [], none, none⟩
def tTaq [InW] : TI := ⟨some false, some 1, (some [.v (.tuple #[.int .i64 0, .int .i64 0])]), [], none, none⟩
def tTaz [InW] : TI := ⟨some true, some 1, some [.v (.pointer none)], [(some (0, 1))], none, none⟩
def tTah [InW] : Tr TI := .node (.node .nil ⟨some true, some 4, some [.v (.pointer none), .v (.pointer none), .v (.pointer none), .v (.string ByteArray.empty)], tTba, none, none⟩ .nil) tTab tTaa
def tTas [InW] : TI := ⟨some false, some 1, some [.v (.string ByteArray.empty)], [], none, none⟩
def tTbc [InW] : Tr TI := .node tTag tTab tTae
def tTal [InW] : TI := ⟨some false, some 1, some [.v (.int .u64 0)], [], none, none⟩
def tTar [InW] : TI := ⟨some true, some 3, some [.v (.slice none 0 0), .v (.slice none 0 0), .v (.int .i64 0)], [(some (0, 1)), (some (1, 1)), (some (2, 1))], none, none⟩
def tTan [InW] : TI := ⟨some false, some 1, some [.v (.int .u8 0)], [], none, none⟩
def tTaj [InW] : TI := ⟨some true, some 5, some [.v (.slice none 0 0), .v (.slice none 0 0), .v (.int .i64 0), .v (.slice none 0 0), .v (.slice none 0 0)], [(some (0, 3)), (some (3, 1)), (some (4, 1))], none, none⟩
def tTam [InW] : TI := ⟨some false, some 1, (some [.v (.tuple #[.slice none 0 0, .int .i64 0])]), [], none, none⟩
def tTat [InW] : TI := ⟨some false, some 1, some [.v (.int .i32 0)], [], none, none⟩
def tTau [InW] : TI := ⟨some true, some 2, some [.v (.string ByteArray.empty), .v (.int .u64 0)], [(some (0, 1)), (some (1, 1))], none, none⟩
def TT [InW] : Tr TI :=
 (.node (.node (.node (.node (.node tTac tTad (.node (.node tTbb tTaf tTaa) ⟨some false, some 1, some tTao, [], (some (26, 1, 24, tTao)), none⟩ tTae)) tTap (.node (.node (.node tTaw tTai tTaa) ⟨some false, some 1, some tTao, [], (some (44, 2, 16, tTav)), none⟩ (.node tTaa ⟨some false, some 1, some [.v (.map none)], [], none, none⟩ tTaa)) ⟨some false, some 1, some tTao, [], (some (3, 1, 8, [.v (.int .i64 0)])), none⟩ (.node (.node tTay tTab tTaa) tTab tTae))) tTak (.node (.node (.node (.node (.node .nil ⟨some false, some 1, (some [.v (.tuple #[.int .i64 0, .bool false])]), [], none, none⟩ .nil) tTab tTaa) tTaq tTae) tTaz (.node tTah ⟨some false, some 1, some tTao, [], (some (80, 2, 16, tTav)), none⟩ tTae)) tTas (.node (.node (.node tTaw ⟨some true, some 4, some [.v (.int .u8 0), .v (.int .u8 0), .v (.int .u8 0), .v (.int .u8 0)], [], none, (some (4, 1, false))⟩ tTaa) tTaf tTae) tTak (.node (.node tTaw ⟨some false, some 1, (some [.v (.tuple #[.slice none 0 0, .bool false])]), [], none, none⟩ tTaa) tTab tTae)))) tTab (.node (.node (.node (.node tTag tTab (.node tTbb tTab tTaa)) tTad tTbc) tTas (.node (.node (.node (.node .nil tTal .nil) ⟨some false, some 1, some tTao, [], (some (5, 1, 1, [.v (.int .u8 0)])), none⟩ tTaa) tTab (.node tTaa ⟨some true, some 2, some tTav, [], none, (some (2, 1, false))⟩ tTaa)) tTar (.node (.node (.node .nil tTan .nil) tTaj tTaa) tTab tTae))) tTan (.node (.node (.node (.node tTaw ⟨some true, some 2, some [.v (.int .u16 0), .v (.int .u16 0)], [], none, (some (2, 1, false))⟩ tTaa) tTam tTae) tTat (.node (.node (.node .nil ⟨some true, some 0, some [], [], none, (some (0, 1, false))⟩ .nil) tTad tTaa) tTab tTae)) tTau (.node (.node (.node tTbb ⟨some false, some 1, some tTao, [], (some (58, 1, 2, [.v (.int .u16 0)])), none⟩ tTaa) ⟨some false, some 1, (some [.v (.tuple #[.agg #[.int .i64 0, .int .i64 0], .int .i64 0, .int .i64 0])]), [], none, none⟩ tTae) tTab (.node (.node (.node .nil tTat .nil) tTab tTaa) tTab (.node tTaa tTak tTaa)))))) ⟨some false, some 1, (some [.v (.tuple #[])]), [], none, none⟩ (.node (.node (.node (.node tTac tTad (.node (.node (.node .nil tTaq .nil) tTaf tTaa) ⟨some false, some 1, (some [.v (.tuple #[.agg #[.slice none 0 0, .slice none 0 0, .int .i64 0], .int .i64 0])]), [], none, none⟩ tTae)) tTap (.node (.node (.node (.node .nil tTal .nil) tTab tTaa) tTam tTae) tTar (.node (.node tTaw tTaj tTaa) tTab (.node tTaa tTal tTaa)))) ⟨some false, some 1, some [.v (.bool false)], [], none, none⟩ (.node (.node tTbc ⟨some false, some 1, some [.v (.nilIface)], [], none, none⟩ (.node tTah tTam tTae)) tTal (.node (.node tTag tTaf tTae) ⟨some false, some 1, (some [.v (.tuple #[.int .i64 0, .int .i64 0, .int .i64 0])]), [], none, none⟩ (.node (.node tTbb tTab tTaa) tTab tTae)))) tTak (.node (.node (.node tTbc tTaz tTbc) tTas (.node (.node tTag tTab (.node tTaa ⟨some false, some 1, (some [.v (.tuple #[.agg #[.int .i64 0, .int .i64 0], .bool false])]), [], none, none⟩ tTaa)) ⟨some false, some 1, some tTao, [], (some (23, 1, 24, tTao)), none⟩ (.node (.node (.node .nil tTan .nil) tTab tTaa) ⟨some false, some 1, some [.v (.int .u16 0)], [], none, none⟩ tTae))) tTan (.node (.node (.node (.node (.node .nil ⟨some false, some 1, some [.v (.int .u32 0)], [], none, none⟩ .nil) tTai tTaa) tTab (.node tTaa ⟨some false, some 1, some tTao, [], (some (4, 1, 1, [.v (.bool false)])), none⟩ tTaa)) ⟨some false, some 1, some tTao, [], (some (71, 5, 40, tTax)), none⟩ (.node (.node tTay ⟨some false, some 1, (some [.v (.tuple #[.pointer none, .int .i64 0])]), [], none, none⟩ tTaa) tTab tTae)) tTau (.node (.node tTag tTab (.node tTaa ⟨some false, some 1, (some [.v (.tuple #[.int .i64 0, .agg #[.int .i64 0, .int .i64 0]])]), [], none, none⟩ tTaa)) ⟨some false, some 1, (some [.v (.tuple #[.slice none 0 0, .bool false, .int .i64 0])]), [], none, none⟩ (.node (.node (.node .nil tTat .nil) ⟨some false, some 1, (some [.v (.tuple #[.bool false, .bool false])]), [], none, none⟩ tTaa) tTab (.node tTaa tTaq tTaa)))))))
theorem Xe [InW] : TabOk Try.prog TT := TabOk.of 8 (by kernel_rfl)
theorem Xa : Try.prog.follows .mixedOrders = true := by kernel_rfl
attribute [local irreducible] Go.Oper.wp
section
variable [W : InW]
def nthQ : List AV -> Nat -> AV
 | [], _ => .junk
 | x :: xs, n => match n with | 0 => x | n + 1 => nthQ xs n
def likeQ : Pt -> AV -> Bool
 | .lit v, x => (match x with | .v u => Ycn u v | _ => false)
 | .row _, x => (match x with | .rw _ => true | .sl _ 0 0 _ => true | _ => false)
 | _, _ => true
def Xqo : List (Nat × Pt) -> List AV -> Bool
 | [], _ => true
 | p :: ps, tm => match likeQ p.2 (nthQ tm p.1) with | true => Xqo ps tm | false => false
end
def LE.pick {P : Program} (T : List (Nat × Pt)) (a b : LE P) (hg : b.g = a.g) (hk : b.key = a.key) : LE P where
 g := a.g
 key := a.key
 f := fun W tm hp K => match @Xqo W T tm with | true => a.f W tm hp K | false => b.f W tm hp K
 ok := fun W body c h1 h2 h3 tm hp K h => by
  dsimp only at h
  split at h
  ·exact a.ok W body c h1 h2 h3 tm hp K h
  ·exact b.ok W body c (by rw [hg]; exact h1) h2 (by rw [hk]; exact h3) tm hp K h
end Go.Proofs.Ytifhdbgciehicaa
namespace Go.Proofs.Ytifhdbgciehicaa
open Go.RowKit
attribute [local irreducible] Go.Oper.wp
section
variable [W : InW]
def X3 : List Out -> Nat -> AX -> List AV -> Heap -> (Nat -> List Ed -> Prop) -> Prop
 | [], _, _, _, _, _ => Stuck 473
 | o :: os, j, x, tm, hp, Q => match Y34 o.kind x with
  | true => (match likeW o.T o.H (Y2n o.H) tm hp with | true => fitK o.T o.H o.junk tm hp fun e => Q j e | false => X3 os (j + 1) x tm hp Q)
  | false => X3 os (j + 1) x tm hp Q
def Xfs (lc : LC) (f : List AV -> Heap -> KX -> Prop) (Again : List Ed -> Prop) (Q : Nat -> List Ed -> Prop) (x : AX) (tm : List AV) (hp : Heap) : Prop :=
 Yc (lenB tm lc.len) (match x with
 | .norm => (match likeW lc.T lc.H (Y2n lc.H) tm hp with
  | true => fitK lc.T lc.H lc.W tm hp Again
  | false => f tm hp fun x tm hp => Yc (lenB tm lc.len) (X3 lc.outs 0 x tm hp Q))
 | x => X3 lc.outs 0 x tm hp Q)
theorem Xr : ∀ {os : List Out} {j : Nat} {x : AX} {tm : List AV} {hp : Heap} {Q : Nat -> List Ed -> Prop}, X3 os j x tm hp Q -> ∃ (k : Nat) (o : Out) (s : List (Nat × AV)) (ys : Heap) (e1 e2 : List Ed), Q (j + k) (e1 ++ e2) /\ os[k]? = some o /\ o.kind.ax = x /\ insT o.T (e1 ++ e2) = some (s, e2) /\ insH o.H e2 = some (ys, []) /\
  ∀ (φ0 φ : Phi) (w0 : World) (M : List Nat) (R : RL) (a : Act) (w : World), RepS φ0 φ w0 M R tm hp a w -> ∃ φ2, RepS φ0 φ2 w0 M R (Yd6 tm.length s o.junk) ys a w
 | [], _, _, _, _, _, h => h.elim
 | o :: os, j, x, tm, hp, Q, h => by
  have next : X3 os (j + 1) x tm hp Q -> ∃ (k : Nat) (o' : Out) (s : List (Nat × AV)) (ys : Heap) (e1 e2 : List Ed), Q (j + k) (e1 ++ e2) /\ (o :: os)[k]? = some o' /\ o'.kind.ax = x /\ insT o'.T (e1 ++ e2) = some (s, e2) /\ insH o'.H e2 = some (ys, []) /\
    ∀ (φ0 φ : Phi) (w0 : World) (M : List Nat) (R : RL) (a : Act) (w : World), RepS φ0 φ w0 M R tm hp a w -> ∃ φ2, RepS φ0 φ2 w0 M R (Yd6 tm.length s o'.junk) ys a w := fun h => by
   obtain ⟨k, o', s, ys, e1, e2, h1, h2, h3⟩ := Xr h;exact ⟨k + 1, o', s, ys, e1, e2, by rw [show j + (k + 1) = j + 1 + k by omega]; exact h1, by simpa using h2, h3⟩
  unfold X3 at h
  split at h
  ·rename_i hk
   split at h
   ·obtain ⟨s, ys, e1, e2, h1, h2, h3, h4⟩ := Yrs h;refine ⟨0, o, s, ys, e1, e2, h1, rfl, ?_, Yyp _ _ _ _ h2, by have := Ylw _ _ _ [] h3; rwa [List.append_nil] at this, h4⟩;unfold Y34 at hk
    split at hk <;> first | (rename_i h1; rw [h1]; rfl) | skip
    ·rename_i i j h1; rw [h1, Yd.1 hk]; rfl
    ·rename_i v u h1; rw [h1, Ydm _ _ hk]; rfl
    ·cases hk
   ·exact next h
  ·exact next h
theorem LoopC.ofY {c : Cx} (hcL : HandOkL c) (hm : c.P.follows .mixedOrders = true) (n : Nat) {root : Code} (hroot : (c.P.funcs[c.fn]?).bind (·.body) = some root) {a : Code} (hsub : Sub root (.loop a)) {lc : LC} {f : List AV -> Heap -> KX -> Prop} (hf : Ymq c.P a f) (meas : List Ed -> Nat)
  (hb : ∀ s ys e1 e2, Ym6 lc.T s e1 -> Yhf lc.H ys e2 -> ∀ K, lc.spec (e1 ++ e2) K -> Yfc c n a (Yd6 lc.len s lc.W) ys (Xfs lc f (fun e => meas e < meas (e1 ++ e2) /\ lc.spec e K) K)) : LoopC c.P a lc := by
 have key : ∀ m s ys e1 e2, meas (e1 ++ e2) = m -> Ym6 lc.T s e1 -> Yhf lc.H ys e2 -> ∀ K, lc.spec (e1 ++ e2) K -> ∃ j e o s' r ys', K j e /\ lc.outs[j]? = some o /\ insT o.T e = some (s', r) /\ insH o.H r = some (ys', []) /\
   BigT (fun Q ac w => InLoop c.P a Q ac w) (Yd6 lc.len s lc.W) ys o.kind.ax (Yd6 lc.len s' o.junk) ys' := by
  intro m
  induction m using Nat.strongRecOn with
  | _ m ih =>
   intro s ys e1 e2 hme hT hH K hs;obtain ⟨x, tm1, hp1, h1, h2⟩ := Ygw hcL hm n hroot a hsub.loop _ _ _ (hb s ys e1 e2 hT hH K hs);have out : X3 lc.outs 0 x tm1 hp1 K -> (∀ φ e, x.is φ e -> e ≠ .normal) -> tm1.length = lc.len -> ∃ j e o s' r ys', K j e /\ lc.outs[j]? = some o /\ insT o.T e = some (s', r) /\ insH o.H r = some (ys', []) /\
     BigT (fun Q ac w => InLoop c.P a Q ac w) (Yd6 lc.len s lc.W) ys o.kind.ax (Yd6 lc.len s' o.junk) ys' := fun h hne hlen => by
    obtain ⟨k, o, s', ys', f1, f2, g1, g2, g3, g4, g5, g6⟩ := Xr h;rw [Nat.zero_add] at g1;refine ⟨k, _, o, s', _, ys', g1, g2, g4, g5, fun φ0 φ w0 M R ac w hr Q kk => InLoop.round (h2 φ0 φ w0 M R ac w hr _ fun φ2 e a' w' hx hr2 => ?_)⟩;have he := hne φ2 e hx;obtain ⟨φ3, hr3⟩ := g6 φ0 φ2 w0 M R a' w' hr2;rw [hlen] at hr3;have hx3 : o.kind.ax.is φ3 e := by
     rw [g3];have : o.kind.ax.is φ2 e := by rw [g3]; exact hx
     rw [<- g3];cases hk : o.kind <;> rw [hk] at this <;> exact this
    cases e <;> first | exact absurd rfl he | exact kk φ3 _ a' w' hx3 hr3
   unfold Xfs at h1;obtain ⟨hlen, h1⟩ := Ya h1;have hlen := Y8 hlen
   split at h1
   ·split at h1
    ·obtain ⟨s2, ys2, f1, f2, g1, g2, g3, g4⟩ := Yrs h1;obtain ⟨j, e, o, s', r, ys', k1, k2, k3, k4, k5⟩ := ih _ (hme ▸ g1.1) s2 ys2 f1 f2 rfl g2 g3 K g1.2;refine ⟨j, e, o, s', r, ys', k1, k2, k3, k4, fun φ0 φ w0 M R ac w hr Q kk => InLoop.round (h2 φ0 φ w0 M R ac w hr _ fun φ2 e2 a' w' hx hr2 => ?_)⟩;obtain ⟨φ3, hr3⟩ := g4 φ0 φ2 w0 M R a' w' hr2;rw [hlen] at hr3;cases hx;exact k5 φ0 φ3 w0 M R a' w' hr3 Q kk
    ·obtain ⟨x', tm2, hp2, hk, hbig⟩ := hf _ _ _ h1;obtain ⟨hlen2, hk⟩ := Ya hk;have hlen2 := Y8 hlen2;obtain ⟨k, o, s', ys', f1, f2, g1, g2, g3, g4, g5, g6⟩ := Xr hk;rw [Nat.zero_add] at g1;refine ⟨k, _, o, s', _, ys', g1, g2, g4, g5, fun φ0 φ w0 M R ac w hr Q kk => InLoop.round (h2 φ0 φ w0 M R ac w hr _ fun φ2 e2 a' w' hx hr2 => ?_)⟩;cases hx;refine hbig φ0 φ2 w0 M R a' w' hr2 Q fun φ3 e3 a3 w3 hx3 hr3 => ?_;obtain ⟨φ4, hr4⟩ := g6 φ0 φ3 w0 M R a3 w3 hr3;rw [hlen2] at hr4;have hx4 : o.kind.ax.is φ4 e3 := by
      have : o.kind.ax.is φ3 e3 := by rw [g3]; exact hx3
      cases hk : o.kind <;> rw [hk] at this <;> exact this
     exact kk φ4 _ a3 w3 hx4 hr4
   ·rename_i hnn;refine out h1 (fun φ e hx he => ?_) hlen;subst he;cases x <;> first | exact hnn rfl | cases hx | exact hx.elim | skip
 intro s ys e1 e2 hT hH K hs;exact key _ s ys e1 e2 rfl hT hH K hs
end
theorem LE.okOfY {P : Program} (tt : (W : InW) -> @Tr (@TI W)) (ht : ∀ W : InW, @TabOk W P (tt W)) (hm : P.follows .mixedOrders = true) (T : Tab P) (n m : Nat) {g : FuncId} {key : Nat} (h1 : (match Ye2 P g key with | [_] => true | _ => false) = true) (lc : LC) (f : (W : InW) -> Y3l W)
  (hf : ∀ (W : InW) (body a : Code), (P.funcs[g]?).bind (·.body) = some body -> a ∈ Yy body -> Yfw a = key -> @Ymq W P a (f W)) (meas : (W : InW) -> List (@Ed W) -> Nat)
  (hb : ∀ (W : InW), @AllT W lc.T fun s e1 => @AllH W lc.H fun ys e2 => ∀ K, @LC.spec lc W (e1 ++ e2) K -> @Yfc W { @cxT W P (tt W) T n m with fn := g } n (Yn7 P g key) (@Yd6 W lc.len s lc.W) ys (@Xfs W lc (f W) (fun e => meas W e < meas W (e1 ++ e2) /\ @LC.spec lc W e K) K)) :
  ∀ (W : InW) (body a : Code), (P.funcs[g]?).bind (·.body) = some body -> a ∈ Yy body -> Yfw a = key -> @Ymq W P a (@Ytn W lc) := by
 intro W body a hbd ha hk;have hf := hf W body a hbd ha hk;obtain ⟨h2, h3⟩ := Yyg h1;rw [h2 body a hbd ha hk] at hf ⊢;refine Yv8 ?_;have hP := Yzn P (tt W) T n m;have hL := (Yr8 (T := T) (ht W) hm n m).at g;have := LoopC.ofY (c := { @cxT W P (tt W) T n m with fn := g }) hL (by rw [show ({ @cxT W P (tt W) T n m with fn := g } : Cx).P = P from hP]; exact hm) n (root := Yjq P g) (by
  show ((cxT P (tt W) T n m).P.funcs[g]?).bind (·.body) = _
  rw [hP]; exact Yyn h1) h3 (lc := lc) (f := f W) (by rw [show ({ @cxT W P (tt W) T n m with fn := g } : Cx).P = P from hP]; exact hf) (meas W) fun s ys e1 e2 hT hH => @Ymn W _ _ _ _ (@Yse W _ _ _ _ (hb W) hT) hH
 rw [show ({ @cxT W P (tt W) T n m with fn := g } : Cx).P = P from hP] at this;exact this
end Go.Proofs.Ytifhdbgciehicaa
namespace Go.Proofs.Ytifhdbgciehicaa
open Go.RowKit
set_option maxRecDepth 100000
def T0 : Tab Try.prog := ⟨[], [], []⟩
abbrev Xfw (ds : DS) : DS := match ds with | [[.i n], [.i lo], [.i hi]] => [[.b (Sp.inr n lo hi)]] | _ => []
abbrev Xbv (ds : DS) : DS := match ds with | [[.i n]] => [[.b (Sp.inr n (-240) 240)]] | _ => []
abbrev Xc9 (ds : DS) : DS := match ds with | [[.i lo], [.i hi], [.l xs]] => [[.b (Sp.out lo hi xs)]] | _ => []
def Xri [W : InW] (n lo hi : Int) (Q : DS -> Prop) : Prop :=
 Vif (decide (lo <= n)) (Q [[Cl.b (decide (n <= hi))]]) (Q [[Cl.b false]])
theorem vc_in (W : InW) (n lo hi Q) : Ywt (cxT Try.prog TT T0 1000 50) 1000 52 [.si .i64 n, .si .i64 lo, .si .i64 hi] [] 0 (Y02 [(false, [.bool])] Q) (fun _ _ _ _ => Stuck 421) = Xri n lo hi Q := by kernel_rfl
abbrev Xi1 : List AT := [.one (.int .i64), .one (.int .i64), .one (.int .i64)]
theorem ok_in {pre : DS -> Prop} {res : DS -> DS} (hyp_ : ∀ (W : InW) (n lo hi : Int), pre [[.i n], [.i lo], [.i hi]] -> ∀ Q : DS -> Prop, Q (res [[.i n], [.i lo], [.i hi]]) -> Xri n lo hi Q) : PureOk Try.prog 52 Xi1 [(false, [.bool])] pre res :=
 PureOk.of' (fun W => @TT W) (fun W => @Xe W) Xa T0 1000 50 fun W n lo hi hp =>
  (vc_in W n lo hi (fun o => o = res [[.i n], [.i lo], [.i hi]])).mpr (hyp_ W n lo hi hp _ rfl)
theorem okin : PureOk Try.prog 52 Xi1 [(false, [.bool])] (fun _ => True) Xfw :=
 ok_in fun W n lo hi _ Q h => vif (fun e => by simpa [Xfw, Sp.inr, e] using h) fun e => by simpa [Xfw, Sp.inr, e] using h
def Xj2 : PC Try.prog := ⟨52, Xi1, [(false, [.bool])], fun _ => True, Xfw, okin⟩
def T0a : Tab Try.prog := ⟨[Xj2], [], []⟩
def Xc1 [W : InW] (n : Int) (Q : DS -> Prop) : Prop :=
 Pre True (Q [[Cl.b (Sp.inr n (-240 : Int) (240 : Int))]])
theorem Xhw (W : InW) (n Q) : Ywt (cxT Try.prog TT T0a 1000 50) 1000 53 [.si .i64 n] [] 0 (Y02 [(false, [.bool])] Q) (fun _ _ _ _ => Stuck 421) = Xc1 n Q := by kernel_rfl
abbrev X1 : List AT := [.one (.int .i64)]
theorem Xii {pre : DS -> Prop} {res : DS -> DS} (hyp_ : ∀ (W : InW) (n : Int), pre [[.i n]] -> ∀ Q : DS -> Prop, Q (res [[.i n]]) -> Xc1 n Q) : PureOk Try.prog 53 X1 [(false, [.bool])] pre res :=
 PureOk.of' (fun W => @TT W) (fun W => @Xe W) Xa T0a 1000 50 fun W n hp =>
  (Xhw W n (fun o => o = res [[.i n]])).mpr (hyp_ W n hp _ rfl)
theorem Xj8 : PureOk Try.prog 53 X1 [(false, [.bool])] (fun _ => True) Xbv :=
 Xii fun W n _ Q h => ⟨trivial, h⟩
def Xcv : PC Try.prog := ⟨53, X1, [(false, [.bool])], fun _ => True, Xbv, Xj8⟩
def Xfg [InW] (e : List Ed) (K : Nat -> List Ed -> Prop) : Prop := match e with
 | [.ro _ xs, .i n, .i i, .i lo, .i hi] => Pre (n = xs.xs.length /\ 0 <= i /\ i <= n) (Vif (Sp.outs lo hi xs.xs i.toNat (xs.xs.length - i.toNat)) (K 1 [.i (Sp.outI lo hi xs.xs i.toNat (xs.xs.length - i.toNat)), .i lo, .i hi]) (K 0 [.i lo, .i hi]))
 | _ => False
def Xhg : LC where
 len := 19
 T := [(0, .rs Jc), (1, (.fn (.func 81) [] [(.ptr 1 0), (.ptr 4 0)])), (7, .int .i64), (8, .int .i64)]
 H := [(1, .blk 3 [.int .i64]), (4, .blk 3 [.int .i64])]
 W := ([4, 5] ++ rg 9 10)
 outs := [⟨.exit 0, [(1, (.fn (.func 81) [] [(.ptr 1 0), (.ptr 4 0)]))], [(1, .blk 3 [.int .i64]), (4, .blk 3 [.int .i64])], ([0, 4, 5] ++ rg 7 12)⟩, ⟨.ret, [(1, (.fn (.func 81) [] [(.ptr 1 0), (.ptr 4 0)])), (4, .int .i64)], [(1, .blk 3 [.int .i64]), (4, .blk 3 [.int .i64])], ([0, 5] ++ rg 7 12)⟩]
 spec := Xfg
def Xef [W : InW] (xs : Ro Jc) (n i lo hi : Int) (A : List Ed -> Prop) (K : Nat -> List Ed -> Prop) : Prop :=
 Vif (decide (i < n)) (Need (decide (0 <= i) && decide (i < (↑(xs.xs.length) : Int))) (Need (decide (i.toNat < xs.xs.length)) (Vif (decide ((cel xs.xs i.toNat (0 : Nat)).int < lo)) (K (0+1) [.i i, .i lo, .i hi]) (Vif (decide (hi < (cel xs.xs i.toNat (0 : Nat)).int)) (K (0+1) [.i i, .i lo, .i hi]) (Ar .i64 (i + 1) fun z => A [.ro _ xs, .i n, .i z, .i lo, .i hi]))))) (K 0 [.i lo, .i hi])
theorem Xlw (W : InW) (xs n i lo hi A K) : Yfc { cxT Try.prog TT T0 1000 50 with fn := 88 } 1000 (Yn7 Try.prog 88 3) (Yd6 19 [(0, .rs _ xs), (1, .fn (.func 81) [] [.ptr 1 0, .ptr 4 0]), (7, .si .i64 n), (8, .si .i64 i)] ([4, 5] ++ rg 9 10)) [(1, .blk 3 [.si .i64 lo]), (4, .blk 3 [.si .i64 hi])] (Yuf Xhg A K) = Xef xs n i lo hi A K := by kernel_rfl
def Xgl : Prop := ∀ (W : InW) (body a : Code), (Try.prog.funcs[88]?).bind (·.body) = some body -> a ∈ Yy body -> Yfw a = 3 -> @Ymq W Try.prog a (@Ytn W Xhg)
theorem Xnm (meas : [InW] -> List Ed -> Nat) (hyp_ : ∀ (W : InW) xs n i lo hi K, Xfg [.ro _ xs, .i n, .i i, .i lo, .i hi] K -> ∀ A : List Ed -> Prop, (∀ e, meas e < meas [.ro _ xs, .i n, .i i, .i lo, .i hi] -> Xfg e K -> A e) -> Xef xs n i lo hi A K) : Xgl :=
 LE.okOf' (fun W => @TT W) (fun W => @Xe W) Xa T0 1000 50 (by kernel_rfl) Xhg (fun W => @meas W) fun W xs n i lo hi K hs =>
  (Xlw W xs n i lo hi (fun e => meas e < meas [.ro _ xs, .i n, .i i, .i lo, .i hi] /\ Xfg e K) K).mpr (hyp_ W xs n i lo hi K hs _ fun e h1 h2 => ⟨h1, h2⟩)
theorem Xqa : Xgl := Xnm (fun e => match e with | .ro _ xs :: .i n :: .i i :: _ => (n - i).toNat | _ => 0) fun W xs n i lo hi K hs A hA => by
 obtain ⟨⟨rfl, h0, h1⟩, hk⟩ := hs;unfold Xef;have hm := xs.len;simp only [maxLen] at hm;refine vifd (fun e => ?_) fun e => ?_
 ·rw [show xs.xs.length - i.toNat = (xs.xs.length - (i.toNat + 1)) + 1 by omega] at hk;have hc : (cel xs.xs i.toNat 0).int < lo \/ hi < (cel xs.xs i.toNat 0).int -> K 1 [.i i, .i lo, .i hi] := fun h => by
   have hf : Sp.inr (cel xs.xs i.toNat 0).int lo hi = false := by simp only [Sp.inr, Bool.and_eq_false_iff, decide_eq_false_iff_not]; omega
   have := hk.1 (by simp [Sp.outs, hf]);unfold Sp.outI at this;rw [if_neg (by simp [hf]), Int.toNat_of_nonneg h0] at this;exact this
  refine ned (by simp; omega) (nedd (by omega) (vifd (fun e2 => hc (.inl e2)) fun e2 => vifd (fun e3 => hc (.inr e3)) fun e3 => ar64 (by omega) (hA _ ?_ ?_)))
  ·show ((xs.xs.length : Int) - (i + 1)).toNat < ((xs.xs.length : Int) - i).toNat
   omega
  ·have hf : Sp.inr (cel xs.xs i.toNat 0).int lo hi = true := by simp only [Sp.inr, Bool.and_eq_true, decide_eq_true_eq]; omega
   refine ⟨⟨rfl, by omega, by omega⟩, ?_⟩;rw [show (i + 1).toNat = i.toNat + 1 by omega];simp only [Sp.outs, hf, Bool.not_true, Bool.false_or, Sp.outI, if_true] at hk;exact hk
 ·rw [show xs.xs.length - i.toNat = 0 by omega] at hk;exact hk.2 rfl
def Xq8 : LE Try.prog := ⟨88, 3, fun W => @Ytn W Xhg, Xqa⟩
def T1 : Tab Try.prog := ⟨[], [Xq8], []⟩
def Xi7 [W : InW] (lo hi : Int) (xs : Ro Jc) (Q : DS -> Prop) : Prop :=
 Pre ((↑(xs.xs.length) : Int) = (↑(xs.xs.length) : Int) /\ (0 : Int) <= 0 /\ (0 : Int) <= (↑(xs.xs.length) : Int)) (Vif (Sp.outs lo hi xs.xs (Int.toNat (0 : Int)) (xs.xs.length - Int.toNat (0 : Int))) (Q [[Cl.b (decide ((0 : Int) <= (↑(Sp.outI lo hi xs.xs (Int.toNat (0 : Int)) (xs.xs.length - Int.toNat (0 : Int))) : Int)))]]) (Q [[Cl.b false]]))
theorem Xo0 (W : InW) (lo hi xs Q) : Ywt (cxT Try.prog TT T1 1000 50) 1000 51 [.si .i64 lo, .si .i64 hi, .rs _ xs] [] 0 (Y02 [(false, [.bool])] Q) (fun _ _ _ _ => Stuck 421) = Xi7 lo hi xs Q := by kernel_rfl
abbrev Xdj : List AT := [.one (.int .i64), .one (.int .i64), .one (.sl Jc)]
theorem Xpo {pre : DS -> Prop} {res : DS -> DS} (hyp_ : ∀ (W : InW) (lo hi : Int) (xs : Ro Jc), pre [[.i lo], [.i hi], [.l xs.xs]] -> ∀ Q : DS -> Prop, Q (res [[.i lo], [.i hi], [.l xs.xs]]) -> Xi7 lo hi xs Q) : PureOk Try.prog 51 Xdj [(false, [.bool])] pre res :=
 PureOk.of' (fun W => @TT W) (fun W => @Xe W) Xa T1 1000 50 fun W lo hi xs hp =>
  (Xo0 W lo hi xs (fun o => o = res [[.i lo], [.i hi], [.l xs.xs]])).mpr (hyp_ W lo hi xs hp _ rfl)
theorem okout : PureOk Try.prog 51 Xdj [(false, [.bool])] (fun _ => True) Xc9 :=
 Xpo fun W lo hi xs _ Q h => by
  unfold Xi7;simp only [Xc9, Sp.out] at h;rw [show Int.toNat 0 = 0 from rfl, Nat.sub_zero];refine ⟨⟨rfl, by omega, by omega⟩, vif (fun e => ?_) fun e => ?_⟩
  ·rw [e] at h;rw [decide_eq_true (by omega)];exact h
  ·rw [e] at h;exact h
def Xcu : PC Try.prog := ⟨51, Xdj, [(false, [.bool])], fun _ => True, Xc9, okout⟩
set_option maxHeartbeats 1600000
abbrev tyQ : List Ty := [.int .i64, .int .i64, .int .i64, .int .i64, .int .i64]
namespace Sp
def qPart (qs : Dt) (i : Nat) : Int := (cel qs i 0).int
def qBoxes (qs : Dt) (i : Nat) : Int := (cel qs i 1).int
def qRight (qs : Dt) (i : Nat) : Int := (cel qs i 2).int
def qPts (qs : Dt) (i : Nat) : Int := (cel qs i 3).int
def qMin (qs : Dt) (i : Nat) : Int := (cel qs i 4).int
def qErr (np : Nat) (qs : Dt) (i : Nat) : Int :=
 if inr (qPart qs i) 0 ((np : Int) - 1) then (if inr (qBoxes qs i) 2 4 then (if inr (qRight qs i) 0 (qBoxes qs i - 1) then (if inr (qPts qs i) 0 20 && inr (qMin qs i) 0 20 then 0 else 7) else 4) else 7) else 4
def pErr (ps : Dt) (i : Nat) : Int := if inr (cel ps i 0).int (-240) 240 then 0 else 7
def chk (qs ps : Dt) (all : Int) : Int × Int × Int :=
  if inr qs.length 1 12 && inr ps.length 1 4 then
    (if hasE (qErr ps.length qs) 0 qs.length then (2, idxE (qErr ps.length qs) 0 qs.length, qErr ps.length qs (idxE (qErr ps.length qs) 0 qs.length))
     else if hasE (pErr ps) 0 ps.length then (3, idxE (pErr ps) 0 ps.length, pErr ps (idxE (pErr ps) 0 ps.length))
     else if inr all (-240) 240 then (0, 0, 0) else (4, 0, 7))
  else (1, 0, 3)
def chkP (qs ps : Dt) (all : Int) : Int := (chk qs ps all).1
def chkI (qs ps : Dt) (all : Int) : Int := (chk qs ps all).2.1
def chkE (qs ps : Dt) (all : Int) : Int := (chk qs ps all).2.2
end Sp
abbrev Xt (ds : DS) : DS := match ds with | [[.l qs, .l ps, .i all]] => [[.i (Sp.chkP qs ps all)], [.i (Sp.chkI qs ps all)], [.i (Sp.chkE qs ps all)]] | _ => []
def T2 : Tab Try.prog := ⟨[Xj2, Xcv, Xcu], [], []⟩
def Xe9 [InW] (e : List Ed) (K : Nat -> List Ed -> Prop) : Prop := match e with
 | [.i i, .ro _ qs, .ro _ ps, .i all] => Pre (0 <= i /\ i <= qs.xs.length) (Vif (Sp.hasE (Sp.qErr ps.xs.length qs.xs) i.toNat (qs.xs.length - i.toNat))
   (K 1 [.i (Sp.idxE (Sp.qErr ps.xs.length qs.xs) i.toNat (qs.xs.length - i.toNat)), .i (Sp.qErr ps.xs.length qs.xs (Sp.idxE (Sp.qErr ps.xs.length qs.xs) i.toNat (qs.xs.length - i.toNat)))]) (K 0 [.ro _ qs, .ro _ ps, .i all]))
 | _ => False
def Xg9 : LC where
 len := 84
 T := [(1, (.ptr 1 0)), (5, .int .i64)]
 H := [(1, .blk 25 [.rs tyQ, .rs Jc, .int .i64])]
 W := ([2, 3, 4, 6] ++ rg 20 45)
 outs := [⟨.exit 0, [(1, (.ptr 1 0))], [(1, .blk 25 [.rs tyQ, .rs Jc, .int .i64])], (rg 2 5 ++ rg 20 45)⟩, ⟨.ret, [(2, (.lit (.int .i64 2))), (3, .int .i64), (4, .int .i64)], [], ([1, 5, 6] ++ rg 20 45)⟩]
 spec := Xe9
def Xd8 [W : InW] (i : Int) (qs : Ro tyQ) (ps : Ro Jc) (all : Int) (A : List Ed -> Prop) (K : Nat -> List Ed -> Prop) : Prop :=
 Vif (decide (i < (↑(qs.xs.length) : Int))) (Need (decide (0 <= i) && decide (i < (↑(qs.xs.length) : Int))) (Need (decide (i.toNat < qs.xs.length)) (Ar .i64 ((↑(ps.xs.length) : Int) - 1) fun z => Pre True (Vif (!Sp.inr (cel qs.xs i.toNat (0 : Nat)).int (0 : Int) z) (K (0+1) [.i i, .i (4 : Int)]) (Pre True (Vif (!Sp.inr (cel qs.xs i.toNat (0+1)).int (2 : Int) (4 : Int)) (K (0+1) [.i i, .i (7 : Int)]) (Ar .i64 ((cel qs.xs i.toNat (0+1)).int - 1) fun z => Pre True (Vif (!Sp.inr (cel qs.xs i.toNat ((0 : Nat) + 1 + 1)).int (0 : Int) z) (K (0+1) [.i i, .i (4 : Int)]) (Pre True (Vif (!Sp.inr (cel qs.xs i.toNat ((0 : Nat) + 1 + 1 + 1)).int (0 : Int) (20 : Int)) (K (0+1) [.i i, .i (7 : Int)]) (Pre True (Vif (!Sp.inr (cel qs.xs i.toNat ((0 : Nat) + 1 + 1 + 1 + 1)).int (0 : Int) (20 : Int)) (K (0+1) [.i i, .i (7 : Int)]) (Ar .i64 (i + 1) fun z => A [.i z, .ro _ qs, .ro _ ps, .i all]))))))))))))) (K 0 [.ro _ qs, .ro _ ps, .i all])
theorem Xlp (W : InW) (i qs ps all A K) : Yfc { cxT Try.prog TT T2 1000 50 with fn := 18 } 1000 (Yn7 Try.prog 18 5) (Yd6 84 [(1, .ptr 1 0), (5, .si .i64 i)] ([2, 3, 4, 6] ++ rg 20 45)) [(1, .blk 25 [.rs _ qs, .rs _ ps, .si .i64 all])] (Yuf Xg9 A K) = Xd8 i qs ps all A K := by kernel_rfl
def Xge : Prop := ∀ (W : InW) (body a : Code), (Try.prog.funcs[18]?).bind (·.body) = some body -> a ∈ Yy body -> Yfw a = 5 -> @Ymq W Try.prog a (@Ytn W Xg9)
theorem Xnf (meas : [InW] -> List Ed -> Nat) (hyp_ : ∀ (W : InW) i qs ps all K, Xe9 [.i i, .ro _ qs, .ro _ ps, .i all] K -> ∀ A : List Ed -> Prop, (∀ e, meas e < meas [.i i, .ro _ qs, .ro _ ps, .i all] -> Xe9 e K -> A e) -> Xd8 i qs ps all A K) : Xge :=
 LE.okOf' (fun W => @TT W) (fun W => @Xe W) Xa T2 1000 50 (by kernel_rfl) Xg9 (fun W => @meas W) fun W i qs ps all K hs =>
  (Xlp W i qs ps all (fun e => meas e < meas [.i i, .ro _ qs, .ro _ ps, .i all] /\ Xe9 e K) K).mpr (hyp_ W i qs ps all K hs _ fun e h1 h2 => ⟨h1, h2⟩)
theorem Xfx (np : Nat) (qs : Dt) (i : Nat) : Sp.qErr np qs i = if Sp.inr (cel qs i 0).int 0 ((np : Int) - 1) then (if Sp.inr (cel qs i 1).int 2 4 then (if Sp.inr (cel qs i 2).int 0 ((cel qs i 1).int - 1) then (if Sp.inr (cel qs i 3).int 0 20 && Sp.inr (cel qs i 4).int 0 20 then 0 else 7) else 4) else 7) else 4 := rfl
theorem Xp3 : Xge := Xnf (fun e => match e with | [.i i, .ro _ qs, _, _] => ((qs.xs.length : Int) - i).toNat | _ => 0) fun W i qs ps all K hs A hA => by
 obtain ⟨⟨h0, h1⟩, hk⟩ := hs;unfold Xd8;have hm := qs.len;have hm2 := ps.len;simp only [maxLen] at hm hm2;refine vifd (fun e => ?_) fun e => ?_
 ·rw [show qs.xs.length - i.toNat = (qs.xs.length - (i.toNat + 1)) + 1 by omega] at hk;obtain ⟨g1, g2⟩ := Xc2 (K1 := fun j e => K 1 [.i j, .i e]) hk;rw [Int.toNat_of_nonneg h0] at g1;have ez : (i + 1).toNat = i.toNat + 1 := by omega
  have hA' : Sp.qErr ps.xs.length qs.xs i.toNat = 0 -> A [.i (i + 1), .ro _ qs, .ro _ ps, .i all] := fun f => hA _ (by show ((qs.xs.length : Int) - (i + 1)).toNat < ((qs.xs.length : Int) - i).toNat; omega) ⟨⟨by omega, by omega⟩, by rw [ez]; exact g2 f⟩;have bad : ∀ n, Sp.qErr ps.xs.length qs.xs i.toNat = n -> n ≠ 0 -> K 1 [.i i, .i n] := fun n hn h => by rw [<- hn]; exact g1 (by rw [hn]; exact h)
  have eN := Lib.hid (Xfx ps.xs.length qs.xs i.toNat);have i1 := fun h => Sp.inr_iff.1 (show Sp.inr (cel qs.xs i.toNat 1).int 2 4 = true from h);clear g1 g2 hk hA;generalize Sp.qErr ps.xs.length qs.xs i.toNat = E at *;simp only [Nat.zero_add, Nat.reduceAdd]
  repeat' (first | (with_reducible refine ar64 (by have := i1 (by assumption); omega) ?_) | omega|intro _|with_reducible first|apply vifd|apply vifn|apply vifq|apply Xd|apply Xc|apply vifb|apply vif|apply nedd|apply ned2|apply ned|apply ar64|apply Xb|exact True.intro|assumption|rfl|apply And.intro)
  all_goals first | exact bad _ (by rw [eN.out]; simp [*]) (by omega) | exact hA' (by rw [eN.out]; simp [*]) | (have := i1 (by assumption); omega) | skip
  all_goals trace_state
 ·rw [show qs.xs.length - i.toNat = 0 by omega] at hk;exact hk.2 rfl
def Xq1 : LE Try.prog := ⟨18, 5, fun W => @Ytn W Xg9, Xp3⟩
def Xfa [InW] (e : List Ed) (K : Nat -> List Ed -> Prop) : Prop := match e with
 | [.i i, .ro _ qs, .ro _ ps, .i all] => Pre (0 <= i /\ i <= ps.xs.length) (Vif (Sp.hasE (Sp.pErr ps.xs) i.toNat (ps.xs.length - i.toNat))
   (K 1 [.i (Sp.idxE (Sp.pErr ps.xs) i.toNat (ps.xs.length - i.toNat)), .i (Sp.pErr ps.xs (Sp.idxE (Sp.pErr ps.xs) i.toNat (ps.xs.length - i.toNat)))]) (K 0 [.ro _ qs, .ro _ ps, .i all]))
 | _ => False
def Xha : LC where
 len := 84
 T := [(1, (.ptr 1 0)), (7, .int .i64)]
 H := [(1, .blk 25 [.rs tyQ, .rs Jc, .int .i64])]
 W := ([2, 3, 4] ++ rg 65 15)
 outs := [⟨.exit 2, [(1, (.ptr 1 0))], [(1, .blk 25 [.rs tyQ, .rs Jc, .int .i64])], ([2, 3, 4, 7] ++ rg 65 15)⟩, ⟨.ret, [(2, (.lit (.int .i64 3))), (3, .int .i64), (4, .int .i64)], [], ([1, 7] ++ rg 65 15)⟩]
 spec := Xfa
def Xd9 [W : InW] (i : Int) (qs : Ro tyQ) (ps : Ro Jc) (all : Int) (A : List Ed -> Prop) (K : Nat -> List Ed -> Prop) : Prop :=
 Vif (decide (i < (↑(ps.xs.length) : Int))) (Need (decide (0 <= i) && decide (i < (↑(ps.xs.length) : Int))) (Need (decide (i.toNat < ps.xs.length)) (Pre True (Vif (!Sp.inr (cel ps.xs i.toNat (0 : Nat)).int (-240 : Int) (240 : Int)) (K (0+1) [.i i, .i (7 : Int)]) (Ar .i64 (i + 1) fun z => A [.i z, .ro _ qs, .ro _ ps, .i all]))))) (K 0 [.ro _ qs, .ro _ ps, .i all])
theorem Xlq (W : InW) (i qs ps all A K) : Yfc { cxT Try.prog TT T2 1000 50 with fn := 18 } 1000 (Yn7 Try.prog 18 17) (Yd6 84 [(1, .ptr 1 0), (7, .si .i64 i)] ([2, 3, 4] ++ rg 65 15)) [(1, .blk 25 [.rs _ qs, .rs _ ps, .si .i64 all])] (Yuf Xha A K) = Xd9 i qs ps all A K := by kernel_rfl
def Xgf : Prop := ∀ (W : InW) (body a : Code), (Try.prog.funcs[18]?).bind (·.body) = some body -> a ∈ Yy body -> Yfw a = 17 -> @Ymq W Try.prog a (@Ytn W Xha)
theorem Xng (meas : [InW] -> List Ed -> Nat) (hyp_ : ∀ (W : InW) i qs ps all K, Xfa [.i i, .ro _ qs, .ro _ ps, .i all] K -> ∀ A : List Ed -> Prop, (∀ e, meas e < meas [.i i, .ro _ qs, .ro _ ps, .i all] -> Xfa e K -> A e) -> Xd9 i qs ps all A K) : Xgf :=
 LE.okOf' (fun W => @TT W) (fun W => @Xe W) Xa T2 1000 50 (by kernel_rfl) Xha (fun W => @meas W) fun W i qs ps all K hs =>
  (Xlq W i qs ps all (fun e => meas e < meas [.i i, .ro _ qs, .ro _ ps, .i all] /\ Xfa e K) K).mpr (hyp_ W i qs ps all K hs _ fun e h1 h2 => ⟨h1, h2⟩)
theorem Xf0 (ps : Dt) (i : Nat) : Sp.pErr ps i = if Sp.inr (cel ps i 0).int (-240) 240 then 0 else 7 := rfl
theorem Xp4 : Xgf := Xng (fun e => match e with | [.i i, _, .ro _ ps, _] => ((ps.xs.length : Int) - i).toNat | _ => 0) fun W i qs ps all K hs A hA => by
 obtain ⟨⟨h0, h1⟩, hk⟩ := hs;unfold Xd9;have hm := ps.len;simp only [maxLen] at hm;refine vifd (fun e => ?_) fun e => ?_
 ·rw [show ps.xs.length - i.toNat = (ps.xs.length - (i.toNat + 1)) + 1 by omega] at hk;obtain ⟨g1, g2⟩ := Xc2 (K1 := fun j e => K 1 [.i j, .i e]) hk;rw [Int.toNat_of_nonneg h0] at g1;have ez : (i + 1).toNat = i.toNat + 1 := by omega
  have hA' : Sp.pErr ps.xs i.toNat = 0 -> A [.i (i + 1), .ro _ qs, .ro _ ps, .i all] := fun f => hA _ (by show ((ps.xs.length : Int) - (i + 1)).toNat < ((ps.xs.length : Int) - i).toNat; omega) ⟨⟨by omega, by omega⟩, by rw [ez]; exact g2 f⟩;have bad : ∀ n, Sp.pErr ps.xs i.toNat = n -> n ≠ 0 -> K 1 [.i i, .i n] := fun n hn h => by rw [<- hn]; exact g1 (by rw [hn]; exact h)
  have eN := Lib.hid (Xf0 ps.xs i.toNat);clear g1 g2 hk hA;generalize Sp.pErr ps.xs i.toNat = E at *;simp only [Nat.zero_add, Nat.reduceAdd]
  repeat' (first | omega|intro _|with_reducible first|apply vifd|apply vifn|apply vifq|apply Xd|apply Xc|apply vifb|apply vif|apply nedd|apply ned2|apply ned|apply ar64|apply Xb|exact True.intro|assumption|rfl|apply And.intro)
  all_goals first | exact bad _ (by rw [eN.out]; simp [*]) (by omega) | exact hA' (by rw [eN.out]; simp [*])
 ·rw [show ps.xs.length - i.toNat = 0 by omega] at hk;exact hk.2 rfl
def Xq2 : LE Try.prog := ⟨18, 17, fun W => @Ytn W Xha, Xp4⟩
def T3 : Tab Try.prog := ⟨[Xj2, Xcv], [Xq1, Xq2], []⟩
def Zb := (0 : Int)
def Za := Int.toNat Zb
def Xbr [W : InW] (kQ : Ro tyQ) (kP : Ro Jc) (kA : Int) (Q : DS -> Prop) : Prop :=
 Pre True (Vif (!Sp.inr (↑(kQ.xs.length) : Int) (1 : Int) (12 : Int)) (Q [[Cl.i 1], [Cl.i 0], [Cl.i 3]]) (Pre True (Vif (!Sp.inr (↑(kP.xs.length) : Int) (1 : Int) (4 : Int)) (Q [[Cl.i 1], [Cl.i 0], [Cl.i 3]]) (Pre (Zb <= 0 /\ Zb <= (↑(kQ.xs.length) : Int)) (Vif (Sp.hasE (Sp.qErr (kP.xs.length) kQ.xs) Za (kQ.xs.length - Int.toNat Zb)) (Q [[Cl.i 2], [Cl.i (↑(Sp.idxE (Sp.qErr (kP.xs.length) kQ.xs) Za (kQ.xs.length - Int.toNat Zb)) : Int)], [Cl.i (Sp.qErr (kP.xs.length) kQ.xs (Sp.idxE (Sp.qErr (kP.xs.length) kQ.xs) Za (kQ.xs.length - Int.toNat Zb)))]]) (Pre (Zb <= 0 /\ Zb <= (↑(kP.xs.length) : Int)) (Vif (Sp.hasE (Sp.pErr kP.xs) Za (kP.xs.length - Int.toNat Zb)) (Q [[Cl.i 3], [Cl.i (↑(Sp.idxE (Sp.pErr kP.xs) Za (kP.xs.length - Int.toNat Zb)) : Int)], [Cl.i (Sp.pErr kP.xs (Sp.idxE (Sp.pErr kP.xs) Za (kP.xs.length - Int.toNat Zb)))]]) (Pre True (Vif (!Sp.inr kA (-240 : Int) (240 : Int)) (Q [[Cl.i 4], [Cl.i 0], [Cl.i 7]]) (Q [[Cl.i 0], [Cl.i 0], [Cl.i 0]]))))))))))
theorem Xhu (W : InW) (kQ kP kA Q) : Ywt (cxT Try.prog TT T3 1000 50) 1000 18 [.agg [.rs _ kQ, .rs _ kP, .si .i64 kA]] [] 0 (Y02 [(false, [.int .i64]), (false, [.int .i64]), (false, [.int .i64])] Q) (fun _ _ _ _ => Stuck 421) = Xbr kQ kP kA Q := by kernel_rfl
abbrev Xz : List AT := [.agg [.sl tyQ, .sl Jc, .int .i64]]
theorem Xig {pre : DS -> Prop} {res : DS -> DS} (hyp_ : ∀ (W : InW) (kQ : Ro tyQ) (kP : Ro Jc) (kA : Int), pre [[.l kQ.xs, .l kP.xs, .i kA]] -> ∀ Q : DS -> Prop, Q (res [[.l kQ.xs, .l kP.xs, .i kA]]) -> Xbr kQ kP kA Q) : PureOk Try.prog 18 Xz [(false, [.int .i64]), (false, [.int .i64]), (false, [.int .i64])] pre res :=
 PureOk.of' (fun W => @TT W) (fun W => @Xe W) Xa T3 1000 50 fun W kQ kP kA hp =>
  (Xhu W kQ kP kA (fun o => o = res [[.l kQ.xs, .l kP.xs, .i kA]])).mpr (hyp_ W kQ kP kA hp _ rfl)
theorem Xiv {qs ps : Dt} {all : Int} {Q : Int × Int × Int -> Prop} (h : Q (Sp.chk qs ps all)) :
  let c := Sp.inr qs.length 1 12 && Sp.inr ps.length 1 4
  (c = false -> Q (1, 0, 3)) /\
  (c = true -> Sp.hasE (Sp.qErr ps.length qs) 0 qs.length = true -> Q (2, Sp.idxE (Sp.qErr ps.length qs) 0 qs.length, Sp.qErr ps.length qs (Sp.idxE (Sp.qErr ps.length qs) 0 qs.length))) /\
  (c = true -> Sp.hasE (Sp.qErr ps.length qs) 0 qs.length = false -> Sp.hasE (Sp.pErr ps) 0 ps.length = true -> Q (3, Sp.idxE (Sp.pErr ps) 0 ps.length, Sp.pErr ps (Sp.idxE (Sp.pErr ps) 0 ps.length))) /\
  (c = true -> Sp.hasE (Sp.qErr ps.length qs) 0 qs.length = false -> Sp.hasE (Sp.pErr ps) 0 ps.length = false -> Sp.inr all (-240) 240 = false -> Q (4, 0, 7)) /\
  (c = true -> Sp.hasE (Sp.qErr ps.length qs) 0 qs.length = false -> Sp.hasE (Sp.pErr ps) 0 ps.length = false -> Sp.inr all (-240) 240 = true -> Q (0, 0, 0)) := by
 intro c;unfold Sp.chk at h;refine ⟨fun e => ?_, fun e e1 => ?_, fun e e1 e2 => ?_, fun e e1 e2 e3 => ?_, fun e e1 e2 e3 => ?_⟩
 ·rw [if_neg (by show ¬ c = true; simp [e])] at h; exact h
 ·rw [if_pos (show c = true from e), if_pos e1] at h; exact h
 ·rw [if_pos (show c = true from e), if_neg (by simp [e1]), if_pos e2] at h; exact h
 ·rw [if_pos (show c = true from e), if_neg (by simp [e1]), if_neg (by simp [e2]), if_neg (by simp [e3])] at h; exact h
 ·rw [if_pos (show c = true from e), if_neg (by simp [e1]), if_neg (by simp [e2]), if_pos e3] at h; exact h
theorem Xj5 : PureOk Try.prog 18 Xz [(false, [.int .i64]), (false, [.int .i64]), (false, [.int .i64])] (fun _ => True) Xt :=
 Xig fun W qs ps all hp Q h => by
  unfold Xbr;delta Za Zb;obtain ⟨q0, q1, q2, q3, q4⟩ := Xiv (Q := fun r => Q [[.i r.1], [.i r.2.1], [.i r.2.2]]) h;clear h;simp only [show Int.toNat 0 = 0 from rfl, Nat.sub_zero]
  repeat' (first | omega|intro _|with_reducible first|apply vifd|apply vifn|apply vifq|apply Xd|apply Xc|apply vifb|apply vif|apply nedd|apply ned2|apply ned|apply ar64|apply Xb|exact True.intro|assumption|rfl|apply And.intro)
  all_goals first | exact q4 (by simp [*]) (by assumption) (by assumption) (by assumption) | exact q3 (by simp [*]) (by assumption) (by assumption) (by assumption) | exact q2 (by simp [*]) (by assumption) (by assumption) | exact q1 (by simp [*]) (by assumption) | exact q0 (by simp [*])
def Xia : PC Try.prog := ⟨18, Xz, [(false, [.int .i64]), (false, [.int .i64]), (false, [.int .i64])], fun _ => True, Xt, Xj5⟩
def Xfe [InW] (e : List Ed) (K : Nat -> List Ed -> Prop) : Prop := match e with
 | [.ro _ q2, .i n, .i i, .ro _ qs, .ro _ ps, .i all] => Pre (0 <= i /\ i <= qs.xs.length /\ n = qs.xs.length /\ q2.xs = qs.xs) (Vif (Sp.hasE (Sp.qErr ps.xs.length qs.xs) i.toNat (qs.xs.length - i.toNat))
   (K 1 [.i (Sp.idxE (Sp.qErr ps.xs.length qs.xs) i.toNat (qs.xs.length - i.toNat)), .i (Sp.qErr ps.xs.length qs.xs (Sp.idxE (Sp.qErr ps.xs.length qs.xs) i.toNat (qs.xs.length - i.toNat)))]) (K 0 [.ro _ qs, .ro _ ps, .i all]))
 | _ => False
def Xhe : LC where
 len := 80
 T := [(1, (.ptr 1 0)), (22, .rs tyQ), (23, .int .i64), (24, .int .i64)]
 H := [(1, .blk 25 [.rs tyQ, .rs Jc, .int .i64])]
 W := (rg 2 5 ++ rg 25 38)
 outs := [⟨.exit 0, [(1, (.ptr 1 0))], [(1, .blk 25 [.rs tyQ, .rs Jc, .int .i64])], (rg 2 5 ++ rg 22 41)⟩, ⟨.ret, [(2, (.lit (.int .i64 2))), (3, .int .i64), (4, .int .i64)], [], ([1, 5, 6] ++ rg 22 41)⟩]
 spec := Xfe
def Xed [W : InW] (q2 : Ro tyQ) (n i : Int) (qs : Ro tyQ) (ps : Ro Jc) (all : Int) (A : List Ed -> Prop) (K : Nat -> List Ed -> Prop) : Prop :=
 Vif (decide (i < n)) (Need (decide (0 <= i) && decide (i < (↑(q2.xs.length) : Int))) (Need (decide (i.toNat < q2.xs.length)) (Ar .i64 ((↑(ps.xs.length) : Int) - 1) fun z => Pre True (Vif (Sp.out Zb z [[Cl.i (cel q2.xs i.toNat (0 : Nat)).int]]) (K (0+1) [.i i, .i (4 : Int)]) (Pre True (Vif (Sp.out (2 : Int) (4 : Int) [[Cl.i (cel q2.xs i.toNat (0+1)).int]]) (K (0+1) [.i i, .i (7 : Int)]) (Ar .i64 ((cel q2.xs i.toNat (0+1)).int - 1) fun z => Pre True (Vif (Sp.out Zb z [[Cl.i (cel q2.xs i.toNat ((0 : Nat) + 1 + 1)).int]]) (K (0+1) [.i i, .i (4 : Int)]) (Pre True (Vif (Sp.out Zb (20 : Int) [[Cl.i (cel q2.xs i.toNat ((0 : Nat) + 1 + 1 + 1)).int], [Cl.i (cel q2.xs i.toNat ((0 : Nat) + 1 + 1 + 1 + 1)).int]]) (K (0+1) [.i i, .i (7 : Int)]) (Ar .i64 (i + 1) fun z => A [.ro _ q2, .i n, .i z, .ro _ qs, .ro _ ps, .i all]))))))))))) (K 0 [.ro _ qs, .ro _ ps, .i all])
theorem Xlu (W : InW) (q2 n i qs ps all A K) : Yfc { cxT Try.prog TT T2 1000 50 with fn := 17 } 1000 (Yn7 Try.prog 17 5) (Yd6 80 [(1, .ptr 1 0), (22, .rs _ q2), (23, .si .i64 n), (24, .si .i64 i)] (rg 2 5 ++ rg 25 38)) [(1, .blk 25 [.rs _ qs, .rs _ ps, .si .i64 all])] (Yuf Xhe A K) = Xed q2 n i qs ps all A K := by kernel_rfl
def Xgj : Prop := ∀ (W : InW) (body a : Code), (Try.prog.funcs[17]?).bind (·.body) = some body -> a ∈ Yy body -> Yfw a = 5 -> @Ymq W Try.prog a (@Ytn W Xhe)
theorem Xnk (meas : [InW] -> List Ed -> Nat) (hyp_ : ∀ (W : InW) q2 n i qs ps all K, Xfe [.ro _ q2, .i n, .i i, .ro _ qs, .ro _ ps, .i all] K -> ∀ A : List Ed -> Prop, (∀ e, meas e < meas [.ro _ q2, .i n, .i i, .ro _ qs, .ro _ ps, .i all] -> Xfe e K -> A e) -> Xed q2 n i qs ps all A K) : Xgj :=
 LE.okOf' (fun W => @TT W) (fun W => @Xe W) Xa T2 1000 50 (by kernel_rfl) Xhe (fun W => @meas W) fun W q2 n i qs ps all K hs =>
  (Xlu W q2 n i qs ps all (fun e => meas e < meas [.ro _ q2, .i n, .i i, .ro _ qs, .ro _ ps, .i all] /\ Xfe e K) K).mpr (hyp_ W q2 n i qs ps all K hs _ fun e h1 h2 => ⟨h1, h2⟩)
theorem Xp8 : Xgj := Xnk (fun e => match e with | [_, _, .i i, .ro _ qs, _, _] => ((qs.xs.length : Int) - i).toNat | _ => 0) fun W q2 n i qs ps all K hs A hA => by
 obtain ⟨⟨h0, h1, rfl, hq⟩, hk⟩ := hs;unfold Xed;delta Zb;have hm := qs.len;have hm2 := ps.len;simp only [maxLen] at hm hm2;refine vifd (fun e => ?_) fun e => ?_
 ·rw [show qs.xs.length - i.toNat = (qs.xs.length - (i.toNat + 1)) + 1 by omega] at hk;obtain ⟨g1, g2⟩ := Xc2 (K1 := fun j e => K 1 [.i j, .i e]) hk;rw [Int.toNat_of_nonneg h0] at g1;have ez : (i + 1).toNat = i.toNat + 1 := by omega
  have hA' : Sp.qErr ps.xs.length qs.xs i.toNat = 0 -> A [.ro _ q2, .i qs.xs.length, .i (i + 1), .ro _ qs, .ro _ ps, .i all] := fun f => hA _ (by show ((qs.xs.length : Int) - (i + 1)).toNat < ((qs.xs.length : Int) - i).toNat; omega) ⟨⟨by omega, by omega, rfl, hq⟩, by rw [ez]; exact g2 f⟩;have bad : ∀ n, Sp.qErr ps.xs.length qs.xs i.toNat = n -> n ≠ 0 -> K 1 [.i i, .i n] := fun n hn h => by rw [<- hn]; exact g1 (by rw [hn]; exact h)
  have eN := Lib.hid (Xfx ps.xs.length qs.xs i.toNat);have i1 := fun h => Sp.inr_iff.1 (show Sp.inr (cel qs.xs i.toNat 1).int 2 4 = true from h);clear g1 g2 hk hA;generalize Sp.qErr ps.xs.length qs.xs i.toNat = E at *;have hl2 : q2.xs.length = qs.xs.length := by rw [hq]
  simp only [Nat.zero_add, Nat.reduceAdd, out1, out2, hq]
  repeat' (first | (with_reducible refine ar64 (by have := i1 (by assumption); omega) ?_) | omega|intro _|with_reducible first|apply vifd|apply vifn|apply vifq|apply Xd|apply Xc|apply vifb|apply vif|apply nedd|apply ned2|apply ned|apply ar64|apply Xb|exact True.intro|assumption|rfl|apply And.intro)
  all_goals first | (refine bad 7 ?_ (by omega); rw [eN.out]; simp_all; done) | (refine bad 4 ?_ (by omega); rw [eN.out]; simp_all; done) | (refine hA' ?_; rw [eN.out]; simp_all; done) | (refine bad 7 ?_ (by omega); rw [eN.out]; simp_all; grind)
 ·rw [show qs.xs.length - i.toNat = 0 by omega] at hk;exact hk.2 rfl
def Xq6 : LE Try.prog := ⟨17, 5, fun W => @Ytn W Xhe, Xp8⟩
def Xff [InW] (e : List Ed) (K : Nat -> List Ed -> Prop) : Prop := match e with
 | [.ro _ q2, .i n, .i i, .ro _ qs, .ro _ ps, .i all] => Pre (0 <= i /\ i <= ps.xs.length /\ n = ps.xs.length /\ q2.xs = ps.xs) (Vif (Sp.hasE (Sp.pErr ps.xs) i.toNat (ps.xs.length - i.toNat))
   (K 1 [.i (Sp.idxE (Sp.pErr ps.xs) i.toNat (ps.xs.length - i.toNat)), .i (Sp.pErr ps.xs (Sp.idxE (Sp.pErr ps.xs) i.toNat (ps.xs.length - i.toNat)))]) (K 0 [.ro _ qs, .ro _ ps, .i all]))
 | _ => False
def Xhf : LC where
 len := 80
 T := [(1, (.ptr 1 0)), (64, .rs Jc), (65, .int .i64), (66, .int .i64)]
 H := [(1, .blk 25 [.rs tyQ, .rs Jc, .int .i64])]
 W := ([2, 3, 4, 7, 8] ++ rg 67 9)
 outs := [⟨.exit 3, [(1, (.ptr 1 0))], [(1, .blk 25 [.rs tyQ, .rs Jc, .int .i64])], ([2, 3, 4, 7, 8] ++ rg 64 12)⟩, ⟨.ret, [(2, (.lit (.int .i64 3))), (3, .int .i64), (4, .int .i64)], [], ([1, 7, 8] ++ rg 64 12)⟩]
 spec := Xff
def Xee [W : InW] (q2 : Ro Jc) (n i : Int) (qs : Ro tyQ) (ps : Ro Jc) (all : Int) (A : List Ed -> Prop) (K : Nat -> List Ed -> Prop) : Prop :=
 Vif (decide (i < n)) (Need (decide (0 <= i) && decide (i < (↑(q2.xs.length) : Int))) (Need (decide (i.toNat < q2.xs.length)) (Pre True (Vif (Sp.out (-240 : Int) (240 : Int) [[Cl.i (cel q2.xs i.toNat (0 : Nat)).int]]) (K (0+1) [.i i, .i (7 : Int)]) (Ar .i64 (i + 1) fun z => A [.ro _ q2, .i n, .i z, .ro _ qs, .ro _ ps, .i all]))))) (K 0 [.ro _ qs, .ro _ ps, .i all])
theorem Xlv (W : InW) (q2 n i qs ps all A K) : Yfc { cxT Try.prog TT T2 1000 50 with fn := 17 } 1000 (Yn7 Try.prog 17 17) (Yd6 80 [(1, .ptr 1 0), (64, .rs _ q2), (65, .si .i64 n), (66, .si .i64 i)] ([2, 3, 4, 7, 8] ++ rg 67 9)) [(1, .blk 25 [.rs _ qs, .rs _ ps, .si .i64 all])] (Yuf Xhf A K) = Xee q2 n i qs ps all A K := by kernel_rfl
def Xgk : Prop := ∀ (W : InW) (body a : Code), (Try.prog.funcs[17]?).bind (·.body) = some body -> a ∈ Yy body -> Yfw a = 17 -> @Ymq W Try.prog a (@Ytn W Xhf)
theorem Xnl (meas : [InW] -> List Ed -> Nat) (hyp_ : ∀ (W : InW) q2 n i qs ps all K, Xff [.ro _ q2, .i n, .i i, .ro _ qs, .ro _ ps, .i all] K -> ∀ A : List Ed -> Prop, (∀ e, meas e < meas [.ro _ q2, .i n, .i i, .ro _ qs, .ro _ ps, .i all] -> Xff e K -> A e) -> Xee q2 n i qs ps all A K) : Xgk :=
 LE.okOf' (fun W => @TT W) (fun W => @Xe W) Xa T2 1000 50 (by kernel_rfl) Xhf (fun W => @meas W) fun W q2 n i qs ps all K hs =>
  (Xlv W q2 n i qs ps all (fun e => meas e < meas [.ro _ q2, .i n, .i i, .ro _ qs, .ro _ ps, .i all] /\ Xff e K) K).mpr (hyp_ W q2 n i qs ps all K hs _ fun e h1 h2 => ⟨h1, h2⟩)
theorem Xp9 : Xgk := Xnl (fun e => match e with | [_, _, .i i, _, .ro _ ps, _] => ((ps.xs.length : Int) - i).toNat | _ => 0) fun W q2 n i qs ps all K hs A hA => by
 obtain ⟨⟨h0, h1, rfl, hq⟩, hk⟩ := hs;unfold Xee;have hm := ps.len;simp only [maxLen] at hm;refine vifd (fun e => ?_) fun e => ?_
 ·rw [show ps.xs.length - i.toNat = (ps.xs.length - (i.toNat + 1)) + 1 by omega] at hk;obtain ⟨g1, g2⟩ := Xc2 (K1 := fun j e => K 1 [.i j, .i e]) hk;rw [Int.toNat_of_nonneg h0] at g1;have ez : (i + 1).toNat = i.toNat + 1 := by omega
  have hA' : Sp.pErr ps.xs i.toNat = 0 -> A [.ro _ q2, .i ps.xs.length, .i (i + 1), .ro _ qs, .ro _ ps, .i all] := fun f => hA _ (by show ((ps.xs.length : Int) - (i + 1)).toNat < ((ps.xs.length : Int) - i).toNat; omega) ⟨⟨by omega, by omega, rfl, hq⟩, by rw [ez]; exact g2 f⟩;have bad : ∀ n, Sp.pErr ps.xs i.toNat = n -> n ≠ 0 -> K 1 [.i i, .i n] := fun n hn h => by rw [<- hn]; exact g1 (by rw [hn]; exact h)
  have eN := Lib.hid (Xf0 ps.xs i.toNat);clear g1 g2 hk hA;generalize Sp.pErr ps.xs i.toNat = E at *;have hl2 : q2.xs.length = ps.xs.length := by rw [hq]
  simp only [Nat.zero_add, Nat.reduceAdd, out1, hq]
  repeat' (first | omega|intro _|with_reducible first|apply vifd|apply vifn|apply vifq|apply Xd|apply Xc|apply vifb|apply vif|apply nedd|apply ned2|apply ned|apply ar64|apply Xb|exact True.intro|assumption|rfl|apply And.intro)
  all_goals first | exact bad _ (by rw [eN.out]; simp_all) (by omega) | exact hA' (by rw [eN.out]; simp_all)
 ·rw [show ps.xs.length - i.toNat = 0 by omega] at hk;exact hk.2 rfl
def Xq7 : LE Try.prog := ⟨17, 17, fun W => @Ytn W Xhf, Xp9⟩
def T4 : Tab Try.prog := ⟨[Xcu], [Xq6, Xq7], []⟩
def Xbs [W : InW] (kQ : Ro tyQ) (kP : Ro Jc) (kA : Int) (Q : DS -> Prop) : Prop :=
 Pre True (Vif (Sp.out (1 : Int) (12 : Int) [[Cl.i (↑(kQ.xs.length) : Int)]]) (Q [[Cl.i 1], [Cl.i 0], [Cl.i 3]]) (Pre True (Vif (Sp.out (1 : Int) (4 : Int) [[Cl.i (↑(kP.xs.length) : Int)]]) (Q [[Cl.i 1], [Cl.i 0], [Cl.i 3]]) (Pre (Zb <= 0 /\ Zb <= (↑(kQ.xs.length) : Int) /\ (↑(kQ.xs.length) : Int) = (↑(kQ.xs.length) : Int) /\ kQ.xs = kQ.xs) (Vif (Sp.hasE (Sp.qErr (kP.xs.length) kQ.xs) Za (kQ.xs.length - Int.toNat Zb)) (Q [[Cl.i 2], [Cl.i (↑(Sp.idxE (Sp.qErr (kP.xs.length) kQ.xs) Za (kQ.xs.length - Int.toNat Zb)) : Int)], [Cl.i (Sp.qErr (kP.xs.length) kQ.xs (Sp.idxE (Sp.qErr (kP.xs.length) kQ.xs) Za (kQ.xs.length - Int.toNat Zb)))]]) (Pre (Zb <= 0 /\ Zb <= (↑(kP.xs.length) : Int) /\ (↑(kP.xs.length) : Int) = (↑(kP.xs.length) : Int) /\ kP.xs = kP.xs) (Vif (Sp.hasE (Sp.pErr kP.xs) Za (kP.xs.length - Int.toNat Zb)) (Q [[Cl.i 3], [Cl.i (↑(Sp.idxE (Sp.pErr kP.xs) Za (kP.xs.length - Int.toNat Zb)) : Int)], [Cl.i (Sp.pErr kP.xs (Sp.idxE (Sp.pErr kP.xs) Za (kP.xs.length - Int.toNat Zb)))]]) (Pre True (Vif (Sp.out (-240 : Int) (240 : Int) [[Cl.i kA]]) (Q [[Cl.i 4], [Cl.i 0], [Cl.i 7]]) (Q [[Cl.i 0], [Cl.i 0], [Cl.i 0]]))))))))))
theorem Xhv (W : InW) (kQ kP kA Q) : Ywt (cxT Try.prog TT T4 1000 50) 1000 17 [.agg [.rs _ kQ, .rs _ kP, .si .i64 kA]] [] 0 (Y02 [(false, [.int .i64]), (false, [.int .i64]), (false, [.int .i64])] Q) (fun _ _ _ _ => Stuck 421) = Xbs kQ kP kA Q := by kernel_rfl
abbrev X0 : List AT := [.agg [.sl tyQ, .sl Jc, .int .i64]]
theorem Xih {pre : DS -> Prop} {res : DS -> DS} (hyp_ : ∀ (W : InW) (kQ : Ro tyQ) (kP : Ro Jc) (kA : Int), pre [[.l kQ.xs, .l kP.xs, .i kA]] -> ∀ Q : DS -> Prop, Q (res [[.l kQ.xs, .l kP.xs, .i kA]]) -> Xbs kQ kP kA Q) : PureOk Try.prog 17 X0 [(false, [.int .i64]), (false, [.int .i64]), (false, [.int .i64])] pre res :=
 PureOk.of' (fun W => @TT W) (fun W => @Xe W) Xa T4 1000 50 fun W kQ kP kA hp =>
  (Xhv W kQ kP kA (fun o => o = res [[.l kQ.xs, .l kP.xs, .i kA]])).mpr (hyp_ W kQ kP kA hp _ rfl)
theorem Xj7 : PureOk Try.prog 17 X0 [(false, [.int .i64]), (false, [.int .i64]), (false, [.int .i64])] (fun _ => True) Xt :=
 Xih fun W qs ps all hp Q h => by
  unfold Xbs;delta Za Zb;obtain ⟨q0, q1, q2, q3, q4⟩ := Xiv (Q := fun r => Q [[.i r.1], [.i r.2.1], [.i r.2.2]]) h;clear h;simp only [show Int.toNat 0 = 0 from rfl, Nat.sub_zero, out1]
  repeat' (first | omega|intro _|with_reducible first|apply vifd|apply vifn|apply vifq|apply Xd|apply Xc|apply vifb|apply vif|apply nedd|apply ned2|apply ned|apply ar64|apply Xb|exact True.intro|assumption|rfl|apply And.intro)
  all_goals first | exact q4 (by simp [*]) (by assumption) (by assumption) (by assumption) | exact q3 (by simp [*]) (by assumption) (by assumption) (by assumption) | exact q2 (by simp [*]) (by assumption) (by assumption) | exact q1 (by simp [*]) (by assumption) | exact q0 (by simp [*])
def Xbe : PC Try.prog := ⟨17, X0, [(false, [.int .i64]), (false, [.int .i64]), (false, [.int .i64])], fun _ => True, Xt, Xj7⟩
abbrev Xi (ds : DS) : DS := [[.b true]]
abbrev Xn (ds : DS) : Prop := match ds with | [[.l a], [.l b]] => a = b | _ => False
abbrev Xct (ds : DS) : Prop := match ds with | [[.l a, .l p, .i n], [.l b, .l q, .i m]] => a = b /\ p = q /\ n = m | _ => False
def Xc3 [InW] (ts : List Ty) (e : List Ed) (K : Nat -> List Ed -> Prop) : Prop := match e with
 | [.ro _ a, .ro _ b, .i i] => Pre (0 <= i /\ i <= a.xs.length /\ a.xs = b.xs) (K 0 [])
 | _ => False
def Xb0 [InW] (e : List Ed) (K : Nat -> List Ed -> Prop) : Prop := Xc3 [] e K
def X7 [InW] (e : List Ed) (K : Nat -> List Ed -> Prop) : Prop := Xc3 [] e K
def X6 [InW] (e : List Ed) (K : Nat -> List Ed -> Prop) : Prop := Xc3 [] e K
def Xb4 : LC where
 len := 26
 T := [(0, .rs Jc), (1, .rs Jc), (5, .int .i64)]
 H := []
 W := ([4] ++ rg 11 15)
 outs := [⟨.exit 0, [], [], ([0, 1, 4, 5] ++ rg 11 15)⟩, ⟨.ret, [(4, (.lit (.bool false)))], [], ([0, 1, 5] ++ rg 11 15)⟩]
 spec := Xb0
def Xcn [W : InW] (a b : Ro Jc) (i : Int) (A : List Ed -> Prop) (K : Nat -> List Ed -> Prop) : Prop :=
 Vif (decide (i < (↑(a.xs.length) : Int))) (Need (decide (0 <= i) && decide (i < (↑(a.xs.length) : Int))) (Need (decide (i.toNat < a.xs.length)) (Need (decide (0 <= i) && decide (i < (↑(b.xs.length) : Int))) (Need (decide (i.toNat < b.xs.length)) (Vif (!decide ((cel a.xs i.toNat (0 : Nat)).int = (cel b.xs i.toNat (0 : Nat)).int)) (K (0+1) []) (Ar .i64 (i + 1) fun z => A [.ro _ a, .ro _ b, .i z])))))) (K 0 [])
theorem Xjg (W : InW) (a b i A K) : Yfc { cxT Try.prog TT T0 1000 50 with fn := 21 } 1000 (Yn7 Try.prog 21 5) (Yd6 26 [(0, .rs _ a), (1, .rs _ b), (5, .si .i64 i)] ([4] ++ rg 11 15)) [] (Yuf Xb4 A K) = Xcn a b i A K := by kernel_rfl
def Xcx : Prop := ∀ (W : InW) (body a : Code), (Try.prog.funcs[21]?).bind (·.body) = some body -> a ∈ Yy body -> Yfw a = 5 -> @Ymq W Try.prog a (@Ytn W Xb4)
theorem Xka (meas : [InW] -> List Ed -> Nat) (hyp_ : ∀ (W : InW) a b i K, Xb0 [.ro _ a, .ro _ b, .i i] K -> ∀ A : List Ed -> Prop, (∀ e, meas e < meas [.ro _ a, .ro _ b, .i i] -> Xb0 e K -> A e) -> Xcn a b i A K) : Xcx :=
 LE.okOf' (fun W => @TT W) (fun W => @Xe W) Xa T0 1000 50 (by kernel_rfl) Xb4 (fun W => @meas W) fun W a b i K hs =>
  (Xjg W a b i (fun e => meas e < meas [.ro _ a, .ro _ b, .i i] /\ Xb0 e K) K).mpr (hyp_ W a b i K hs _ fun e h1 h2 => ⟨h1, h2⟩)
theorem Xog : Xcx := Xka (fun e => match e with | [.ro _ a, _, .i i] => ((a.xs.length : Int) - i).toNat | _ => 0) fun W a b i K hs A hA => by
 obtain ⟨⟨h0, h1, h2⟩, hk⟩ := hs; have hm := a.len; simp only [maxLen] at hm; have hA' := hA [.ro _ a, .ro _ b, .i (i + 1)]; have hlt : i < a.xs.length -> ((a.xs.length : Int) - (i + 1)).toNat < ((a.xs.length : Int) - i).toNat := by omega
 have hl : a.xs.length = b.xs.length := by rw [h2]
 unfold Xcn;simp only [Nat.zero_add, Nat.reduceAdd, h2]
 repeat' (first | omega|intro _|with_reducible first|apply vifd|apply vifn|apply vifq|apply Xd|apply Xc|apply vifb|apply vif|apply nedd|apply ned2|apply ned|apply ar64|apply Xb|exact True.intro|assumption|rfl|apply And.intro)
 all_goals first | exact hk | (exact hA' (hlt (by omega)) ⟨⟨by omega, by omega, h2⟩, hk⟩) | simp_all
def Xoo : LE Try.prog := ⟨21, 5, fun W => @Ytn W Xb4, Xog⟩
def Xbb : LC where
 len := 26
 T := [(0, .rs Ja), (1, .rs Ja), (5, .int .i64)]
 H := []
 W := ([4] ++ rg 11 15)
 outs := [⟨.exit 0, [], [], ([0, 1, 4, 5] ++ rg 11 15)⟩, ⟨.ret, [(4, (.lit (.bool false)))], [], ([0, 1, 5] ++ rg 11 15)⟩]
 spec := X7
def Xbu [W : InW] (a b : Ro Ja) (i : Int) (A : List Ed -> Prop) (K : Nat -> List Ed -> Prop) : Prop :=
 Vif (decide (i < (↑(a.xs.length) : Int))) (Need (decide (0 <= i) && decide (i < (↑(a.xs.length) : Int))) (Need (decide (i.toNat < a.xs.length)) (Need (decide (0 <= i) && decide (i < (↑(b.xs.length) : Int))) (Need (decide (i.toNat < b.xs.length)) (Vif (!(decide ((cel a.xs i.toNat (0 : Nat)).int = (cel b.xs i.toNat (0 : Nat)).int) && (decide ((cel a.xs i.toNat (0+1)).int = (cel b.xs i.toNat (0+1)).int) && true))) (K (0+1) []) (Ar .i64 (i + 1) fun z => A [.ro _ a, .ro _ b, .i z])))))) (K 0 [])
theorem Xht (W : InW) (a b i A K) : Yfc { cxT Try.prog TT T0 1000 50 with fn := 29 } 1000 (Yn7 Try.prog 29 5) (Yd6 26 [(0, .rs _ a), (1, .rs _ b), (5, .si .i64 i)] ([4] ++ rg 11 15)) [] (Yuf Xbb A K) = Xbu a b i A K := by kernel_rfl
def Xbx : Prop := ∀ (W : InW) (body a : Code), (Try.prog.funcs[29]?).bind (·.body) = some body -> a ∈ Yy body -> Yfw a = 5 -> @Ymq W Try.prog a (@Ytn W Xbb)
theorem Xif (meas : [InW] -> List Ed -> Nat) (hyp_ : ∀ (W : InW) a b i K, X7 [.ro _ a, .ro _ b, .i i] K -> ∀ A : List Ed -> Prop, (∀ e, meas e < meas [.ro _ a, .ro _ b, .i i] -> X7 e K -> A e) -> Xbu a b i A K) : Xbx :=
 LE.okOf' (fun W => @TT W) (fun W => @Xe W) Xa T0 1000 50 (by kernel_rfl) Xbb (fun W => @meas W) fun W a b i K hs =>
  (Xht W a b i (fun e => meas e < meas [.ro _ a, .ro _ b, .i i] /\ X7 e K) K).mpr (hyp_ W a b i K hs _ fun e h1 h2 => ⟨h1, h2⟩)
theorem Xkn : Xbx := Xif (fun e => match e with | [.ro _ a, _, .i i] => ((a.xs.length : Int) - i).toNat | _ => 0) fun W a b i K hs A hA => by
 obtain ⟨⟨h0, h1, h2⟩, hk⟩ := hs; have hm := a.len; simp only [maxLen] at hm; have hA' := hA [.ro _ a, .ro _ b, .i (i + 1)]; have hlt : i < a.xs.length -> ((a.xs.length : Int) - (i + 1)).toNat < ((a.xs.length : Int) - i).toNat := by omega
 have hl : a.xs.length = b.xs.length := by rw [h2]
 unfold Xbu;simp only [Nat.zero_add, Nat.reduceAdd, h2]
 repeat' (first | omega|intro _|with_reducible first|apply vifd|apply vifn|apply vifq|apply Xd|apply Xc|apply vifb|apply vif|apply nedd|apply ned2|apply ned|apply ar64|apply Xb|exact True.intro|assumption|rfl|apply And.intro)
 all_goals first | exact hk | (exact hA' (hlt (by omega)) ⟨⟨by omega, by omega, h2⟩, hk⟩) | simp_all
def Xkp : LE Try.prog := ⟨29, 5, fun W => @Ytn W Xbb, Xkn⟩
def Xba : LC where
 len := 26
 T := [(0, .rs Ja), (1, .rs Ja), (5, .int .i64)]
 H := []
 W := ([4] ++ rg 11 15)
 outs := [⟨.exit 0, [], [], ([0, 1, 4, 5] ++ rg 11 15)⟩, ⟨.ret, [(4, (.lit (.bool false)))], [], ([0, 1, 5] ++ rg 11 15)⟩]
 spec := X6
def Xbt [W : InW] (a b : Ro Ja) (i : Int) (A : List Ed -> Prop) (K : Nat -> List Ed -> Prop) : Prop :=
 Vif (decide (i < (↑(a.xs.length) : Int))) (Need (decide (0 <= i) && decide (i < (↑(a.xs.length) : Int))) (Need (decide (i.toNat < a.xs.length)) (Need (decide (0 <= i) && decide (i < (↑(b.xs.length) : Int))) (Need (decide (i.toNat < b.xs.length)) (Vif (!(decide ((cel a.xs i.toNat (0 : Nat)).int = (cel b.xs i.toNat (0 : Nat)).int) && (decide ((cel a.xs i.toNat (0+1)).int = (cel b.xs i.toNat (0+1)).int) && true))) (K (0+1) []) (Ar .i64 (i + 1) fun z => A [.ro _ a, .ro _ b, .i z])))))) (K 0 [])
theorem Xhs (W : InW) (a b i A K) : Yfc { cxT Try.prog TT T0 1000 50 with fn := 37 } 1000 (Yn7 Try.prog 37 5) (Yd6 26 [(0, .rs _ a), (1, .rs _ b), (5, .si .i64 i)] ([4] ++ rg 11 15)) [] (Yuf Xba A K) = Xbt a b i A K := by kernel_rfl
def Xbw : Prop := ∀ (W : InW) (body a : Code), (Try.prog.funcs[37]?).bind (·.body) = some body -> a ∈ Yy body -> Yfw a = 5 -> @Ymq W Try.prog a (@Ytn W Xba)
theorem Xie (meas : [InW] -> List Ed -> Nat) (hyp_ : ∀ (W : InW) a b i K, X6 [.ro _ a, .ro _ b, .i i] K -> ∀ A : List Ed -> Prop, (∀ e, meas e < meas [.ro _ a, .ro _ b, .i i] -> X6 e K -> A e) -> Xbt a b i A K) : Xbw :=
 LE.okOf' (fun W => @TT W) (fun W => @Xe W) Xa T0 1000 50 (by kernel_rfl) Xba (fun W => @meas W) fun W a b i K hs =>
  (Xhs W a b i (fun e => meas e < meas [.ro _ a, .ro _ b, .i i] /\ X6 e K) K).mpr (hyp_ W a b i K hs _ fun e h1 h2 => ⟨h1, h2⟩)
theorem Xkm : Xbw := Xie (fun e => match e with | [.ro _ a, _, .i i] => ((a.xs.length : Int) - i).toNat | _ => 0) fun W a b i K hs A hA => by
 obtain ⟨⟨h0, h1, h2⟩, hk⟩ := hs; have hm := a.len; simp only [maxLen] at hm; have hA' := hA [.ro _ a, .ro _ b, .i (i + 1)]; have hlt : i < a.xs.length -> ((a.xs.length : Int) - (i + 1)).toNat < ((a.xs.length : Int) - i).toNat := by omega
 have hl : a.xs.length = b.xs.length := by rw [h2]
 unfold Xbt;simp only [Nat.zero_add, Nat.reduceAdd, h2]
 repeat' (first | omega|intro _|with_reducible first|apply vifd|apply vifn|apply vifq|apply Xd|apply Xc|apply vifb|apply vif|apply nedd|apply ned2|apply ned|apply ar64|apply Xb|exact True.intro|assumption|rfl|apply And.intro)
 all_goals first | exact hk | (exact hA' (hlt (by omega)) ⟨⟨by omega, by omega, h2⟩, hk⟩) | simp_all
def Xko : LE Try.prog := ⟨37, 5, fun W => @Ytn W Xba, Xkm⟩
def T5 : Tab Try.prog := ⟨[], [Xoo, Xkp, Xko], []⟩
def Xdu [W : InW] (a b : Ro Jc) (Q : DS -> Prop) : Prop :=
 Vif (!decide ((↑(a.xs.length) : Int) = (↑(b.xs.length) : Int))) (Q [[Cl.b false]]) (Pre ((0 : Int) <= 0 /\ (0 : Int) <= (↑(a.xs.length) : Int) /\ a.xs = b.xs) (Q [[Cl.b true]]))
theorem Xmn (W : InW) (a b Q) : Ywt (cxT Try.prog TT T5 1000 50) 1000 21 [.rs _ a, .rs _ b] [] 0 (Y02 [(false, [.bool])] Q) (fun _ _ _ _ => Stuck 421) = Xdu a b Q := by kernel_rfl
abbrev Xcf : List AT := [.one (.sl Jc), .one (.sl Jc)]
theorem Xoe {pre : DS -> Prop} {res : DS -> DS} (hyp_ : ∀ (W : InW) (a b : Ro Jc), pre [[.l a.xs], [.l b.xs]] -> ∀ Q : DS -> Prop, Q (res [[.l a.xs], [.l b.xs]]) -> Xdu a b Q) : PureOk Try.prog 21 Xcf [(false, [.bool])] pre res :=
 PureOk.of' (fun W => @TT W) (fun W => @Xe W) Xa T5 1000 50 fun W a b hp =>
  (Xmn W a b (fun o => o = res [[.l a.xs], [.l b.xs]])).mpr (hyp_ W a b hp _ rfl)
theorem Xpl : PureOk Try.prog 21 Xcf [(false, [.bool])] Xn Xi :=
 Xoe fun W a b hp Q h => by
  have hp : a.xs = b.xs := hp;have hl : a.xs.length = b.xs.length := by rw [hp]
  unfold Xdu;simp only [hl, show Int.toNat 0 = 0 from rfl]
  repeat' (first | omega|intro _|with_reducible first|apply vifd|apply vifn|apply vifq|apply Xd|apply Xc|apply vifb|apply vif|apply nedd|apply ned2|apply ned|apply ar64|apply Xb|exact True.intro|assumption|rfl|apply And.intro)
  all_goals first | exact h | exact ⟨⟨by omega, by omega, hp⟩, h⟩ | simp_all
def Xdf : PC Try.prog := ⟨21, Xcf, [(false, [.bool])], Xn, Xi, Xpl⟩
def Xcl [W : InW] (a b : Ro Ja) (Q : DS -> Prop) : Prop :=
 Vif (!decide ((↑(a.xs.length) : Int) = (↑(b.xs.length) : Int))) (Q [[Cl.b false]]) (Pre ((0 : Int) <= 0 /\ (0 : Int) <= (↑(a.xs.length) : Int) /\ a.xs = b.xs) (Q [[Cl.b true]]))
theorem Xjq (W : InW) (a b Q) : Ywt (cxT Try.prog TT T5 1000 50) 1000 29 [.rs _ a, .rs _ b] [] 0 (Y02 [(false, [.bool])] Q) (fun _ _ _ _ => Stuck 421) = Xcl a b Q := by kernel_rfl
abbrev Xbp : List AT := [.one (.sl Ja), .one (.sl Ja)]
theorem Xkk {pre : DS -> Prop} {res : DS -> DS} (hyp_ : ∀ (W : InW) (a b : Ro Ja), pre [[.l a.xs], [.l b.xs]] -> ∀ Q : DS -> Prop, Q (res [[.l a.xs], [.l b.xs]]) -> Xcl a b Q) : PureOk Try.prog 29 Xbp [(false, [.bool])] pre res :=
 PureOk.of' (fun W => @TT W) (fun W => @Xe W) Xa T5 1000 50 fun W a b hp =>
  (Xjq W a b (fun o => o = res [[.l a.xs], [.l b.xs]])).mpr (hyp_ W a b hp _ rfl)
theorem Xn3 : PureOk Try.prog 29 Xbp [(false, [.bool])] Xn Xi :=
 Xkk fun W a b hp Q h => by
  have hp : a.xs = b.xs := hp;have hl : a.xs.length = b.xs.length := by rw [hp]
  unfold Xcl;simp only [hl, show Int.toNat 0 = 0 from rfl]
  repeat' (first | omega|intro _|with_reducible first|apply vifd|apply vifn|apply vifq|apply Xd|apply Xc|apply vifb|apply vif|apply nedd|apply ned2|apply ned|apply ar64|apply Xb|exact True.intro|assumption|rfl|apply And.intro)
  all_goals first | exact h | exact ⟨⟨by omega, by omega, hp⟩, h⟩ | simp_all
def Xj3 : PC Try.prog := ⟨29, Xbp, [(false, [.bool])], Xn, Xi, Xn3⟩
def Xcg [W : InW] (a b : Ro Ja) (Q : DS -> Prop) : Prop :=
 Vif (!decide ((↑(a.xs.length) : Int) = (↑(b.xs.length) : Int))) (Q [[Cl.b false]]) (Pre ((0 : Int) <= 0 /\ (0 : Int) <= (↑(a.xs.length) : Int) /\ a.xs = b.xs) (Q [[Cl.b true]]))
theorem Xjm (W : InW) (a b Q) : Ywt (cxT Try.prog TT T5 1000 50) 1000 37 [.rs _ a, .rs _ b] [] 0 (Y02 [(false, [.bool])] Q) (fun _ _ _ _ => Stuck 421) = Xcg a b Q := by kernel_rfl
abbrev Xbm : List AT := [.one (.sl Ja), .one (.sl Ja)]
theorem Xkg {pre : DS -> Prop} {res : DS -> DS} (hyp_ : ∀ (W : InW) (a b : Ro Ja), pre [[.l a.xs], [.l b.xs]] -> ∀ Q : DS -> Prop, Q (res [[.l a.xs], [.l b.xs]]) -> Xcg a b Q) : PureOk Try.prog 37 Xbm [(false, [.bool])] pre res :=
 PureOk.of' (fun W => @TT W) (fun W => @Xe W) Xa T5 1000 50 fun W a b hp =>
  (Xjm W a b (fun o => o = res [[.l a.xs], [.l b.xs]])).mpr (hyp_ W a b hp _ rfl)
theorem Xmz : PureOk Try.prog 37 Xbm [(false, [.bool])] Xn Xi :=
 Xkg fun W a b hp Q h => by
  have hp : a.xs = b.xs := hp;have hl : a.xs.length = b.xs.length := by rw [hp]
  unfold Xcg;simp only [hl, show Int.toNat 0 = 0 from rfl]
  repeat' (first | omega|intro _|with_reducible first|apply vifd|apply vifn|apply vifq|apply Xd|apply Xc|apply vifb|apply vif|apply nedd|apply ned2|apply ned|apply ar64|apply Xb|exact True.intro|assumption|rfl|apply And.intro)
  all_goals first | exact h | exact ⟨⟨by omega, by omega, hp⟩, h⟩ | simp_all
def Xjz : PC Try.prog := ⟨37, Xbm, [(false, [.bool])], Xn, Xi, Xmz⟩
def Xbz [InW] (e : List Ed) (K : Nat -> List Ed -> Prop) : Prop := match e with
 | [.i i, .ro _ qs, .ro _ ps, .i all, .ro _ qt, .ro _ pt, .i alt] => Pre (0 <= i /\ i <= qs.xs.length /\ qs.xs = qt.xs) (K 0 [])
 | _ => False
def T6 : Tab Try.prog := ⟨[Xdf], [], []⟩
def Xb3 : LC where
 len := 46
 T := [(2, (.ptr 1 0)), (3, (.ptr 4 0)), (5, .int .i64)]
 H := [(1, .blk 25 [.rs Iv5, .rs Jc, .int .i64]), (4, .blk 25 [.rs Iv5, .rs Jc, .int .i64])]
 W := ([4] ++ rg 28 18)
 outs := [⟨.exit 0, [], [], (rg 2 4 ++ rg 28 18)⟩, ⟨.ret, [(4, (.lit (.bool false)))], [], ([2, 3, 5] ++ rg 28 18)⟩]
 spec := Xbz
def Xcm [W : InW] (i : Int) (qs : Ro Iv5) (ps : Ro Jc) (all : Int) (qt : Ro Iv5) (pt : Ro Jc) (alt : Int) (A : List Ed -> Prop) (K : Nat -> List Ed -> Prop) : Prop :=
 Vif (decide (i < (↑(qs.xs.length) : Int))) (Need (decide (0 <= i) && decide (i < (↑(qs.xs.length) : Int))) (Need (decide (i.toNat < qs.xs.length)) (Need (decide (0 <= i) && decide (i < (↑(qt.xs.length) : Int))) (Need (decide (i.toNat < qt.xs.length)) (Vif (!(decide ((cel qs.xs i.toNat (0 : Nat)).int = (cel qt.xs i.toNat (0 : Nat)).int) && (decide ((cel qs.xs i.toNat (0+1)).int = (cel qt.xs i.toNat (0+1)).int) && (decide ((cel qs.xs i.toNat ((0 : Nat) + 1 + 1)).int = (cel qt.xs i.toNat ((0 : Nat) + 1 + 1)).int) && (decide ((cel qs.xs i.toNat ((0 : Nat) + 1 + 1 + 1)).int = (cel qt.xs i.toNat ((0 : Nat) + 1 + 1 + 1)).int) && (decide ((cel qs.xs i.toNat ((0 : Nat) + 1 + 1 + 1 + 1)).int = (cel qt.xs i.toNat ((0 : Nat) + 1 + 1 + 1 + 1)).int) && true)))))) (K (0+1) []) (Ar .i64 (i + 1) fun z => A [.i z, .ro _ qs, .ro _ ps, .i all, .ro _ qt, .ro _ pt, .i alt])))))) (K 0 [])
theorem Xjf (W : InW) (i qs ps all qt pt alt A K) : Yfc { cxT Try.prog TT T6 1000 50 with fn := 34 } 1000 (Yn7 Try.prog 34 5) (Yd6 46 [(2, .ptr 1 0), (3, .ptr 4 0), (5, .si .i64 i)] ([4] ++ rg 28 18)) [(1, .blk 25 [.rs _ qs, .rs _ ps, .si .i64 all]), (4, .blk 25 [.rs _ qt, .rs _ pt, .si .i64 alt])] (Yuf Xb3 A K) = Xcm i qs ps all qt pt alt A K := by kernel_rfl
def Xcw : Prop := ∀ (W : InW) (body a : Code), (Try.prog.funcs[34]?).bind (·.body) = some body -> a ∈ Yy body -> Yfw a = 5 -> @Ymq W Try.prog a (@Ytn W Xb3)
theorem Xj9 (meas : [InW] -> List Ed -> Nat) (hyp_ : ∀ (W : InW) i qs ps all qt pt alt K, Xbz [.i i, .ro _ qs, .ro _ ps, .i all, .ro _ qt, .ro _ pt, .i alt] K -> ∀ A : List Ed -> Prop, (∀ e, meas e < meas [.i i, .ro _ qs, .ro _ ps, .i all, .ro _ qt, .ro _ pt, .i alt] -> Xbz e K -> A e) -> Xcm i qs ps all qt pt alt A K) : Xcw :=
 LE.okOf' (fun W => @TT W) (fun W => @Xe W) Xa T6 1000 50 (by kernel_rfl) Xb3 (fun W => @meas W) fun W i qs ps all qt pt alt K hs =>
  (Xjf W i qs ps all qt pt alt (fun e => meas e < meas [.i i, .ro _ qs, .ro _ ps, .i all, .ro _ qt, .ro _ pt, .i alt] /\ Xbz e K) K).mpr (hyp_ W i qs ps all qt pt alt K hs _ fun e h1 h2 => ⟨h1, h2⟩)
theorem Xof : Xcw := Xj9 (fun e => match e with | [.i i, .ro _ a, _, _, _, _, _] => ((a.xs.length : Int) - i).toNat | _ => 0) fun W i a ps all b pt alt K hs A hA => by
 obtain ⟨⟨h0, h1, h2⟩, hk⟩ := hs;have hm := a.len;simp only [maxLen] at hm;have hA' := hA [.i (i + 1), .ro _ a, .ro _ ps, .i all, .ro _ b, .ro _ pt, .i alt];have hlt : i < a.xs.length -> ((a.xs.length : Int) - (i + 1)).toNat < ((a.xs.length : Int) - i).toNat := by omega
 have hl : a.xs.length = b.xs.length := by rw [h2]
 unfold Xcm;simp only [Nat.zero_add, Nat.reduceAdd, h2]
 repeat' (first | omega|intro _|with_reducible first|apply vifd|apply vifn|apply vifq|apply Xd|apply Xc|apply vifb|apply vif|apply nedd|apply ned2|apply ned|apply ar64|apply Xb|exact True.intro|assumption|rfl|apply And.intro)
 all_goals first | exact hk | (exact hA' (hlt (by omega)) ⟨⟨by omega, by omega, h2⟩, hk⟩) | simp_all
def Xon : LE Try.prog := ⟨34, 5, fun W => @Ytn W Xb3, Xof⟩
def T7 : Tab Try.prog := ⟨[Xdf], [Xon], []⟩
def Xdt [W : InW] (a_Qs : Ro Iv5) (a_Ps : Ro Jc) (a_All : Int) (b_Qs : Ro Iv5) (b_Ps : Ro Jc) (b_All : Int) (Q : DS -> Prop) : Prop :=
 Vif (!decide ((↑(a_Qs.xs.length) : Int) = (↑(b_Qs.xs.length) : Int))) (Q [[Cl.b false]]) (Pre (a_Ps.xs = b_Ps.xs) (Vif (!true) (Q [[Cl.b false]]) (Vif (!decide (a_All = b_All)) (Q [[Cl.b false]]) (Pre ((0 : Int) <= 0 /\ (0 : Int) <= (↑(a_Qs.xs.length) : Int) /\ a_Qs.xs = b_Qs.xs) (Q [[Cl.b true]])))))
theorem Xmm (W : InW) (a_Qs a_Ps a_All b_Qs b_Ps b_All Q) : Ywt (cxT Try.prog TT T7 1000 50) 1000 34 [.agg [.rs _ a_Qs, .rs _ a_Ps, .si .i64 a_All], .agg [.rs _ b_Qs, .rs _ b_Ps, .si .i64 b_All]] [] 0 (Y02 [(false, [.bool])] Q) (fun _ _ _ _ => Stuck 421) = Xdt a_Qs a_Ps a_All b_Qs b_Ps b_All Q := by kernel_rfl
abbrev Xce : List AT := [.agg [.sl Iv5, .sl Jc, .int .i64], .agg [.sl Iv5, .sl Jc, .int .i64]]
theorem Xod {pre : DS -> Prop} {res : DS -> DS} (hyp_ : ∀ (W : InW) (a_Qs : Ro Iv5) (a_Ps : Ro Jc) (a_All : Int) (b_Qs : Ro Iv5) (b_Ps : Ro Jc) (b_All : Int), pre [[.l a_Qs.xs, .l a_Ps.xs, .i a_All], [.l b_Qs.xs, .l b_Ps.xs, .i b_All]] -> ∀ Q : DS -> Prop, Q (res [[.l a_Qs.xs, .l a_Ps.xs, .i a_All], [.l b_Qs.xs, .l b_Ps.xs, .i b_All]]) -> Xdt a_Qs a_Ps a_All b_Qs b_Ps b_All Q) : PureOk Try.prog 34 Xce [(false, [.bool])] pre res :=
 PureOk.of' (fun W => @TT W) (fun W => @Xe W) Xa T7 1000 50 fun W a_Qs a_Ps a_All b_Qs b_Ps b_All hp =>
  (Xmm W a_Qs a_Ps a_All b_Qs b_Ps b_All (fun o => o = res [[.l a_Qs.xs, .l a_Ps.xs, .i a_All], [.l b_Qs.xs, .l b_Ps.xs, .i b_All]])).mpr (hyp_ W a_Qs a_Ps a_All b_Qs b_Ps b_All hp _ rfl)
theorem Xpk : PureOk Try.prog 34 Xce [(false, [.bool])] Xct Xi :=
 Xod fun W a pa na b pb nb hp Q h => by
  obtain ⟨h1, h2, h3⟩ : a.xs = b.xs /\ pa.xs = pb.xs /\ na = nb := hp;have hl : a.xs.length = b.xs.length := by rw [h1]
  unfold Xdt;subst h3;simp only [hl, show Int.toNat 0 = 0 from rfl]
  repeat' (first | omega|intro _|with_reducible first|apply vifd|apply vifn|apply vifq|apply Xd|apply Xc|apply vifb|apply vif|apply nedd|apply ned2|apply ned|apply ar64|apply Xb|exact True.intro|assumption|rfl|apply And.intro)
  all_goals first | exact h | exact ⟨⟨by omega, by omega, h1⟩, h⟩ | simp_all
def Xmv : PC Try.prog := ⟨34, Xce, [(false, [.bool])], Xct, Xi, Xpk⟩
namespace Sp
def bx (d : Dt) (j : Nat) : Int := (cel d j 0).int
def ansD (d : Dt) : Nat -> Nat -> Int -> Bool
 | _, 0, _ => false
 | i, n + 1, a => if bx d i = 1 then (if 0 <= a then true else ansD d (i + 1) n i) else ansD d (i + 1) n a
def ansL (d : Dt) : Nat -> Nat -> Int -> Int
 | _, 0, a => a
 | i, n + 1, a => if bx d i = 1 then ansL d (i + 1) n i else ansL d (i + 1) n a
def ansOf (d : Dt) : Int := if ansD d 0 d.length (-1) then -1 else ansL d 0 d.length (-1)
def ptsV (right pts minus : Int) (d : Dt) : Int := if ansOf d = right then pts else if 0 <= ansOf d then 0 - minus else 0
def num (xs : Dt) (i : Nat) : Int := (cel xs i 0).int
def total (xs : Dt) : Int := sumF (num xs) 0 xs.length 0
def Low (xs : Dt) : Prop := xs.length <= 1000 /\ ∀ i, i < xs.length -> -1000 <= num xs i /\ num xs i <= 1000
end Sp
def Xfq [InW] (e : List Ed) (K : Nat -> List Ed -> Prop) : Prop := match e with
 | [.ro _ d, .i a, .i i] => Pre (0 <= i /\ i <= d.xs.length /\ -1 <= a) (Vif (Sp.ansD d.xs i.toNat (d.xs.length - i.toNat) a) (K 1 []) (K 0 [.i (Sp.ansL d.xs i.toNat (d.xs.length - i.toNat) a)]))
 | _ => False
def Xho : LC where
 len := 27
 T := [(0, .rs Jc), (3, .int .i64), (4, .int .i64)]
 H := []
 W := ([2] ++ rg 5 21)
 outs := [⟨.exit 0, [(3, .int .i64)], [], ([0, 2] ++ rg 4 22)⟩, ⟨.ret, [(2, (.lit (.int .i64 (-1))))], [], ([0] ++ rg 3 23)⟩]
 spec := Xfq
def Zc [W : InW] (d : Ro Jc) (a i : Int) (A : List Ed -> Prop) := Need (decide (0 <= i) && decide (i < (↑(d.xs.length) : Int))) (Need (decide (i.toNat < d.xs.length)) (Vif (decide ((cel d.xs i.toNat (0 : Nat)).int = 1)) (Ar .i64 (i + 1) fun z => A [.ro _ d, .i i, .i z]) (Ar .i64 (i + 1) fun z => A [.ro _ d, .i a, .i z])))
def Xeo [W : InW] (d : Ro Jc) (a i : Int) (A : List Ed -> Prop) (K : Nat -> List Ed -> Prop) : Prop :=
 Vif (decide (i < (↑(d.xs.length) : Int))) (Need (decide (0 <= i) && decide (i < (↑(d.xs.length) : Int))) (Need (decide (i.toNat < d.xs.length)) (Vif (decide ((cel d.xs i.toNat (0 : Nat)).int = 1)) (Vif (decide (0 <= a)) (K (0+1) []) (Zc d a i A)) (Zc d a i A)))) (K 0 [.i a])
theorem Xl5 (W : InW) (d a i A K) : Yfc { cxT Try.prog TT T0 1000 50 with fn := 49 } 1000 (Yn7 Try.prog 49 4) (Yd6 27 [(0, .rs _ d), (3, .si .i64 a), (4, .si .i64 i)] ([2] ++ rg 5 21)) [] (Yuf Xho A K) = Xeo d a i A K := by kernel_rfl
def Xgt : Prop := ∀ (W : InW) (body a : Code), (Try.prog.funcs[49]?).bind (·.body) = some body -> a ∈ Yy body -> Yfw a = 4 -> @Ymq W Try.prog a (@Ytn W Xho)
theorem Xnv (meas : [InW] -> List Ed -> Nat) (hyp_ : ∀ (W : InW) d a i K, Xfq [.ro _ d, .i a, .i i] K -> ∀ A : List Ed -> Prop, (∀ e, meas e < meas [.ro _ d, .i a, .i i] -> Xfq e K -> A e) -> Xeo d a i A K) : Xgt :=
 LE.okOf' (fun W => @TT W) (fun W => @Xe W) Xa T0 1000 50 (by kernel_rfl) Xho (fun W => @meas W) fun W d a i K hs =>
  (Xl5 W d a i (fun e => meas e < meas [.ro _ d, .i a, .i i] /\ Xfq e K) K).mpr (hyp_ W d a i K hs _ fun e h1 h2 => ⟨h1, h2⟩)
theorem Xqj : Xgt := Xnv (fun e => match e with | [.ro _ d, _, .i i] => ((d.xs.length : Int) - i).toNat | _ => 0) fun W d a i K hs A hA => by
 obtain ⟨⟨h0, h1, h2⟩, hk⟩ := hs;have hm := d.len;simp only [maxLen] at hm;unfold Xeo;delta Zc;refine vifd (fun e => ?_) fun e => ?_
 ·rw [show d.xs.length - i.toNat = (d.xs.length - (i.toNat + 1)) + 1 by omega] at hk;have ez : (i + 1).toNat = i.toNat + 1 := by omega
  have ei : ((i.toNat : Nat) : Int) = i := Int.toNat_of_nonneg h0;simp only [Sp.ansD, Sp.ansL, Sp.bx, ei] at hk;have hA' : ∀ b, -1 <= b -> Vif (Sp.ansD d.xs (i.toNat + 1) (d.xs.length - (i.toNat + 1)) b) (K 1 []) (K 0 [.i (Sp.ansL d.xs (i.toNat + 1) (d.xs.length - (i.toNat + 1)) b)]) -> A [.ro _ d, .i b, .i (i + 1)] := fun b hb f => hA _ (by show ((d.xs.length : Int) - (i + 1)).toNat < ((d.xs.length : Int) - i).toNat; omega) ⟨⟨by omega, by omega, hb⟩, by rw [ez]; exact f⟩;clear hA;simp only [Nat.zero_add, Nat.reduceAdd]
  by_cases c1 : (cel d.xs i.toNat 0).int = 1
  ·simp only [c1, if_true] at hk ⊢
   by_cases c2 : 0 <= a
   ·simp only [c2, if_true] at hk
    repeat' (first | omega|intro _|with_reducible first|apply vifd|apply vifn|apply vifq|apply Xd|apply Xc|apply vifb|apply vif|apply nedd|apply ned2|apply ned|apply ar64|apply Xb|exact True.intro|assumption|rfl|apply And.intro)
    all_goals first | exact hk.1 rfl | contradiction
   ·simp only [c2, if_false] at hk
    repeat' (first | omega|intro _|with_reducible first|apply vifd|apply vifn|apply vifq|apply Xd|apply Xc|apply vifb|apply vif|apply nedd|apply ned2|apply ned|apply ar64|apply Xb|exact True.intro|assumption|rfl|apply And.intro)
    all_goals first | contradiction | exact hA' _ (by omega) hk
  ·simp only [c1, if_false] at hk
   repeat' (first | omega|intro _|with_reducible first|apply vifd|apply vifn|apply vifq|apply Xd|apply Xc|apply vifb|apply vif|apply nedd|apply ned2|apply ned|apply ar64|apply Xb|exact True.intro|assumption|rfl|apply And.intro)
   all_goals first | contradiction | exact hA' _ (by omega) hk
 ·rw [show d.xs.length - i.toNat = 0 by omega] at hk;exact hk.2 rfl
def Xrg : LE Try.prog := ⟨49, 4, fun W => @Ytn W Xho, Xqj⟩
def T8 : Tab Try.prog := ⟨[], [Xrg], []⟩
def Xi8 [W : InW] (d : Ro Jc) (Q : DS -> Prop) : Prop :=
 Pre ((0 : Int) <= 0 /\ (0 : Int) <= (↑(d.xs.length) : Int) /\ (-1 : Int) <= (-1 : Int)) (Vif (Sp.ansD d.xs (Int.toNat (0 : Int)) (d.xs.length - Int.toNat (0 : Int)) (-1 : Int)) (Q [[Cl.i (-1 : Int)]]) (Q [[Cl.i (Sp.ansL d.xs (Int.toNat (0 : Int)) (d.xs.length - Int.toNat (0 : Int)) (-1 : Int))]]))
theorem Xo1 (W : InW) (d Q) : Ywt (cxT Try.prog TT T8 1000 50) 1000 49 [.rs _ d] [] 0 (Y02 [(false, [.int .i64])] Q) (fun _ _ _ _ => Stuck 421) = Xi8 d Q := by kernel_rfl
abbrev Xdk : List AT := [.one (.sl Jc)]
theorem Xpp {pre : DS -> Prop} {res : DS -> DS} (hyp_ : ∀ (W : InW) (d : Ro Jc), pre [[.l d.xs]] -> ∀ Q : DS -> Prop, Q (res [[.l d.xs]]) -> Xi8 d Q) : PureOk Try.prog 49 Xdk [(false, [.int .i64])] pre res :=
 PureOk.of' (fun W => @TT W) (fun W => @Xe W) Xa T8 1000 50 fun W d hp =>
  (Xo1 W d (fun o => o = res [[.l d.xs]])).mpr (hyp_ W d hp _ rfl)
abbrev Xde (ds : DS) : DS := match ds with | [[.l d]] => [[.i (Sp.ansOf d)]] | _ => []
theorem okans : PureOk Try.prog 49 Xdk [(false, [.int .i64])] (fun _ => True) Xde :=
 Xpp fun W d hp Q h => by
  unfold Xi8;simp only [show Int.toNat 0 = 0 from rfl, Nat.sub_zero];simp only [Xde, Sp.ansOf] at h;refine ⟨⟨by omega, by omega, by omega⟩, vif (fun e => ?_) fun e => ?_⟩
  ·rw [if_pos e] at h; exact h
  ·rw [if_neg (by simp [e])] at h; exact h
def Xk6 : PC Try.prog := ⟨49, Xdk, [(false, [.int .i64])], fun _ => True, Xde, okans⟩
abbrev Xh3 (ds : DS) : DS := match ds with | [[.l d]] => [[.i (Sp.total d)]] | _ => []
abbrev Xh6 (ds : DS) : Prop := match ds with | [[.l d]] => Sp.Low d | _ => False
namespace Sp
def row (sh : Dt) (i : Nat) : Dt := (cel sh i 0).lst
def unsRow (d : Dt) (i : Int) : Nat -> Nat -> Dt
 | _, 0 => []
 | j, n + 1 => (if bx d j = 2 then [[.i i, .i j]] else []) ++ unsRow d i (j + 1) n
def unsAll (sh : Dt) : Nat -> Nat -> Dt
 | _, 0 => []
 | i, n + 1 => unsRow (row sh i) i 0 (row sh i).length ++ unsAll sh (i + 1) n
def uns (sh : Dt) : Dt := unsAll sh 0 sh.length
def Few (sh : Dt) : Prop := sh.length <= 12 /\ ∀ i, i < sh.length -> (row sh i).length <= 4
theorem unsRow_len (d : Dt) (i : Int) : ∀ n j, (unsRow d i j n).length <= n
 | 0, _ => Nat.le_refl _
 | n + 1, j => by
  have := unsRow_len d i n (j + 1);simp only [unsRow, List.length_append]
  split <;> simp <;> omega
end Sp
def Xex [InW] (e : List Ed) (K : Nat -> List Ed -> Prop) : Prop := match e with
 | [.ro _ sh, .i i, .i j, .l acc] => Pre (0 <= i /\ i < sh.xs.length /\ 0 <= j /\ j <= (Sp.row sh.xs i.toNat).length /\ (acc.length : Int) <= 4 * i + j /\ Sp.Few sh.xs) (K 0 [.ro _ sh, .i i, .l (acc ++ Sp.unsRow (Sp.row sh.xs i.toNat) i j.toNat ((Sp.row sh.xs i.toNat).length - j.toNat))])
 | _ => False
def Xgx : LC where
 len := 36
 T := [(0, .rs Jb), (3, (.row 3)), (4, .int .i64), (5, .int .i64)]
 H := [(3, .arr 44 Ja)]
 W := (rg 12 23)
 outs := [⟨.exit 2, [(0, .rs Jb), (3, (.row 6)), (4, .int .i64)], [(6, .arr 44 Ja)], ([5] ++ rg 12 23)⟩]
 spec := Xex
def Xdw [W : InW] (sh : Ro Jb) (i j : Int) (acc : Dt) (A : List Ed -> Prop) (K : Nat -> List Ed -> Prop) : Prop :=
 Need (decide (0 <= i) && decide (i < (↑(sh.xs.length) : Int))) (Need (decide (i.toNat < sh.xs.length)) (Vif (decide (j < (↑(List.length (cel sh.xs i.toNat (0 : Nat)).lst) : Int))) (Need (decide (0 <= i) && decide (i < (↑(sh.xs.length) : Int))) (Need (decide (i.toNat < sh.xs.length)) (Need (decide (0 <= j) && decide (j < (↑(List.length (cel sh.xs i.toNat (0 : Nat)).lst) : Int))) (Need (decide (j.toNat < List.length (cel sh.xs i.toNat (0 : Nat)).lst)) (Vif (decide ((cel (cel sh.xs i.toNat (0 : Nat)).lst j.toNat (0 : Nat)).int = 2)) (Need (decide ((acc.length + [[Cl.i i, Cl.i j]].length) * 16 <= 140737488355328)) (Ar .i64 (j + 1) fun z => A [.ro [Ty.sl [Ty.int IntKind.i64]] sh, .i i, .i z, .l (acc ++ [[Cl.i i, Cl.i j]])])) (Ar .i64 (j + 1) fun z => A [.ro [Ty.sl [Ty.int IntKind.i64]] sh, .i i, .i z, .l acc])))))) (K 0 [.ro [Ty.sl [Ty.int IntKind.i64]] sh, .i i, .l acc])))
theorem Xld (W : InW) (sh i j acc A K) : Yfc { cxT Try.prog TT T0 1000 50 with fn := 45 } 1000 (Yn7 Try.prog 45 7) (Yd6 36 [(0, .rs _ sh), (3, .rw 3), (4, .si .i64 i), (5, .si .i64 j)] (rg 12 23)) [(3, .arr 44 Ja acc)] (Yuf Xgx A K) = Xdw sh i j acc A K := by kernel_rfl
def Xf2 : Prop := ∀ (W : InW) (body a : Code), (Try.prog.funcs[45]?).bind (·.body) = some body -> a ∈ Yy body -> Yfw a = 7 -> @Ymq W Try.prog a (@Ytn W Xgx)
theorem Xm3 (meas : [InW] -> List Ed -> Nat) (hyp_ : ∀ (W : InW) sh i j acc K, Xex [.ro _ sh, .i i, .i j, .l acc] K -> ∀ A : List Ed -> Prop, (∀ e, meas e < meas [.ro _ sh, .i i, .i j, .l acc] -> Xex e K -> A e) -> Xdw sh i j acc A K) : Xf2 :=
 LE.okOf' (fun W => @TT W) (fun W => @Xe W) Xa T0 1000 50 (by kernel_rfl) Xgx (fun W => @meas W) fun W sh i j acc K hs =>
  (Xld W sh i j acc (fun e => meas e < meas [.ro _ sh, .i i, .i j, .l acc] /\ Xex e K) K).mpr (hyp_ W sh i j acc K hs _ fun e h1 h2 => ⟨h1, h2⟩)
theorem Xpr : Xf2 := Xm3 (fun e => match e with | [.ro _ sh, .i i, .i j, _] => (((Sp.row sh.xs i.toNat).length : Int) - j).toNat | _ => 0) fun W sh i j acc K hs A hA => by
 obtain ⟨⟨h0, h1, h2, h3, h4, h5⟩, hk⟩ := hs;have hm := sh.len;have hrow := h5.2 i.toNat (by omega);have h51 := h5.1;simp only [maxLen] at hm;unfold Xdw;simp only [List.length_cons, List.length_nil, show (cel sh.xs i.toNat 0).lst = Sp.row sh.xs i.toNat from rfl];have ej : ((j.toNat : Nat) : Int) = j := Int.toNat_of_nonneg h2;have ez : (j + 1).toNat = j.toNat + 1 := by omega
 have hlt : j < (Sp.row sh.xs i.toNat).length -> (((Sp.row sh.xs i.toNat).length : Int) - (j + 1)).toNat < (((Sp.row sh.xs i.toNat).length : Int) - j).toNat := by omega
 by_cases hj : j < (Sp.row sh.xs i.toNat).length
 ·rw [show (Sp.row sh.xs i.toNat).length - j.toNat = ((Sp.row sh.xs i.toNat).length - (j.toNat + 1)) + 1 by omega] at hk;simp only [Sp.unsRow, Sp.bx, ej] at hk
  by_cases c : (cel (Sp.row sh.xs i.toNat) j.toNat 0).int = 2
  ·simp only [c, if_true] at hk;rw [<- List.append_assoc] at hk;have hA' := hA [.ro _ sh, .i i, .i (j + 1), .l (acc ++ [[.i i, .i j]])] (hlt hj) ⟨⟨h0, h1, by omega, by omega, by simp; omega, h5⟩, by rw [ez]; exact hk⟩;clear hA hk
   repeat' (first | omega|intro _|with_reducible first|apply vifd|apply vifn|apply vifq|apply Xd|apply Xc|apply vifb|apply vif|apply nedd|apply ned2|apply ned|apply ar64|apply Xb|exact True.intro|assumption|rfl|apply And.intro)
   all_goals first | contradiction | exact hA' | (simp; omega)
  ·simp only [c, if_false, List.nil_append] at hk;have hA' := hA [.ro _ sh, .i i, .i (j + 1), .l acc] (hlt hj) ⟨⟨h0, h1, by omega, by omega, by omega, h5⟩, by rw [ez]; exact hk⟩;clear hA hk
   repeat' (first | omega|intro _|with_reducible first|apply vifd|apply vifn|apply vifq|apply Xd|apply Xc|apply vifb|apply vif|apply nedd|apply ned2|apply ned|apply ar64|apply Xb|exact True.intro|assumption|rfl|apply And.intro)
   all_goals first | contradiction | exact hA'
 ·rw [show (Sp.row sh.xs i.toNat).length - j.toNat = 0 by omega] at hk;simp only [Sp.unsRow, List.append_nil] at hk;clear hA
  repeat' (first | omega|intro _|with_reducible first|apply vifd|apply vifn|apply vifq|apply Xd|apply Xc|apply vifb|apply vif|apply nedd|apply ned2|apply ned|apply ar64|apply Xb|exact True.intro|assumption|rfl|apply And.intro)
  all_goals exact hk
def Xqq : LE Try.prog := ⟨45, 7, fun W => @Ytn W Xgx, Xpr⟩
def T11 : Tab Try.prog := ⟨[], [Xqq], []⟩
def Xew [InW] (e : List Ed) (K : Nat -> List Ed -> Prop) : Prop := match e with
 | [.ro _ sh, .i i, .l acc] => Pre (0 <= i /\ i <= sh.xs.length /\ (acc.length : Int) <= 4 * i /\ Sp.Few sh.xs) (K 0 [.l (acc ++ Sp.unsAll sh.xs i.toNat (sh.xs.length - i.toNat))])
 | _ => False
def Xgw : LC where
 len := 36
 T := [(0, .rs Jb), (3, (.row 3)), (4, .int .i64)]
 H := [(3, .arr 44 Ja)]
 W := (rg 5 30)
 outs := [⟨.exit 0, [(3, (.row 6))], [(6, .arr 44 Ja)], ([0] ++ rg 4 31)⟩]
 spec := Xew
def Xdv [W : InW] (sh : Ro Jb) (i : Int) (acc : Dt) (A : List Ed -> Prop) (K : Nat -> List Ed -> Prop) : Prop :=
 Vif (decide (i < (↑(sh.xs.length) : Int))) (Pre (0 <= i /\ i < (↑(sh.xs.length) : Int) /\ Zb <= 0 /\ Zb <= (↑(List.length (Sp.row sh.xs i.toNat)) : Int) /\ (↑(acc.length) : Int) <= 4 * i + 0 /\ Sp.Few sh.xs) (Ar .i64 (i + 1) fun z => A [.ro [Ty.sl [Ty.int IntKind.i64]] sh, .i z, .l (acc ++ Sp.unsRow (Sp.row sh.xs i.toNat) i (Int.toNat Zb) (List.length (Sp.row sh.xs i.toNat) - Int.toNat Zb))])) (K 0 [.l acc])
theorem Xlc (W : InW) (sh i acc A K) : Yfc { cxT Try.prog TT T11 1000 50 with fn := 45 } 1000 (Yn7 Try.prog 45 4) (Yd6 36 [(0, .rs _ sh), (3, .rw 3), (4, .si .i64 i)] (rg 5 30)) [(3, .arr 44 Ja acc)] (Yuf Xgw A K) = Xdv sh i acc A K := by kernel_rfl
def Xf1 : Prop := ∀ (W : InW) (body a : Code), (Try.prog.funcs[45]?).bind (·.body) = some body -> a ∈ Yy body -> Yfw a = 4 -> @Ymq W Try.prog a (@Ytn W Xgw)
theorem Xm2 (meas : [InW] -> List Ed -> Nat) (hyp_ : ∀ (W : InW) sh i acc K, Xew [.ro _ sh, .i i, .l acc] K -> ∀ A : List Ed -> Prop, (∀ e, meas e < meas [.ro _ sh, .i i, .l acc] -> Xew e K -> A e) -> Xdv sh i acc A K) : Xf1 :=
 LE.okOf' (fun W => @TT W) (fun W => @Xe W) Xa T11 1000 50 (by kernel_rfl) Xgw (fun W => @meas W) fun W sh i acc K hs =>
  (Xlc W sh i acc (fun e => meas e < meas [.ro _ sh, .i i, .l acc] /\ Xew e K) K).mpr (hyp_ W sh i acc K hs _ fun e h1 h2 => ⟨h1, h2⟩)
theorem Xpq : Xf1 := Xm2 (fun e => match e with | [.ro _ sh, .i i, _] => ((sh.xs.length : Int) - i).toNat | _ => 0) fun W sh i acc K hs A hA => by
 obtain ⟨⟨h0, h1, h4, h5⟩, hk⟩ := hs;have hm := sh.len;have h51 := h5.1;simp only [maxLen] at hm;unfold Xdv;delta Zb;simp only [show Int.toNat 0 = 0 from rfl, Nat.sub_zero, show (cel sh.xs i.toNat 0).lst = Sp.row sh.xs i.toNat from rfl];have ei : ((i.toNat : Nat) : Int) = i := Int.toNat_of_nonneg h0;have ez : (i + 1).toNat = i.toNat + 1 := by omega
 by_cases hj : i < sh.xs.length
 ·rw [show sh.xs.length - i.toNat = (sh.xs.length - (i.toNat + 1)) + 1 by omega] at hk;simp only [Sp.unsAll, ei] at hk;rw [<- List.append_assoc] at hk;have hrow := h5.2 i.toNat (by omega);have hl := Sp.unsRow_len (Sp.row sh.xs i.toNat) i (Sp.row sh.xs i.toNat).length 0;have hA' := hA [.ro _ sh, .i (i + 1), .l (acc ++ Sp.unsRow (Sp.row sh.xs i.toNat) i 0 (Sp.row sh.xs i.toNat).length)] (show ((sh.xs.length : Int) - (i + 1)).toNat < ((sh.xs.length : Int) - i).toNat by omega) ⟨⟨by omega, by omega, by simp; omega, h5⟩, by rw [ez]; exact hk⟩;clear hA hk
  repeat' (first | (with_reducible refine Xb ⟨by omega, by omega, by omega, by omega, by omega, h5⟩ ?_) | omega|intro _|with_reducible first|apply vifd|apply vifn|apply vifq|apply Xd|apply Xc|apply vifb|apply vif|apply nedd|apply ned2|apply ned|apply ar64|apply Xb|exact True.intro|assumption|rfl|apply And.intro)
  all_goals first | exact hA' | skip
 ·rw [show sh.xs.length - i.toNat = 0 by omega] at hk;simp only [Sp.unsAll, List.append_nil] at hk;clear hA
  repeat' (first | omega|intro _|with_reducible first|apply vifd|apply vifn|apply vifq|apply Xd|apply Xc|apply vifb|apply vif|apply nedd|apply ned2|apply ned|apply ar64|apply Xb|exact True.intro|assumption|rfl|apply And.intro)
  all_goals exact hk
def Xqp : LE Try.prog := ⟨45, 4, fun W => @Ytn W Xgw, Xpq⟩
def T12 : Tab Try.prog := ⟨[], [Xqp], []⟩
def Xi5 [W : InW] (sh : Ro Jb) (Q : DS -> Prop) : Prop :=
 Pre ((0 : Int) <= 0 /\ (0 : Int) <= (↑(sh.xs.length) : Int) /\ (↑(0 : Nat) : Int) <= 4 * 0 /\ Sp.Few sh.xs) (Q [[Cl.l (Sp.unsAll sh.xs (Int.toNat (0 : Int)) (sh.xs.length - Int.toNat (0 : Int)))]])
theorem Xoy (W : InW) (sh Q) : Ywt (cxT Try.prog TT T12 1000 50) 1000 45 [.rs _ sh] [] 0 (Y02 [(false, [.row 44 Ja])] Q) (fun _ _ _ _ => Stuck 421) = Xi5 sh Q := by kernel_rfl
abbrev Xdh : List AT := [.one (.sl Jb)]
theorem Xpm {pre : DS -> Prop} {res : DS -> DS} (hyp_ : ∀ (W : InW) (sh : Ro Jb), pre [[.l sh.xs]] -> ∀ Q : DS -> Prop, Q (res [[.l sh.xs]]) -> Xi5 sh Q) : PureOk Try.prog 45 Xdh [(false, [.row 44 Ja])] pre res :=
 PureOk.of' (fun W => @TT W) (fun W => @Xe W) Xa T12 1000 50 fun W sh hp =>
  (Xoy W sh (fun o => o = res [[.l sh.xs]])).mpr (hyp_ W sh hp _ rfl)
abbrev Xc4 (ds : DS) : DS := match ds with | [[.l sh]] => [[.l (Sp.uns sh)]] | _ => []
abbrev Xh5 (ds : DS) : Prop := match ds with | [[.l sh]] => Sp.Few sh | _ => False
theorem okuns : PureOk Try.prog 45 Xdh [(false, [.row 44 Ja])] Xh5 Xc4 :=
 Xpm fun W sh hp Q h => by
  have hp : Sp.Few sh.xs := hp;unfold Xi5;simp only [show Int.toNat 0 = 0 from rfl, Nat.sub_zero, List.nil_append];simp only [Xc4, Sp.uns] at h;exact ⟨⟨by omega, by omega, by simp, hp⟩, h⟩
def Xfz : PC Try.prog := ⟨45, Xdh, [(false, [.row 44 Ja])], Xh5, Xc4, okuns⟩
namespace Sp
structure KeyOk (qs ps : Dt) (all : Int) : Prop where
 n1 : 1 <= qs.length
 n2 : qs.length <= 12
 p1 : 1 <= ps.length
 p2 : ps.length <= 4
 part : ∀ i, i < qs.length -> 0 <= qPart qs i /\ qPart qs i < ps.length
 boxes : ∀ i, i < qs.length -> 2 <= qBoxes qs i /\ qBoxes qs i <= 4
 right : ∀ i, i < qs.length -> 0 <= qRight qs i /\ qRight qs i < qBoxes qs i
 pts : ∀ i, i < qs.length -> 0 <= qPts qs i /\ qPts qs i <= 20
 minus : ∀ i, i < qs.length -> 0 <= qMin qs i /\ qMin qs i <= 20
 need : ∀ i, i < ps.length -> -240 <= (cel ps i 0).int /\ (cel ps i 0).int <= 240
 all_ : -240 <= all /\ all <= 240
theorem qErr_ok {np : Nat} {qs : Dt} {i : Nat} (h : qErr np qs i = 0) : (0 <= qPart qs i /\ qPart qs i < np) /\ (2 <= qBoxes qs i /\ qBoxes qs i <= 4) /\ (0 <= qRight qs i /\ qRight qs i < qBoxes qs i) /\ (0 <= qPts qs i /\ qPts qs i <= 20) /\ (0 <= qMin qs i /\ qMin qs i <= 20) := by
 unfold qErr at h
 split at h
 ·rename_i h1
  split at h
  ·rename_i h2
   split at h
   ·rename_i h3
    split at h
    ·rename_i h4;rw [Bool.and_eq_true] at h4;have a := inr_iff.1 h1;have b := inr_iff.1 h2;have c := inr_iff.1 h3;have d := inr_iff.1 h4.1;have e := inr_iff.1 h4.2;omega
    ·omega
   ·omega
  ·omega
 ·omega
theorem qErr_of {np : Nat} {qs : Dt} {i : Nat} (a : 0 <= qPart qs i /\ qPart qs i < np) (b : 2 <= qBoxes qs i /\ qBoxes qs i <= 4) (c : 0 <= qRight qs i /\ qRight qs i < qBoxes qs i) (d : 0 <= qPts qs i /\ qPts qs i <= 20) (e : 0 <= qMin qs i /\ qMin qs i <= 20) : qErr np qs i = 0 := by
 unfold qErr;rw [if_pos (inr_iff.2 (by omega)), if_pos (inr_iff.2 (by omega)), if_pos (inr_iff.2 (by omega)), if_pos (by rw [Bool.and_eq_true]; exact ⟨inr_iff.2 d, inr_iff.2 e⟩)]
theorem chkE_iff {qs ps : Dt} {all : Int} : chkE qs ps all = 0 ↔ KeyOk qs ps all := by
 constructor
 ·intro h;unfold chkE chk at h
  split at h
  ·rename_i h1;rw [Bool.and_eq_true] at h1;have a := inr_iff.1 h1.1;have b := inr_iff.1 h1.2
   split at h
   ·rename_i h2;exact absurd h (hasE_ix h2).2.2
   ·rename_i h2
    split at h
    ·rename_i h3;exact absurd h (hasE_ix h3).2.2
    ·rename_i h3
     split at h
     ·rename_i h4;have hq := fun i (hi : i < qs.length) => qErr_ok (hasE_no (by simpa using h2) i (by omega) (by omega));have hp := fun i (hi : i < ps.length) => hasE_no (by simpa using h3) i (by omega) (by omega);refine ⟨by omega, by omega, by omega, by omega, fun i hi => (hq i hi).1, fun i hi => (hq i hi).2.1, fun i hi => (hq i hi).2.2.1, fun i hi => (hq i hi).2.2.2.1, fun i hi => (hq i hi).2.2.2.2, fun i hi => ?_, inr_iff.1 h4⟩;have := hp i hi;unfold pErr at this
      split at this
      ·rename_i h5; exact inr_iff.1 h5
      ·omega
     ·simp at h
  ·simp at h
 ·intro h;have h1 := h.n1;have h2 := h.n2;have h3 := h.p1;have h4 := h.p2;unfold chkE chk;rw [if_pos (by rw [Bool.and_eq_true]; exact ⟨inr_iff.2 (by omega), inr_iff.2 (by omega)⟩), if_neg, if_neg, if_pos (inr_iff.2 h.all_)]
  ·rw [hasE_of fun i _ hi => by unfold pErr; rw [if_pos (inr_iff.2 (h.need i (by omega)))]]; simp
  ·rw [hasE_of fun i _ hi => qErr_of (h.part i (by omega)) (h.boxes i (by omega)) (h.right i (by omega)) (h.pts i (by omega)) (h.minus i (by omega))]; simp
def rowE (qs sh : Dt) (i : Nat) : Int := if ((row sh i).length : Int) = qBoxes qs i then (if out 0 2 (row sh i) then 7 else 0) else 3
def shE (qs sh : Dt) : Int := if (sh.length : Int) = qs.length then (if hasE (rowE qs sh) 0 sh.length then rowE qs sh (idxE (rowE qs sh) 0 sh.length) else if 7 < (uns sh).length then 3 else 0) else 3
def askE (qs ps : Dt) (all : Int) (sh : Dt) : Int := if chkE qs ps all = 0 then shE qs sh else chkE qs ps all
theorem outs_ff {lo hi : Int} {xs : Dt} : ∀ {n i : Nat}, outs lo hi xs i n = false -> ∀ k, i <= k -> k < i + n -> lo <= (cel xs k 0).int /\ (cel xs k 0).int <= hi
 | 0, _, _, k, h1, h2 => by omega
 | n + 1, i, h, k, h1, h2 => by
  simp only [outs, Bool.or_eq_false_iff, Bool.not_eq_false'] at h;rcases Nat.eq_or_lt_of_le h1 with e | e
  ·rw [<- e]; exact inr_iff.1 h.1
  ·exact outs_ff h.2 k e (by omega)
theorem outs_of {lo hi : Int} {xs : Dt} : ∀ {n i : Nat}, (∀ k, i <= k -> k < i + n -> lo <= (cel xs k 0).int /\ (cel xs k 0).int <= hi) -> outs lo hi xs i n = false
 | 0, _, _ => rfl
 | n + 1, i, h => by
  simp only [outs, Bool.or_eq_false_iff, Bool.not_eq_false'];exact ⟨inr_iff.2 (h i (by omega) (by omega)), outs_of fun k h1 h2 => h k (by omega) (by omega)⟩
structure ShapeOk (qs sh : Dt) : Prop where
 n : sh.length = qs.length
 row_ : ∀ i, i < qs.length -> ((row sh i).length : Int) = qBoxes qs i
 val : ∀ i j, i < qs.length -> j < (row sh i).length -> 0 <= bx (row sh i) j /\ bx (row sh i) j <= 2
structure ShOk (qs sh : Dt) : Prop extends ShapeOk qs sh where
 seven : (uns sh).length <= 7
theorem rowE_ok {qs sh : Dt} {i : Nat} (h : rowE qs sh i = 0) : ((row sh i).length : Int) = qBoxes qs i /\ ∀ j, j < (row sh i).length -> 0 <= bx (row sh i) j /\ bx (row sh i) j <= 2 := by
 unfold rowE at h
 split at h
 ·rename_i h1
  split at h
  ·omega
  ·rename_i h2;exact ⟨h1, fun j hj => outs_ff (by simpa [out] using h2) j (by omega) (by omega)⟩
 ·omega
theorem shE_iff {qs sh : Dt} : shE qs sh = 0 ↔ ShOk qs sh := by
 unfold shE;constructor
 ·intro h
  split at h
  ·rename_i h1
   split at h
   ·rename_i h2; exact absurd h (hasE_ix h2).2.2
   ·rename_i h2
    split at h
    ·omega
    ·have hr := fun i (hi : i < sh.length) => rowE_ok (hasE_no (by simpa using h2) i (by omega) (by omega));exact ⟨⟨by omega, fun i hi => (hr i (by omega)).1, fun i j hi => (hr i (by omega)).2 j⟩, by omega⟩
  ·omega
 ·intro h;have h1 := h.n;have h2 := h.seven;rw [if_pos (by omega), if_neg, if_neg (by omega)];rw [hasE_of fun i _ hi => by
   unfold rowE;rw [if_pos (h.row_ i (by omega)), if_neg];unfold out;rw [outs_of fun k _ hk => h.val i k (by omega) (by omega)];simp]
  simp
theorem ShapeOk.few {qs ps sh : Dt} {all : Int} (hk : KeyOk qs ps all) (h : ShapeOk qs sh) : Few sh := by
 have h1 := h.n;have h2 := hk.n2;refine ⟨by omega, fun i hi => ?_⟩;have h3 := h.row_ i (by omega);have h4 := hk.boxes i (by omega);omega
end Sp
def Xe3 [InW] (e : List Ed) (K : Nat -> List Ed -> Prop) : Prop := match e with
 | [.ro _ sh, .i i, .i j] => Pre (0 <= i /\ i < sh.xs.length /\ 0 <= j /\ j <= (Sp.row sh.xs i.toNat).length) (Vif (Sp.outs 0 2 (Sp.row sh.xs i.toNat) j.toNat ((Sp.row sh.xs i.toNat).length - j.toNat)) (K 1 []) (K 0 [.ro _ sh, .i i]))
 | _ => False
def Xg3 : LC where
 len := 53
 T := [(1, .rs Jb), (5, .int .i64), (6, .int .i64)]
 H := []
 W := ([4] ++ rg 31 18)
 outs := [⟨.exit 2, [(1, .rs Jb), (5, .int .i64)], [], ([4, 6] ++ rg 31 18)⟩, ⟨.ret, [(4, (.lit (.int .i64 7)))], [], ([1, 5, 6] ++ rg 31 18)⟩]
 spec := Xe3
def Xd2 [W : InW] (sh : Ro Jb) (i j : Int) (A : List Ed -> Prop) (K : Nat -> List Ed -> Prop) : Prop :=
 Need (decide (0 <= i) && decide (i < (↑(sh.xs.length) : Int))) (Need (decide (i.toNat < sh.xs.length)) (Vif (decide (j < (↑(List.length (cel sh.xs i.toNat (0 : Nat)).lst) : Int))) (Need (decide (0 <= i) && decide (i < (↑(sh.xs.length) : Int))) (Need (decide (i.toNat < sh.xs.length)) (Need (decide (0 <= j) && decide (j < (↑(List.length (cel sh.xs i.toNat (0 : Nat)).lst) : Int))) (Need (decide (j.toNat < List.length (cel sh.xs i.toNat (0 : Nat)).lst)) (Pre True (Vif (!Sp.inr (cel (cel sh.xs i.toNat (0 : Nat)).lst j.toNat (0 : Nat)).int (0 : Int) (2 : Int)) (K (0+1) []) (Ar .i64 (j + 1) fun z => A [.ro [Ty.sl [Ty.int IntKind.i64]] sh, .i i, .i z]))))))) (K 0 [.ro [Ty.sl [Ty.int IntKind.i64]] sh, .i i])))
theorem Xlj (W : InW) (sh i j A K) : Yfc { cxT Try.prog TT T2 1000 50 with fn := 50 } 1000 (Yn7 Try.prog 50 10) (Yd6 53 [(1, .rs _ sh), (5, .si .i64 i), (6, .si .i64 j)] ([4] ++ rg 31 18)) [] (Yuf Xg3 A K) = Xd2 sh i j A K := by kernel_rfl
def Xf8 : Prop := ∀ (W : InW) (body a : Code), (Try.prog.funcs[50]?).bind (·.body) = some body -> a ∈ Yy body -> Yfw a = 10 -> @Ymq W Try.prog a (@Ytn W Xg3)
theorem Xm9 (meas : [InW] -> List Ed -> Nat) (hyp_ : ∀ (W : InW) sh i j K, Xe3 [.ro _ sh, .i i, .i j] K -> ∀ A : List Ed -> Prop, (∀ e, meas e < meas [.ro _ sh, .i i, .i j] -> Xe3 e K -> A e) -> Xd2 sh i j A K) : Xf8 :=
 LE.okOf' (fun W => @TT W) (fun W => @Xe W) Xa T2 1000 50 (by kernel_rfl) Xg3 (fun W => @meas W) fun W sh i j K hs =>
  (Xlj W sh i j (fun e => meas e < meas [.ro _ sh, .i i, .i j] /\ Xe3 e K) K).mpr (hyp_ W sh i j K hs _ fun e h1 h2 => ⟨h1, h2⟩)
theorem Xpx : Xf8 := Xm9 (fun e => match e with | [.ro _ sh, .i i, .i j] => (((Sp.row sh.xs i.toNat).length : Int) - j).toNat | _ => 0) fun W sh i j K hs A hA => by
 obtain ⟨⟨h0, h1, h2, h3⟩, hk⟩ := hs;have hm := sh.len;have hr := (sh.sub [.int .i64] i.toNat 0 (sh.ok i.toNat 0)).len;simp only [maxLen] at hm;have hr : (Sp.row sh.xs i.toNat).length <= 9223372036854775807 := hr;unfold Xd2;simp only [show (cel sh.xs i.toNat 0).lst = Sp.row sh.xs i.toNat from rfl];have ez : (j + 1).toNat = j.toNat + 1 := by omega
 have hlt : j < (Sp.row sh.xs i.toNat).length -> (((Sp.row sh.xs i.toNat).length : Int) - (j + 1)).toNat < (((Sp.row sh.xs i.toNat).length : Int) - j).toNat := by omega
 by_cases hj : j < (Sp.row sh.xs i.toNat).length
 ·rw [show (Sp.row sh.xs i.toNat).length - j.toNat = ((Sp.row sh.xs i.toNat).length - (j.toNat + 1)) + 1 by omega] at hk;simp only [Sp.outs] at hk
  by_cases c : Sp.inr (cel (Sp.row sh.xs i.toNat) j.toNat 0).int 0 2 = true
  ·simp only [c, Bool.not_true, Bool.false_or] at hk ⊢;have hA' := hA [.ro _ sh, .i i, .i (j + 1)] (hlt hj) ⟨⟨h0, h1, by omega, by omega⟩, by rw [ez]; exact hk⟩;clear hA hk
   repeat' (first | omega|intro _|with_reducible first|apply vifd|apply vifn|apply vifq|apply Xd|apply Xc|apply vifb|apply vif|apply nedd|apply ned2|apply ned|apply ar64|apply Xb|exact True.intro|assumption|rfl|apply And.intro)
   all_goals first | contradiction | exact hA'
  ·have c : Sp.inr (cel (Sp.row sh.xs i.toNat) j.toNat 0).int 0 2 = false := by simpa using c
   simp only [c, Bool.not_false, Bool.true_or] at hk ⊢;clear hA
   repeat' (first | omega|intro _|with_reducible first|apply vifd|apply vifn|apply vifq|apply Xd|apply Xc|apply vifb|apply vif|apply nedd|apply ned2|apply ned|apply ar64|apply Xb|exact True.intro|assumption|rfl|apply And.intro)
   all_goals first | contradiction | exact hk.1 rfl
 ·rw [show (Sp.row sh.xs i.toNat).length - j.toNat = 0 by omega] at hk;clear hA
  repeat' (first | omega|intro _|with_reducible first|apply vifd|apply vifn|apply vifq|apply Xd|apply Xc|apply vifb|apply vif|apply nedd|apply ned2|apply ned|apply ar64|apply Xb|exact True.intro|assumption|rfl|apply And.intro)
  all_goals exact hk.2 rfl
def Xqw : LE Try.prog := ⟨50, 10, fun W => @Ytn W Xg3, Xpx⟩
def T13 : Tab Try.prog := ⟨[Xj2], [Xqw], []⟩
def Xe2 [InW] (e : List Ed) (K : Nat -> List Ed -> Prop) : Prop := match e with
 | [.ro _ sh, .i i, .ro _ qs, .ro _ ps, .i all] => Pre (0 <= i /\ i <= sh.xs.length /\ sh.xs.length = qs.xs.length) (Vif (Sp.hasE (Sp.rowE qs.xs sh.xs) i.toNat (sh.xs.length - i.toNat)) (K 1 [.i (Sp.rowE qs.xs sh.xs (Sp.idxE (Sp.rowE qs.xs sh.xs) i.toNat (sh.xs.length - i.toNat)))]) (K 0 [.ro _ sh]))
 | _ => False
def Xg2 : LC where
 len := 53
 T := [(1, .rs Jb), (2, (.ptr 1 0)), (5, .int .i64)]
 H := [(1, .blk 25 [.rs Iv5, .rs Jc, .int .i64])]
 W := ([4, 6] ++ rg 13 36)
 outs := [⟨.exit 0, [(1, .rs Jb)], [], ([2, 4, 5, 6] ++ rg 13 36)⟩, ⟨.ret, [(4, .int .i64)], [], ([1, 2, 5, 6] ++ rg 13 36)⟩]
 spec := Xe2
def Xd1 [W : InW] (sh : Ro Jb) (i : Int) (qs : Ro Iv5) (ps : Ro Jc) (all : Int) (A : List Ed -> Prop) (K : Nat -> List Ed -> Prop) : Prop :=
 Vif (decide (i < (↑(sh.xs.length) : Int))) (Need (decide (0 <= i) && decide (i < (↑(sh.xs.length) : Int))) (Need (decide (i.toNat < sh.xs.length)) (Need (decide (0 <= i) && decide (i < (↑(qs.xs.length) : Int))) (Need (decide (i.toNat < qs.xs.length)) (Vif (!decide ((↑(List.length (cel sh.xs i.toNat (0 : Nat)).lst) : Int) = (cel qs.xs i.toNat (0+1)).int)) (K (0+1) [.i (3 : Int)]) (Pre (0 <= i /\ i < (↑(sh.xs.length) : Int) /\ Zb <= 0 /\ Zb <= (↑(List.length (Sp.row sh.xs i.toNat)) : Int)) (Vif (Sp.outs Zb (2 : Int) (Sp.row sh.xs i.toNat) (Int.toNat Zb) (List.length (Sp.row sh.xs i.toNat) - Int.toNat Zb)) (K (0+1) [.i (7 : Int)]) (Ar .i64 (i + 1) fun z => A [.ro [Ty.sl [Ty.int IntKind.i64]] sh, .i z, .ro _ qs, .ro _ ps, .i all])))))))) (K 0 [.ro [Ty.sl [Ty.int IntKind.i64]] sh])
theorem Xli (W : InW) (sh i qs ps all A K) : Yfc { cxT Try.prog TT T13 1000 50 with fn := 50 } 1000 (Yn7 Try.prog 50 5) (Yd6 53 [(1, .rs _ sh), (2, .ptr 1 0), (5, .si .i64 i)] ([4, 6] ++ rg 13 36)) [(1, .blk 25 [.rs _ qs, .rs _ ps, .si .i64 all])] (Yuf Xg2 A K) = Xd1 sh i qs ps all A K := by kernel_rfl
def Xf7 : Prop := ∀ (W : InW) (body a : Code), (Try.prog.funcs[50]?).bind (·.body) = some body -> a ∈ Yy body -> Yfw a = 5 -> @Ymq W Try.prog a (@Ytn W Xg2)
theorem Xm8 (meas : [InW] -> List Ed -> Nat) (hyp_ : ∀ (W : InW) sh i qs ps all K, Xe2 [.ro _ sh, .i i, .ro _ qs, .ro _ ps, .i all] K -> ∀ A : List Ed -> Prop, (∀ e, meas e < meas [.ro _ sh, .i i, .ro _ qs, .ro _ ps, .i all] -> Xe2 e K -> A e) -> Xd1 sh i qs ps all A K) : Xf7 :=
 LE.okOf' (fun W => @TT W) (fun W => @Xe W) Xa T13 1000 50 (by kernel_rfl) Xg2 (fun W => @meas W) fun W sh i qs ps all K hs =>
  (Xli W sh i qs ps all (fun e => meas e < meas [.ro _ sh, .i i, .ro _ qs, .ro _ ps, .i all] /\ Xe2 e K) K).mpr (hyp_ W sh i qs ps all K hs _ fun e h1 h2 => ⟨h1, h2⟩)
theorem Xpw : Xf7 := Xm8 (fun e => match e with | [.ro _ sh, .i i, _, _, _] => ((sh.xs.length : Int) - i).toNat | _ => 0) fun W sh i qs ps all K hs A hA => by
 obtain ⟨⟨h0, h1, h2⟩, hk⟩ := hs;have hm := sh.len;simp only [maxLen] at hm;unfold Xd1;delta Zb;simp only [show Int.toNat 0 = 0 from rfl, Nat.sub_zero, show (cel sh.xs i.toNat 0).lst = Sp.row sh.xs i.toNat from rfl, Nat.zero_add];have ez : (i + 1).toNat = i.toNat + 1 := by omega
 by_cases hi : i < sh.xs.length
 ·rw [show sh.xs.length - i.toNat = (sh.xs.length - (i.toNat + 1)) + 1 by omega] at hk;obtain ⟨g1, g2⟩ := Xc2 (K1 := fun _ e => K 1 [.i e]) hk;have hA' : Sp.rowE qs.xs sh.xs i.toNat = 0 -> A [.ro _ sh, .i (i + 1), .ro _ qs, .ro _ ps, .i all] := fun f => hA _ (by show ((sh.xs.length : Int) - (i + 1)).toNat < ((sh.xs.length : Int) - i).toNat; omega) ⟨⟨by omega, by omega, h2⟩, by rw [ez]; exact g2 f⟩;clear hA hk g2;unfold Sp.rowE Sp.qBoxes Sp.out at hA' g1
  by_cases c : ((Sp.row sh.xs i.toNat).length : Int) = (cel qs.xs i.toNat 1).int
  ·rw [if_pos c] at hA' g1
   by_cases c2 : Sp.outs 0 2 (Sp.row sh.xs i.toNat) 0 (Sp.row sh.xs i.toNat).length = true
   ·rw [if_pos c2] at hA' g1;have g1 := g1 (by decide);simp only [c, c2]
    repeat' (first | omega|intro _|with_reducible first|apply vifd|apply vifn|apply vifq|apply Xd|apply Xc|apply vifb|apply vif|apply nedd|apply ned2|apply ned|apply ar64|apply Xb|exact True.intro|assumption|rfl|apply And.intro)
    all_goals first | contradiction | exact g1 | (simp at *; done) | skip
   ·rw [if_neg c2] at hA' g1;have c2 : Sp.outs 0 2 (Sp.row sh.xs i.toNat) 0 (Sp.row sh.xs i.toNat).length = false := by simpa using c2
    have hA' := hA' rfl;simp only [c, c2]
    repeat' (first | omega|intro _|with_reducible first|apply vifd|apply vifn|apply vifq|apply Xd|apply Xc|apply vifb|apply vif|apply nedd|apply ned2|apply ned|apply ar64|apply Xb|exact True.intro|assumption|rfl|apply And.intro)
    all_goals first | contradiction | exact hA' | (simp at *; done) | skip
  ·rw [if_neg c] at hA' g1;have g1 := g1 (by decide)
   repeat' (first | omega|intro _|with_reducible first|apply vifd|apply vifn|apply vifq|apply Xd|apply Xc|apply vifb|apply vif|apply nedd|apply ned2|apply ned|apply ar64|apply Xb|exact True.intro|assumption|rfl|apply And.intro)
   all_goals first | contradiction | exact g1 | skip
 ·rw [show sh.xs.length - i.toNat = 0 by omega] at hk;clear hA
  repeat' (first | omega|intro _|with_reducible first|apply vifd|apply vifn|apply vifq|apply Xd|apply Xc|apply vifb|apply vif|apply nedd|apply ned2|apply ned|apply ar64|apply Xb|exact True.intro|assumption|rfl|apply And.intro)
  all_goals exact hk.2 rfl
def Xqv : LE Try.prog := ⟨50, 5, fun W => @Ytn W Xg2, Xpw⟩
def T14 : Tab Try.prog := ⟨[Xfz], [Xqv], []⟩
def Xch [W : InW] (kQ : Ro Iv5) (kP : Ro Jc) (kA : Int) (sh : Ro Jb) (Q : DS -> Prop) : Prop :=
 Vif (!decide ((↑(sh.xs.length) : Int) = (↑(kQ.xs.length) : Int))) (Q [[Cl.i 3]]) (Pre (Zb <= 0 /\ Zb <= (↑(sh.xs.length) : Int) /\ sh.xs.length = kQ.xs.length) (Vif (Sp.hasE (Sp.rowE kQ.xs sh.xs) (Int.toNat Zb) (sh.xs.length - Int.toNat Zb)) (Q [[Cl.i (Sp.rowE kQ.xs sh.xs (Sp.idxE (Sp.rowE kQ.xs sh.xs) (Int.toNat Zb) (sh.xs.length - Int.toNat Zb)))]]) (Pre (Sp.Few sh.xs) (Vif (decide ((7 : Int) < (↑(List.length (Sp.uns sh.xs)) : Int))) (Q [[Cl.i 3]]) (Q [[Cl.i 0]])))))
theorem Xjn (W : InW) (kQ kP kA sh Q) : Ywt (cxT Try.prog TT T14 1000 50) 1000 50 [.agg [.rs _ kQ, .rs _ kP, .si .i64 kA], .rs _ sh] [] 0 (Y02 [(false, [.int .i64])] Q) (fun _ _ _ _ => Stuck 421) = Xch kQ kP kA sh Q := by kernel_rfl
abbrev Xbn : List AT := [.agg [.sl Iv5, .sl Jc, .int .i64], .one (.sl Jb)]
theorem Xkh {pre : DS -> Prop} {res : DS -> DS} (hyp_ : ∀ (W : InW) (kQ : Ro Iv5) (kP : Ro Jc) (kA : Int) (sh : Ro Jb), pre [[.l kQ.xs, .l kP.xs, .i kA], [.l sh.xs]] -> ∀ Q : DS -> Prop, Q (res [[.l kQ.xs, .l kP.xs, .i kA], [.l sh.xs]]) -> Xch kQ kP kA sh Q) : PureOk Try.prog 50 Xbn [(false, [.int .i64])] pre res :=
 PureOk.of' (fun W => @TT W) (fun W => @Xe W) Xa T14 1000 50 fun W kQ kP kA sh hp =>
  (Xjn W kQ kP kA sh (fun o => o = res [[.l kQ.xs, .l kP.xs, .i kA], [.l sh.xs]])).mpr (hyp_ W kQ kP kA sh hp _ rfl)
abbrev Xbd (ds : DS) : DS := match ds with | [[.l qs, .l ps, .i all], [.l sh]] => [[.i (Sp.shE qs sh)]] | _ => []
abbrev Xh8 (ds : DS) : Prop := match ds with | [.l qs, .l ps, .i all] :: _ => Sp.KeyOk qs ps all | _ => False
theorem Xm0 : PureOk Try.prog 50 Xbn [(false, [.int .i64])] Xh8 Xbd :=
 Xkh fun W qs ps all sh hp Q h => by
  have hp : Sp.KeyOk qs.xs ps.xs all := hp;unfold Xch;delta Zb;simp only [show Int.toNat 0 = 0 from rfl, Nat.sub_zero];simp only [Xbd, Sp.shE] at h;refine vifn (fun e => ?_) fun e => ?_
  ·rw [if_neg e] at h; exact h
  ·rw [if_pos e] at h;refine ⟨⟨by omega, by omega, by omega⟩, vif (fun e1 => ?_) fun e1 => ?_⟩
   ·rw [if_pos e1] at h; exact h
   ·rw [if_neg (by simp [e1])] at h;have hf : Sp.Few sh.xs := Sp.ShapeOk.few hp ⟨by omega, fun i hi => (Sp.rowE_ok (Sp.hasE_no e1 i (by omega) (by omega))).1, fun i j hi => (Sp.rowE_ok (Sp.hasE_no e1 i (by omega) (by omega))).2 j⟩;refine ⟨hf, vifd (fun e2 => ?_) fun e2 => ?_⟩
    ·rw [if_pos (by omega)] at h; exact h
    ·rw [if_neg (by omega)] at h; exact h
def Xj0 : PC Try.prog := ⟨50, Xbn, [(false, [.int .i64])], Xh8, Xbd, Xm0⟩
namespace Sp
def ptsQ (qs sh : Dt) (i : Nat) : Int := ptsV (qRight qs i) (qPts qs i) (qMin qs i) (row sh i)
def addG (qs sh : Dt) : Nat -> Nat -> Dt -> Dt
 | _, 0, l => l
 | i, n + 1, l => addG qs sh (i + 1) n (l.set (qPart qs i).toNat [.i (num l (qPart qs i).toNat + ptsQ qs sh i)])
def mk (qs ps sh : Dt) : Dt := addG qs sh 0 sh.length (List.replicate ps.length [.i 0])
def partsOk (l ps : Dt) : Nat -> Nat -> Bool := allF fun p => decide (num ps p <= num l p)
def passOf (all : Int) (ps l : Dt) : Bool := decide (all <= total l) && partsOk l ps 0 l.length
theorem num_set {l : Dt} {p : Nat} {v : Int} (hp : p < l.length) (q : Nat) : num (l.set p [.i v]) q = if p = q then v else num l q := by
 unfold num cel
 by_cases e : p = q
 ·subst e; simp [List.getD_eq_getElem?_getD, List.getElem?_set_self hp]
 ·simp [List.getD_eq_getElem?_getD, List.getElem?_set_ne e, e]
theorem num_rep (n p : Nat) : num (List.replicate n [.i 0]) p = 0 := by
 unfold num cel;simp only [List.getD_eq_getElem?_getD, List.getElem?_replicate]
 by_cases e : p < n
 ·rw [if_pos e]; rfl
 ·rw [if_neg e]; rfl
end Sp
attribute [local irreducible] Go.Oper.wp
def LE.unroll {P : Program} (tt : (W : InW) -> @Tr (@TI W)) (ht : ∀ W : InW, @TabOk W P (tt W)) (hm : P.follows .mixedOrders = true) (T : Tab P) (n m u : Nat) (g : FuncId) (key : Nat) (h1 : (match Ye2 P g key with | [_] => true | _ => false) = true) : LE P where
 g := g
 key := key
 f := fun W tm hp K => @Yyf W (@Yfc W { @cxT W P (tt W) T n m with fn := g } n (Yn7 P g key)) u tm hp K
 ok := fun W body a hbd ha hk tm hp K h => by
  obtain ⟨h2, h3⟩ := Yyg h1;rw [h2 body a hbd ha hk];have hP := Yzn P (tt W) T n m;have hL := (Yr8 (T := T) (ht W) hm n m).at g;have := Ylm (P := P) (cd := Yn7 P g key) (fun tm hp K h => by
   have := Ygw (c := { @cxT W P (tt W) T n m with fn := g }) hL (by rw [show ({ @cxT W P (tt W) T n m with fn := g } : Cx).P = P from hP]; exact hm) n (root := Yjq P g) (by
    show ((cxT P (tt W) T n m).P.funcs[g]?).bind (·.body) = _
    rw [hP]; exact Yyn h1) (Yn7 P g key) h3.loop tm hp K h
   rw [show ({ @cxT W P (tt W) T n m with fn := g } : Cx).P = P from hP] at this;exact this) u tm hp K h
  exact this
end Go.Proofs.Ytifhdbgciehicaa
namespace Go.Proofs.Ytifhdbgciehicaa
open Go.RowKit
set_option maxRecDepth 100000
set_option maxHeartbeats 4000000
def Xom : LE Try.prog := LE.unroll (fun W => @TT W) (fun W => @Xe W) Xa T0 1000 50 14 47 4 (by kernel_rfl)
def T18 : Tab Try.prog := ⟨[], [Xom], []⟩
namespace Sp
def withR (sh : Dt) (q j : Nat) (v : Int) : Nat -> Nat -> Dt
 | _, 0 => []
 | i, n + 1 => [.l (if i = q then (row sh i).set j [.i v] else row sh i)] :: withR sh q j v (i + 1) n
def withD (sh : Dt) (q j : Nat) (v : Int) : Dt := withR sh q j v 0 sh.length
end Sp
def Zba [W : InW] (sh : Ro Jb) := (↑(sh.xs.length) : Int)
def Zd := (0 : Nat)
def Ze [W : InW] (sh : Ro Jb) := cel sh.xs (Int.toNat Zb) Zd
def Zp [W : InW] (sh : Ro Jb) := cel sh.xs (Int.ofNat (0+1)).toNat Zd
def Zq [W : InW] (sh : Ro Jb) := cel sh.xs (Int.ofNat (1+1)).toNat Zd
def Zr [W : InW] (sh : Ro Jb) := cel sh.xs (Int.ofNat (2+1)).toNat Zd
def Zt [W : InW] (sh : Ro Jb) := cel sh.xs (Int.ofNat (3+1)).toNat Zd
def Zu [W : InW] (sh : Ro Jb) := cel sh.xs (Int.ofNat (4+1)).toNat Zd
def Zx [W : InW] (sh : Ro Jb) := cel sh.xs (Int.ofNat (5+1)).toNat Zd
def Zdg [W : InW] (sh : Ro Jb) := cel sh.xs (Int.ofNat (6+1)).toNat Zd
def Zdh [W : InW] (sh : Ro Jb) := cel sh.xs (Int.ofNat (7+1)).toNat Zd
def Zs [W : InW] (sh : Ro Jb) := cel sh.xs (Int.ofNat (nat_lit 10 + 1)).toNat Zd
def Zy [W : InW] (sh : Ro Jb) := cel sh.xs (Int.ofNat (nat_lit 11 + 1)).toNat Zd
def Zdf := nat_lit 12 + 1
def Zbu [W : InW] (b_A : Int) := decide (b_A = (↑Zd : Int))
def Zv [W : InW] (sh : Ro Jb) (b_B : Int) := decide (0 <= b_B) && decide (b_B < (↑(List.length (Ze sh).lst) : Int))
def Zbj [W : InW] (sh : Ro Jb) (b_B : Int) := decide (b_B.toNat < List.length (Ze sh).lst)
def Zbk [W : InW] (sh : Ro Jb) (b_B v : Int) := [Cl.l (List.set (Ze sh).lst b_B.toNat [Cl.i v])]
def Zbb [W : InW] (sh : Ro Jb) := cel sh.xs (Int.ofNat (nat_lit 0 + 1)).toNat Zd
def Zi [W : InW] (sh : Ro Jb) := [Cl.l (Zbb sh).lst]
def Zz [W : InW] (sh : Ro Jb) := cel sh.xs (Int.ofNat (nat_lit 1 + 1)).toNat Zd
def Zj [W : InW] (sh : Ro Jb) := [Cl.l (Zz sh).lst]
def Zl [W : InW] (sh : Ro Jb) := cel sh.xs (Int.ofNat (nat_lit 2 + 1)).toNat Zd
def Zbc [W : InW] (sh : Ro Jb) := [Cl.l (Zl sh).lst]
def Zm [W : InW] (sh : Ro Jb) := cel sh.xs (Int.ofNat (nat_lit 3 + 1)).toNat Zd
def Zbd [W : InW] (sh : Ro Jb) := [Cl.l (Zm sh).lst]
def Zk [W : InW] (sh : Ro Jb) := cel sh.xs (Int.ofNat (nat_lit 4 + 1)).toNat Zd
def Zbe [W : InW] (sh : Ro Jb) := [Cl.l (Zk sh).lst]
def Zg [W : InW] (sh : Ro Jb) := cel sh.xs (Int.ofNat (nat_lit 5 + 1)).toNat Zd
def Zbf [W : InW] (sh : Ro Jb) := [Cl.l (Zg sh).lst]
def Zf [W : InW] (sh : Ro Jb) := cel sh.xs (Int.ofNat (nat_lit 6 + 1)).toNat Zd
def Zbg [W : InW] (sh : Ro Jb) := [Cl.l (Zf sh).lst]
def Zh [W : InW] (sh : Ro Jb) := cel sh.xs (Int.ofNat (nat_lit 7 + 1)).toNat Zd
def Zbh [W : InW] (sh : Ro Jb) := [Cl.l (Zh sh).lst]
def Zn [W : InW] (sh : Ro Jb) := cel sh.xs (Int.ofNat (nat_lit 8 + 1)).toNat Zd
def Zbl [W : InW] (sh : Ro Jb) := [Cl.l (Zn sh).lst]
def Zbn [W : InW] (sh : Ro Jb) := cel sh.xs (Int.ofNat (nat_lit 9 + 1)).toNat Zd
def Zo [W : InW] (sh : Ro Jb) := [Cl.l (Zbn sh).lst]
def Zce [W : InW] (sh : Ro Jb) := [Cl.l (Zs sh).lst]
def Zde [W : InW] (sh : Ro Jb) := [Cl.l (Zy sh).lst]
def Zch [W : InW] (sh : Ro Jb) (b_B : Int) := decide (0 <= b_B) && decide (b_B < (↑(List.length (Zbb sh).lst) : Int))
def Zw [W : InW] (sh : Ro Jb) := [Cl.l (Ze sh).lst]
def Zdp [W : InW] (sh : Ro Jb) (b_B v : Int) := [Cl.l (List.set (Zbb sh).lst b_B.toNat [Cl.i v])]
def Zci [W : InW] (sh : Ro Jb) (b_B : Int) := decide (0 <= b_B) && decide (b_B < (↑(List.length (Zz sh).lst) : Int))
def Zcw [W : InW] (sh : Ro Jb) (b_B v : Int) := [Cl.l (List.set (Zz sh).lst b_B.toNat [Cl.i v])]
def Zcj [W : InW] (sh : Ro Jb) (b_B : Int) := decide (0 <= b_B) && decide (b_B < (↑(List.length (Zl sh).lst) : Int))
def Zdj [W : InW] (sh : Ro Jb) (b_B : Int) := decide (b_B.toNat < List.length (Zl sh).lst)
def Zcx [W : InW] (sh : Ro Jb) (b_B v : Int) := [Cl.l (List.set (Zl sh).lst b_B.toNat [Cl.i v])]
def Zck [W : InW] (sh : Ro Jb) (b_B : Int) := decide (0 <= b_B) && decide (b_B < (↑(List.length (Zm sh).lst) : Int))
def Zdk [W : InW] (sh : Ro Jb) (b_B : Int) := decide (b_B.toNat < List.length (Zm sh).lst)
def Zcy [W : InW] (sh : Ro Jb) (b_B v : Int) := [Cl.l (List.set (Zm sh).lst b_B.toNat [Cl.i v])]
def Zbv [W : InW] (sh : Ro Jb) (b_B : Int) := decide (0 <= b_B) && decide (b_B < (↑(List.length (Zk sh).lst) : Int))
def Zdl [W : InW] (sh : Ro Jb) (b_B : Int) := decide (b_B.toNat < List.length (Zk sh).lst)
def Zcz [W : InW] (sh : Ro Jb) (b_B v : Int) := [Cl.l (List.set (Zk sh).lst b_B.toNat [Cl.i v])]
def Zbw [W : InW] (sh : Ro Jb) (b_B : Int) := decide (0 <= b_B) && decide (b_B < (↑(List.length (Zg sh).lst) : Int))
def Zdm [W : InW] (sh : Ro Jb) (b_B : Int) := decide (b_B.toNat < List.length (Zg sh).lst)
def Zco [W : InW] (sh : Ro Jb) (b_B v : Int) := [Cl.l (List.set (Zg sh).lst b_B.toNat [Cl.i v])]
def Zbx [W : InW] (sh : Ro Jb) (b_B : Int) := decide (0 <= b_B) && decide (b_B < (↑(List.length (Zf sh).lst) : Int))
def Zct [W : InW] (sh : Ro Jb) (b_B : Int) := decide (b_B.toNat < List.length (Zf sh).lst)
def Zcp [W : InW] (sh : Ro Jb) (b_B v : Int) := [Cl.l (List.set (Zf sh).lst b_B.toNat [Cl.i v])]
def Zby [W : InW] (sh : Ro Jb) (b_B : Int) := decide (0 <= b_B) && decide (b_B < (↑(List.length (Zh sh).lst) : Int))
def Zcu [W : InW] (sh : Ro Jb) (b_B : Int) := decide (b_B.toNat < List.length (Zh sh).lst)
def Zda [W : InW] (sh : Ro Jb) (b_B v : Int) := [Cl.l (List.set (Zh sh).lst b_B.toNat [Cl.i v])]
def Zcl [W : InW] (sh : Ro Jb) (b_B : Int) := decide (0 <= b_B) && decide (b_B < (↑(List.length (Zn sh).lst) : Int))
def Zdn [W : InW] (sh : Ro Jb) (b_B : Int) := decide (b_B.toNat < List.length (Zn sh).lst)
def Zdc [W : InW] (sh : Ro Jb) (b_B : Int) := decide (0 <= b_B) && decide (b_B < (↑(List.length (Zbn sh).lst) : Int))
def Zcd [W : InW] (b_A : Int) := decide (b_A = (↑(0+1) : Int))
def Zcg [W : InW] (b_A : Int) := decide (b_A = (↑(1+1) : Int))
def Zcm [W : InW] (b_A : Int) := decide (b_A = (↑(2+1) : Int))
def Zcs [W : InW] (b_A : Int) := decide (b_A = (↑(3+1) : Int))
def Zbs [W : InW] (sh : Ro Jb) (b_B : Int) := decide (b_B.toNat < List.length (Zp sh).lst)
def Zcb [W : InW] (sh : Ro Jb) (b_B : Int) := decide (b_B.toNat < List.length (Zq sh).lst)
def Zdi [W : InW] (b_A : Int) := decide (b_A = (↑(4+1) : Int))
def Zbq [W : InW] (sh : Ro Jb) := [Cl.l (Zp sh).lst]
def Zbr [W : InW] (sh : Ro Jb) := [Cl.l (Zq sh).lst]
def Zbt [W : InW] (sh : Ro Jb) := [Cl.l (Zr sh).lst]
def Zca [W : InW] (sh : Ro Jb) := [Cl.l (Zt sh).lst]
def Zcf [W : InW] (sh : Ro Jb) := [Cl.l (Zu sh).lst]
def Zcr [W : InW] (sh : Ro Jb) := [Cl.l (Zx sh).lst]
def Zbm [W : InW] (sh : Ro Jb) := [Cl.l (Zdg sh).lst]
def Zbi [W : InW] (sh : Ro Jb) (b_B : Int) := decide (0 <= b_B) && decide (b_B < (↑(List.length (Zp sh).lst) : Int))
def Zcc [W : InW] (sh : Ro Jb) (b_B v : Int) := [Cl.l (List.set (Zp sh).lst b_B.toNat [Cl.i v])]
def Zbo [W : InW] (sh : Ro Jb) (b_B : Int) := decide (0 <= b_B) && decide (b_B < (↑(List.length (Zq sh).lst) : Int))
def Zbp [W : InW] (sh : Ro Jb) (b_B : Int) := decide (0 <= b_B) && decide (b_B < (↑(List.length (Zr sh).lst) : Int))
def Zcn [W : InW] (sh : Ro Jb) (b_B : Int) := decide (b_B.toNat < List.length (Zr sh).lst)
def Zbz [W : InW] (sh : Ro Jb) (b_B : Int) := decide (0 <= b_B) && decide (b_B < (↑(List.length (Zt sh).lst) : Int))
def Zcv [W : InW] (sh : Ro Jb) (b_B : Int) := decide (b_B.toNat < List.length (Zt sh).lst)
def Zdo [W : InW] (sh : Ro Jb) (b_B : Int) := decide (b_B.toNat < List.length (Zu sh).lst)
def Zcq [W : InW] (sh : Ro Jb) (b_B v : Int) := [Cl.l (List.set (Zq sh).lst b_B.toNat [Cl.i v])]
def Zdb [W : InW] (sh : Ro Jb) (b_B v : Int) := [Cl.l (List.set (Zr sh).lst b_B.toNat [Cl.i v])]
def Zdd [W : InW] (sh : Ro Jb) (b_B : Int) := decide (0 <= b_B) && decide (b_B < (↑(List.length (Zu sh).lst) : Int))
def Xdl [W : InW] (sh : Ro Jb) (b_A b_B v : Int) (Q : DS -> Prop) : Prop :=
 Vif (decide (Zb < (Zba sh))) (Need (decide (Zb <= 0) && decide (Zb < (Zba sh))) (Need (decide (Int.toNat Zb < sh.xs.length)) (Need (decide ((Zd + List.length (Ze sh).lst) * 8 <= 140737488355328)) (Vif (decide (Int.ofNat (0+1) < (Zba sh))) (Need (decide (Zb <= Int.ofNat (0+1)) && decide (Int.ofNat (0+1) < (Zba sh))) (Need (decide ((Int.ofNat (0+1)).toNat < sh.xs.length)) (Need (decide ((Zd + List.length (Zp sh).lst) * 8 <= 140737488355328)) (Vif (decide (Int.ofNat (1+1) < (Zba sh))) (Need (decide (Zb <= Int.ofNat (1+1)) && decide (Int.ofNat (1+1) < (Zba sh))) (Need (decide ((Int.ofNat (1+1)).toNat < sh.xs.length)) (Need (decide ((Zd + List.length (Zq sh).lst) * 8 <= 140737488355328)) (Vif (decide (Int.ofNat (2+1) < (Zba sh))) (Need (decide (Zb <= Int.ofNat (2+1)) && decide (Int.ofNat (2+1) < (Zba sh))) (Need (decide ((Int.ofNat (2+1)).toNat < sh.xs.length)) (Need (decide ((Zd + List.length (Zr sh).lst) * 8 <= 140737488355328)) (Vif (decide (Int.ofNat (3+1) < (Zba sh))) (Need (decide (Zb <= Int.ofNat (3+1)) && decide (Int.ofNat (3+1) < (Zba sh))) (Need (decide ((Int.ofNat (3+1)).toNat < sh.xs.length)) (Need (decide ((Zd + List.length (Zt sh).lst) * 8 <= 140737488355328)) (Vif (decide (Int.ofNat (4+1) < (Zba sh))) (Need (decide (Zb <= Int.ofNat (4+1)) && decide (Int.ofNat (4+1) < (Zba sh))) (Need (decide ((Int.ofNat (4+1)).toNat < sh.xs.length)) (Need (decide ((Zd + List.length (Zu sh).lst) * 8 <= 140737488355328)) (Vif (decide (Int.ofNat (5+1) < (Zba sh))) (Need (decide (Zb <= Int.ofNat (5+1)) && decide (Int.ofNat (5+1) < (Zba sh))) (Need (decide ((Int.ofNat (5+1)).toNat < sh.xs.length)) (Need (decide ((Zd + List.length (Zx sh).lst) * 8 <= 140737488355328)) (Vif (decide (Int.ofNat (6+1) < (Zba sh))) (Need (decide (Zb <= Int.ofNat (6+1)) && decide (Int.ofNat (6+1) < (Zba sh))) (Need (decide ((Int.ofNat (6+1)).toNat < sh.xs.length)) (Need (decide ((Zd + List.length (Zdg sh).lst) * 8 <= 140737488355328)) (Vif (decide (Int.ofNat (7+1) < (Zba sh))) (Need (decide (Zb <= Int.ofNat (7+1)) && decide (Int.ofNat (7+1) < (Zba sh))) (Need (decide ((Int.ofNat (7+1)).toNat < sh.xs.length)) (Need (decide ((Zd + List.length (Zdh sh).lst) * 8 <= 140737488355328)) (Vif (decide (Int.ofNat (8+1) < (Zba sh))) (Need (decide (Zb <= Int.ofNat (8+1)) && decide (Int.ofNat (8+1) < (Zba sh))) (Need (decide ((Int.ofNat (8+1)).toNat < sh.xs.length)) (Need (decide ((Zd + List.length (cel sh.xs (Int.ofNat (8+1)).toNat Zd).lst) * 8 <= 140737488355328)) (Vif (decide (Int.ofNat (9+1) < (Zba sh))) (Need (decide (Zb <= Int.ofNat (9+1)) && decide (Int.ofNat (9+1) < (Zba sh))) (Need (decide ((Int.ofNat (9+1)).toNat < sh.xs.length)) (Need (decide ((Zd + List.length (cel sh.xs (Int.ofNat (9+1)).toNat Zd).lst) * 8 <= 140737488355328)) (Vif (decide (Int.ofNat (10+1) < (Zba sh))) (Need (decide (Zb <= Int.ofNat (10+1)) && decide (Int.ofNat (10+1) < (Zba sh))) (Need (decide ((Int.ofNat (10+1)).toNat < sh.xs.length)) (Need (decide ((Zd + List.length (Zs sh).lst) * 8 <= 140737488355328)) (Vif (decide (Int.ofNat (11+1) < (Zba sh))) (Need (decide (Zb <= Int.ofNat (nat_lit 11 + 1)) && decide (Int.ofNat (nat_lit 11 + 1) < (Zba sh))) (Need (decide ((Int.ofNat (nat_lit 11 + 1)).toNat < sh.xs.length)) (Need (decide ((Zd + List.length (Zy sh).lst) * 8 <= 140737488355328)) (Vif (decide (Int.ofNat Zdf < (Zba sh))) (Need (decide (Zb <= Int.ofNat Zdf) && decide (Int.ofNat Zdf < (Zba sh))) (Need (decide ((Int.ofNat Zdf).toNat < sh.xs.length)) (Need (decide ((Zd + List.length (cel sh.xs (Int.ofNat Zdf).toNat Zd).lst) * 8 <= 140737488355328)) ((45 : Nat) = 45 + 1)))) (Need (decide (0 <= b_A) && decide (b_A < (↑Zdf : Int))) (Vif (Zbu b_A) (Need (Zv sh b_B) (Need (Zbj sh b_B) (Q [[Cl.l [(Zbk sh b_B v), (Zi sh), (Zj sh), (Zbc sh), (Zbd sh), (Zbe sh), (Zbf sh), (Zbg sh), (Zbh sh), (Zbl sh), (Zo sh), (Zce sh), (Zde sh)]]]))) (Vif (decide (b_A = (↑(nat_lit 0 + 1) : Int))) (Need (Zch sh b_B) (Need (decide (b_B.toNat < List.length (Zbb sh).lst)) (Q [[Cl.l [(Zw sh), (Zdp sh b_B v), (Zj sh), (Zbc sh), (Zbd sh), (Zbe sh), (Zbf sh), (Zbg sh), (Zbh sh), (Zbl sh), (Zo sh), (Zce sh), (Zde sh)]]]))) (Vif (decide (b_A = (↑(nat_lit 1 + 1) : Int))) (Need (Zci sh b_B) (Need (decide (b_B.toNat < List.length (Zz sh).lst)) (Q [[Cl.l [(Zw sh), (Zi sh), (Zcw sh b_B v), (Zbc sh), (Zbd sh), (Zbe sh), (Zbf sh), (Zbg sh), (Zbh sh), (Zbl sh), (Zo sh), (Zce sh), (Zde sh)]]]))) (Vif (decide (b_A = (↑(nat_lit 2 + 1) : Int))) (Need (Zcj sh b_B) (Need (Zdj sh b_B) (Q [[Cl.l [(Zw sh), (Zi sh), (Zj sh), (Zcx sh b_B v), (Zbd sh), (Zbe sh), (Zbf sh), (Zbg sh), (Zbh sh), (Zbl sh), (Zo sh), (Zce sh), (Zde sh)]]]))) (Vif (decide (b_A = (↑(nat_lit 3 + 1) : Int))) (Need (Zck sh b_B) (Need (Zdk sh b_B) (Q [[Cl.l [(Zw sh), (Zi sh), (Zj sh), (Zbc sh), (Zcy sh b_B v), (Zbe sh), (Zbf sh), (Zbg sh), (Zbh sh), (Zbl sh), (Zo sh), (Zce sh), (Zde sh)]]]))) (Vif (decide (b_A = (↑(nat_lit 4 + 1) : Int))) (Need (Zbv sh b_B) (Need (Zdl sh b_B) (Q [[Cl.l [(Zw sh), (Zi sh), (Zj sh), (Zbc sh), (Zbd sh), (Zcz sh b_B v), (Zbf sh), (Zbg sh), (Zbh sh), (Zbl sh), (Zo sh), (Zce sh), (Zde sh)]]]))) (Vif (decide (b_A = (↑(nat_lit 5 + 1) : Int))) (Need (Zbw sh b_B) (Need (Zdm sh b_B) (Q [[Cl.l [(Zw sh), (Zi sh), (Zj sh), (Zbc sh), (Zbd sh), (Zbe sh), (Zco sh b_B v), (Zbg sh), (Zbh sh), (Zbl sh), (Zo sh), (Zce sh), (Zde sh)]]]))) (Vif (decide (b_A = (↑(nat_lit 6 + 1) : Int))) (Need (Zbx sh b_B) (Need (Zct sh b_B) (Q [[Cl.l [(Zw sh), (Zi sh), (Zj sh), (Zbc sh), (Zbd sh), (Zbe sh), (Zbf sh), (Zcp sh b_B v), (Zbh sh), (Zbl sh), (Zo sh), (Zce sh), (Zde sh)]]]))) (Vif (decide (b_A = (↑(nat_lit 7 + 1) : Int))) (Need (Zby sh b_B) (Need (Zcu sh b_B) (Q [[Cl.l [(Zw sh), (Zi sh), (Zj sh), (Zbc sh), (Zbd sh), (Zbe sh), (Zbf sh), (Zbg sh), (Zda sh b_B v), (Zbl sh), (Zo sh), (Zce sh), (Zde sh)]]]))) (Vif (decide (b_A = (↑(nat_lit 8 + 1) : Int))) (Need (Zcl sh b_B) (Need (Zdn sh b_B) (Q [[Cl.l [(Zw sh), (Zi sh), (Zj sh), (Zbc sh), (Zbd sh), (Zbe sh), (Zbf sh), (Zbg sh), (Zbh sh), [Cl.l (List.set (Zn sh).lst b_B.toNat [Cl.i v])], (Zo sh), (Zce sh), (Zde sh)]]]))) (Vif (decide (b_A = (↑(nat_lit 9 + 1) : Int))) (Need (Zdc sh b_B) (Need (decide (b_B.toNat < List.length (Zbn sh).lst)) (Q [[Cl.l [(Zw sh), (Zi sh), (Zj sh), (Zbc sh), (Zbd sh), (Zbe sh), (Zbf sh), (Zbg sh), (Zbh sh), (Zbl sh), [Cl.l (List.set (Zbn sh).lst b_B.toNat [Cl.i v])], (Zce sh), (Zde sh)]]]))) (Vif (decide (b_A = (↑(nat_lit 10 + 1) : Int))) (Need (decide (0 <= b_B) && decide (b_B < (↑(List.length (Zs sh).lst) : Int))) (Need (decide (b_B.toNat < List.length (Zs sh).lst)) (Q [[Cl.l [(Zw sh), (Zi sh), (Zj sh), (Zbc sh), (Zbd sh), (Zbe sh), (Zbf sh), (Zbg sh), (Zbh sh), (Zbl sh), (Zo sh), [Cl.l (List.set (Zs sh).lst b_B.toNat [Cl.i v])], (Zde sh)]]]))) (Need (decide (0 <= b_B) && decide (b_B < (↑(List.length (Zy sh).lst) : Int))) (Need (decide (b_B.toNat < List.length (Zy sh).lst)) (Q [[Cl.l [(Zw sh), (Zi sh), (Zj sh), (Zbc sh), (Zbd sh), (Zbe sh), (Zbf sh), (Zbg sh), (Zbh sh), (Zbl sh), (Zo sh), (Zce sh), [Cl.l (List.set (Zy sh).lst b_B.toNat [Cl.i v])]]]])))))))))))))))))))) (Need (decide (0 <= b_A) && decide (b_A < (↑(nat_lit 11 + 1) : Int))) (Vif (Zbu b_A) (Need (Zv sh b_B) (Need (Zbj sh b_B) (Q [[Cl.l [(Zbk sh b_B v), (Zi sh), (Zj sh), (Zbc sh), (Zbd sh), (Zbe sh), (Zbf sh), (Zbg sh), (Zbh sh), (Zbl sh), (Zo sh), (Zce sh)]]]))) (Vif (decide (b_A = (↑(nat_lit 0 + 1) : Int))) (Need (Zch sh b_B) (Need (decide (b_B.toNat < List.length (Zbb sh).lst)) (Q [[Cl.l [(Zw sh), (Zdp sh b_B v), (Zj sh), (Zbc sh), (Zbd sh), (Zbe sh), (Zbf sh), (Zbg sh), (Zbh sh), (Zbl sh), (Zo sh), (Zce sh)]]]))) (Vif (decide (b_A = (↑(nat_lit 1 + 1) : Int))) (Need (Zci sh b_B) (Need (decide (b_B.toNat < List.length (Zz sh).lst)) (Q [[Cl.l [(Zw sh), (Zi sh), (Zcw sh b_B v), (Zbc sh), (Zbd sh), (Zbe sh), (Zbf sh), (Zbg sh), (Zbh sh), (Zbl sh), (Zo sh), (Zce sh)]]]))) (Vif (decide (b_A = (↑(nat_lit 2 + 1) : Int))) (Need (Zcj sh b_B) (Need (Zdj sh b_B) (Q [[Cl.l [(Zw sh), (Zi sh), (Zj sh), (Zcx sh b_B v), (Zbd sh), (Zbe sh), (Zbf sh), (Zbg sh), (Zbh sh), (Zbl sh), (Zo sh), (Zce sh)]]]))) (Vif (decide (b_A = (↑(nat_lit 3 + 1) : Int))) (Need (Zck sh b_B) (Need (Zdk sh b_B) (Q [[Cl.l [(Zw sh), (Zi sh), (Zj sh), (Zbc sh), (Zcy sh b_B v), (Zbe sh), (Zbf sh), (Zbg sh), (Zbh sh), (Zbl sh), (Zo sh), (Zce sh)]]]))) (Vif (decide (b_A = (↑(nat_lit 4 + 1) : Int))) (Need (Zbv sh b_B) (Need (Zdl sh b_B) (Q [[Cl.l [(Zw sh), (Zi sh), (Zj sh), (Zbc sh), (Zbd sh), (Zcz sh b_B v), (Zbf sh), (Zbg sh), (Zbh sh), (Zbl sh), (Zo sh), (Zce sh)]]]))) (Vif (decide (b_A = (↑(nat_lit 5 + 1) : Int))) (Need (Zbw sh b_B) (Need (Zdm sh b_B) (Q [[Cl.l [(Zw sh), (Zi sh), (Zj sh), (Zbc sh), (Zbd sh), (Zbe sh), (Zco sh b_B v), (Zbg sh), (Zbh sh), (Zbl sh), (Zo sh), (Zce sh)]]]))) (Vif (decide (b_A = (↑(nat_lit 6 + 1) : Int))) (Need (Zbx sh b_B) (Need (Zct sh b_B) (Q [[Cl.l [(Zw sh), (Zi sh), (Zj sh), (Zbc sh), (Zbd sh), (Zbe sh), (Zbf sh), (Zcp sh b_B v), (Zbh sh), (Zbl sh), (Zo sh), (Zce sh)]]]))) (Vif (decide (b_A = (↑(nat_lit 7 + 1) : Int))) (Need (Zby sh b_B) (Need (Zcu sh b_B) (Q [[Cl.l [(Zw sh), (Zi sh), (Zj sh), (Zbc sh), (Zbd sh), (Zbe sh), (Zbf sh), (Zbg sh), (Zda sh b_B v), (Zbl sh), (Zo sh), (Zce sh)]]]))) (Vif (decide (b_A = (↑(nat_lit 8 + 1) : Int))) (Need (Zcl sh b_B) (Need (Zdn sh b_B) (Q [[Cl.l [(Zw sh), (Zi sh), (Zj sh), (Zbc sh), (Zbd sh), (Zbe sh), (Zbf sh), (Zbg sh), (Zbh sh), [Cl.l (List.set (Zn sh).lst b_B.toNat [Cl.i v])], (Zo sh), (Zce sh)]]]))) (Vif (decide (b_A = (↑(nat_lit 9 + 1) : Int))) (Need (Zdc sh b_B) (Need (decide (b_B.toNat < List.length (Zbn sh).lst)) (Q [[Cl.l [(Zw sh), (Zi sh), (Zj sh), (Zbc sh), (Zbd sh), (Zbe sh), (Zbf sh), (Zbg sh), (Zbh sh), (Zbl sh), [Cl.l (List.set (Zbn sh).lst b_B.toNat [Cl.i v])], (Zce sh)]]]))) (Need (decide (0 <= b_B) && decide (b_B < (↑(List.length (Zs sh).lst) : Int))) (Need (decide (b_B.toNat < List.length (Zs sh).lst)) (Q [[Cl.l [(Zw sh), (Zi sh), (Zj sh), (Zbc sh), (Zbd sh), (Zbe sh), (Zbf sh), (Zbg sh), (Zbh sh), (Zbl sh), (Zo sh), [Cl.l (List.set (Zs sh).lst b_B.toNat [Cl.i v])]]]]))))))))))))))))))) (Need (decide (0 <= b_A) && decide (b_A < (↑(10+1) : Int))) (Vif (Zbu b_A) (Need (Zv sh b_B) (Need (Zbj sh b_B) (Q [[Cl.l [(Zbk sh b_B v), (Zi sh), (Zj sh), (Zbc sh), (Zbd sh), (Zbe sh), (Zbf sh), (Zbg sh), (Zbh sh), (Zbl sh), (Zo sh)]]]))) (Vif (Zcd b_A) (Need (Zch sh b_B) (Need (decide (b_B.toNat < List.length (Zbb sh).lst)) (Q [[Cl.l [(Zw sh), (Zdp sh b_B v), (Zj sh), (Zbc sh), (Zbd sh), (Zbe sh), (Zbf sh), (Zbg sh), (Zbh sh), (Zbl sh), (Zo sh)]]]))) (Vif (Zcg b_A) (Need (Zci sh b_B) (Need (decide (b_B.toNat < List.length (Zz sh).lst)) (Q [[Cl.l [(Zw sh), (Zi sh), (Zcw sh b_B v), (Zbc sh), (Zbd sh), (Zbe sh), (Zbf sh), (Zbg sh), (Zbh sh), (Zbl sh), (Zo sh)]]]))) (Vif (Zcm b_A) (Need (Zcj sh b_B) (Need (Zdj sh b_B) (Q [[Cl.l [(Zw sh), (Zi sh), (Zj sh), (Zcx sh b_B v), (Zbd sh), (Zbe sh), (Zbf sh), (Zbg sh), (Zbh sh), (Zbl sh), (Zo sh)]]]))) (Vif (Zcs b_A) (Need (Zck sh b_B) (Need (Zdk sh b_B) (Q [[Cl.l [(Zw sh), (Zi sh), (Zj sh), (Zbc sh), (Zcy sh b_B v), (Zbe sh), (Zbf sh), (Zbg sh), (Zbh sh), (Zbl sh), (Zo sh)]]]))) (Vif (decide (b_A = (↑(nat_lit 4 + 1) : Int))) (Need (Zbv sh b_B) (Need (Zdl sh b_B) (Q [[Cl.l [(Zw sh), (Zi sh), (Zj sh), (Zbc sh), (Zbd sh), (Zcz sh b_B v), (Zbf sh), (Zbg sh), (Zbh sh), (Zbl sh), (Zo sh)]]]))) (Vif (decide (b_A = (↑(nat_lit 5 + 1) : Int))) (Need (Zbw sh b_B) (Need (Zdm sh b_B) (Q [[Cl.l [(Zw sh), (Zi sh), (Zj sh), (Zbc sh), (Zbd sh), (Zbe sh), (Zco sh b_B v), (Zbg sh), (Zbh sh), (Zbl sh), (Zo sh)]]]))) (Vif (decide (b_A = (↑(nat_lit 6 + 1) : Int))) (Need (Zbx sh b_B) (Need (Zct sh b_B) (Q [[Cl.l [(Zw sh), (Zi sh), (Zj sh), (Zbc sh), (Zbd sh), (Zbe sh), (Zbf sh), (Zcp sh b_B v), (Zbh sh), (Zbl sh), (Zo sh)]]]))) (Vif (decide (b_A = (↑(nat_lit 7 + 1) : Int))) (Need (Zby sh b_B) (Need (Zcu sh b_B) (Q [[Cl.l [(Zw sh), (Zi sh), (Zj sh), (Zbc sh), (Zbd sh), (Zbe sh), (Zbf sh), (Zbg sh), (Zda sh b_B v), (Zbl sh), (Zo sh)]]]))) (Vif (decide (b_A = (↑(nat_lit 8 + 1) : Int))) (Need (Zcl sh b_B) (Need (Zdn sh b_B) (Q [[Cl.l [(Zw sh), (Zi sh), (Zj sh), (Zbc sh), (Zbd sh), (Zbe sh), (Zbf sh), (Zbg sh), (Zbh sh), [Cl.l (List.set (Zn sh).lst b_B.toNat [Cl.i v])], (Zo sh)]]]))) (Need (Zdc sh b_B) (Need (decide (b_B.toNat < List.length (Zbn sh).lst)) (Q [[Cl.l [(Zw sh), (Zi sh), (Zj sh), (Zbc sh), (Zbd sh), (Zbe sh), (Zbf sh), (Zbg sh), (Zbh sh), (Zbl sh), [Cl.l (List.set (Zbn sh).lst b_B.toNat [Cl.i v])]]]])))))))))))))))))) (Need (decide (0 <= b_A) && decide (b_A < (↑(9+1) : Int))) (Vif (Zbu b_A) (Need (Zv sh b_B) (Need (Zbj sh b_B) (Q [[Cl.l [(Zbk sh b_B v), (Zi sh), (Zj sh), (Zbc sh), (Zbd sh), (Zbe sh), (Zbf sh), (Zbg sh), (Zbh sh), (Zbl sh)]]]))) (Vif (Zcd b_A) (Need (Zch sh b_B) (Need (Zbs sh b_B) (Q [[Cl.l [(Zw sh), (Zdp sh b_B v), (Zj sh), (Zbc sh), (Zbd sh), (Zbe sh), (Zbf sh), (Zbg sh), (Zbh sh), (Zbl sh)]]]))) (Vif (Zcg b_A) (Need (Zci sh b_B) (Need (Zcb sh b_B) (Q [[Cl.l [(Zw sh), (Zi sh), (Zcw sh b_B v), (Zbc sh), (Zbd sh), (Zbe sh), (Zbf sh), (Zbg sh), (Zbh sh), (Zbl sh)]]]))) (Vif (Zcm b_A) (Need (Zcj sh b_B) (Need (Zdj sh b_B) (Q [[Cl.l [(Zw sh), (Zi sh), (Zj sh), (Zcx sh b_B v), (Zbd sh), (Zbe sh), (Zbf sh), (Zbg sh), (Zbh sh), (Zbl sh)]]]))) (Vif (Zcs b_A) (Need (Zck sh b_B) (Need (Zdk sh b_B) (Q [[Cl.l [(Zw sh), (Zi sh), (Zj sh), (Zbc sh), (Zcy sh b_B v), (Zbe sh), (Zbf sh), (Zbg sh), (Zbh sh), (Zbl sh)]]]))) (Vif (Zdi b_A) (Need (Zbv sh b_B) (Need (Zdl sh b_B) (Q [[Cl.l [(Zw sh), (Zi sh), (Zj sh), (Zbc sh), (Zbd sh), (Zcz sh b_B v), (Zbf sh), (Zbg sh), (Zbh sh), (Zbl sh)]]]))) (Vif (decide (b_A = (↑(5+1) : Int))) (Need (Zbw sh b_B) (Need (Zdm sh b_B) (Q [[Cl.l [(Zw sh), (Zi sh), (Zj sh), (Zbc sh), (Zbd sh), (Zbe sh), (Zco sh b_B v), (Zbg sh), (Zbh sh), (Zbl sh)]]]))) (Vif (decide (b_A = (↑(6+1) : Int))) (Need (Zbx sh b_B) (Need (Zct sh b_B) (Q [[Cl.l [(Zw sh), (Zi sh), (Zj sh), (Zbc sh), (Zbd sh), (Zbe sh), (Zbf sh), (Zcp sh b_B v), (Zbh sh), (Zbl sh)]]]))) (Vif (decide (b_A = (↑(7+1) : Int))) (Need (Zby sh b_B) (Need (Zcu sh b_B) (Q [[Cl.l [(Zw sh), (Zi sh), (Zj sh), (Zbc sh), (Zbd sh), (Zbe sh), (Zbf sh), (Zbg sh), (Zda sh b_B v), (Zbl sh)]]]))) (Need (Zcl sh b_B) (Need (Zdn sh b_B) (Q [[Cl.l [(Zw sh), (Zi sh), (Zj sh), (Zbc sh), (Zbd sh), (Zbe sh), (Zbf sh), (Zbg sh), (Zbh sh), [Cl.l (List.set (Zn sh).lst b_B.toNat [Cl.i v])]]]]))))))))))))))))) (Need (decide (0 <= b_A) && decide (b_A < (↑(8+1) : Int))) (Vif (Zbu b_A) (Need (Zv sh b_B) (Need (Zbj sh b_B) (Q [[Cl.l [(Zbk sh b_B v), (Zbq sh), (Zbr sh), (Zbt sh), (Zca sh), (Zcf sh), (Zcr sh), (Zbm sh), [Cl.l (Zdh sh).lst]]]]))) (Vif (Zcd b_A) (Need (Zbi sh b_B) (Need (Zbs sh b_B) (Q [[Cl.l [(Zw sh), (Zcc sh b_B v), (Zbr sh), (Zbt sh), (Zca sh), (Zcf sh), (Zcr sh), (Zbm sh), [Cl.l (Zdh sh).lst]]]]))) (Vif (Zcg b_A) (Need (Zbo sh b_B) (Need (Zcb sh b_B) (Q [[Cl.l [(Zw sh), (Zbq sh), (Zcw sh b_B v), (Zbt sh), (Zca sh), (Zcf sh), (Zcr sh), (Zbm sh), [Cl.l (Zdh sh).lst]]]]))) (Vif (Zcm b_A) (Need (Zbp sh b_B) (Need (Zcn sh b_B) (Q [[Cl.l [(Zw sh), (Zi sh), (Zj sh), (Zcx sh b_B v), (Zbd sh), (Zbe sh), (Zbf sh), (Zbg sh), (Zbh sh)]]]))) (Vif (Zcs b_A) (Need (Zbz sh b_B) (Need (Zcv sh b_B) (Q [[Cl.l [(Zw sh), (Zi sh), (Zj sh), (Zbc sh), (Zcy sh b_B v), (Zbe sh), (Zbf sh), (Zbg sh), (Zbh sh)]]]))) (Vif (Zdi b_A) (Need (Zbv sh b_B) (Need (Zdo sh b_B) (Q [[Cl.l [(Zw sh), (Zi sh), (Zj sh), (Zbc sh), (Zbd sh), (Zcz sh b_B v), (Zbf sh), (Zbg sh), (Zbh sh)]]]))) (Vif (decide (b_A = (↑(5+1) : Int))) (Need (Zbw sh b_B) (Need (decide (b_B.toNat < List.length (Zx sh).lst)) (Q [[Cl.l [(Zw sh), (Zi sh), (Zj sh), (Zbc sh), (Zbd sh), (Zbe sh), (Zco sh b_B v), (Zbg sh), (Zbh sh)]]]))) (Vif (decide (b_A = (↑(6+1) : Int))) (Need (Zbx sh b_B) (Need (Zct sh b_B) (Q [[Cl.l [(Zw sh), (Zi sh), (Zj sh), (Zbc sh), (Zbd sh), (Zbe sh), (Zbf sh), (Zcp sh b_B v), (Zbh sh)]]]))) (Need (Zby sh b_B) (Need (Zcu sh b_B) (Q [[Cl.l [(Zw sh), (Zi sh), (Zj sh), (Zbc sh), (Zbd sh), (Zbe sh), (Zbf sh), (Zbg sh), (Zda sh b_B v)]]])))))))))))))))) (Need (decide (0 <= b_A) && decide (b_A < (↑(7+1) : Int))) (Vif (Zbu b_A) (Need (Zv sh b_B) (Need (Zbj sh b_B) (Q [[Cl.l [(Zbk sh b_B v), (Zbq sh), (Zbr sh), (Zbt sh), (Zca sh), (Zcf sh), (Zcr sh), (Zbm sh)]]]))) (Vif (Zcd b_A) (Need (Zbi sh b_B) (Need (Zbs sh b_B) (Q [[Cl.l [(Zw sh), (Zcc sh b_B v), (Zbr sh), (Zbt sh), (Zca sh), (Zcf sh), (Zcr sh), (Zbm sh)]]]))) (Vif (Zcg b_A) (Need (Zbo sh b_B) (Need (Zcb sh b_B) (Q [[Cl.l [(Zw sh), (Zbq sh), (Zcq sh b_B v), (Zbt sh), (Zca sh), (Zcf sh), (Zcr sh), (Zbm sh)]]]))) (Vif (Zcm b_A) (Need (Zbp sh b_B) (Need (Zcn sh b_B) (Q [[Cl.l [(Zw sh), (Zbq sh), (Zbr sh), (Zdb sh b_B v), (Zca sh), (Zcf sh), (Zcr sh), (Zbm sh)]]]))) (Vif (Zcs b_A) (Need (Zbz sh b_B) (Need (Zcv sh b_B) (Q [[Cl.l [(Zw sh), (Zbq sh), (Zbr sh), (Zbt sh), [Cl.l (List.set (Zt sh).lst b_B.toNat [Cl.i v])], (Zcf sh), (Zcr sh), (Zbm sh)]]]))) (Vif (Zdi b_A) (Need (Zdd sh b_B) (Need (Zdo sh b_B) (Q [[Cl.l [(Zw sh), (Zbq sh), (Zbr sh), (Zbt sh), (Zca sh), [Cl.l (List.set (Zu sh).lst b_B.toNat [Cl.i v])], (Zcr sh), (Zbm sh)]]]))) (Vif (decide (b_A = (↑(5+1) : Int))) (Need (decide (0 <= b_B) && decide (b_B < (↑(List.length (Zx sh).lst) : Int))) (Need (decide (b_B.toNat < List.length (Zx sh).lst)) (Q [[Cl.l [(Zw sh), (Zbq sh), (Zbr sh), (Zbt sh), (Zca sh), (Zcf sh), (Zco sh b_B v), (Zbm sh)]]]))) (Need (decide (0 <= b_B) && decide (b_B < (↑(List.length (Zdg sh).lst) : Int))) (Need (decide (b_B.toNat < List.length (Zdg sh).lst)) (Q [[Cl.l [(Zw sh), (Zbq sh), (Zbr sh), (Zbt sh), (Zca sh), (Zcf sh), (Zcr sh), (Zcp sh b_B v)]]]))))))))))))))) (Need (decide (0 <= b_A) && decide (b_A < (↑(6+1) : Int))) (Vif (Zbu b_A) (Need (Zv sh b_B) (Need (Zbj sh b_B) (Q [[Cl.l [(Zbk sh b_B v), (Zbq sh), (Zbr sh), (Zbt sh), (Zca sh), (Zcf sh), (Zcr sh)]]]))) (Vif (Zcd b_A) (Need (Zbi sh b_B) (Need (Zbs sh b_B) (Q [[Cl.l [(Zw sh), (Zcc sh b_B v), (Zbr sh), (Zbt sh), (Zca sh), (Zcf sh), (Zcr sh)]]]))) (Vif (Zcg b_A) (Need (Zbo sh b_B) (Need (Zcb sh b_B) (Q [[Cl.l [(Zw sh), (Zbq sh), (Zcq sh b_B v), (Zbt sh), (Zca sh), (Zcf sh), (Zcr sh)]]]))) (Vif (Zcm b_A) (Need (Zbp sh b_B) (Need (Zcn sh b_B) (Q [[Cl.l [(Zw sh), (Zbq sh), (Zbr sh), (Zdb sh b_B v), (Zca sh), (Zcf sh), (Zcr sh)]]]))) (Vif (Zcs b_A) (Need (Zbz sh b_B) (Need (Zcv sh b_B) (Q [[Cl.l [(Zw sh), (Zbq sh), (Zbr sh), (Zbt sh), [Cl.l (List.set (Zt sh).lst b_B.toNat [Cl.i v])], (Zcf sh), (Zcr sh)]]]))) (Vif (Zdi b_A) (Need (Zdd sh b_B) (Need (Zdo sh b_B) (Q [[Cl.l [(Zw sh), (Zbq sh), (Zbr sh), (Zbt sh), (Zca sh), [Cl.l (List.set (Zu sh).lst b_B.toNat [Cl.i v])], (Zcr sh)]]]))) (Need (decide (0 <= b_B) && decide (b_B < (↑(List.length (Zx sh).lst) : Int))) (Need (decide (b_B.toNat < List.length (Zx sh).lst)) (Q [[Cl.l [(Zw sh), (Zbq sh), (Zbr sh), (Zbt sh), (Zca sh), (Zcf sh), [Cl.l (List.set (Zx sh).lst b_B.toNat [Cl.i v])]]]])))))))))))))) (Need (decide (0 <= b_A) && decide (b_A < (↑(5+1) : Int))) (Vif (Zbu b_A) (Need (Zv sh b_B) (Need (Zbj sh b_B) (Q [[Cl.l [(Zbk sh b_B v), (Zbq sh), (Zbr sh), (Zbt sh), (Zca sh), (Zcf sh)]]]))) (Vif (Zcd b_A) (Need (Zbi sh b_B) (Need (Zbs sh b_B) (Q [[Cl.l [(Zw sh), (Zcc sh b_B v), (Zbr sh), (Zbt sh), (Zca sh), (Zcf sh)]]]))) (Vif (Zcg b_A) (Need (Zbo sh b_B) (Need (Zcb sh b_B) (Q [[Cl.l [(Zw sh), (Zbq sh), (Zcq sh b_B v), (Zbt sh), (Zca sh), (Zcf sh)]]]))) (Vif (Zcm b_A) (Need (Zbp sh b_B) (Need (Zcn sh b_B) (Q [[Cl.l [(Zw sh), (Zbq sh), (Zbr sh), (Zdb sh b_B v), (Zca sh), (Zcf sh)]]]))) (Vif (Zcs b_A) (Need (Zbz sh b_B) (Need (Zcv sh b_B) (Q [[Cl.l [(Zw sh), (Zbq sh), (Zbr sh), (Zbt sh), [Cl.l (List.set (Zt sh).lst b_B.toNat [Cl.i v])], (Zcf sh)]]]))) (Need (Zdd sh b_B) (Need (Zdo sh b_B) (Q [[Cl.l [(Zw sh), (Zbq sh), (Zbr sh), (Zbt sh), (Zca sh), [Cl.l (List.set (Zu sh).lst b_B.toNat [Cl.i v])]]]]))))))))))))) (Need (decide (0 <= b_A) && decide (b_A < (↑(4+1) : Int))) (Vif (Zbu b_A) (Need (Zv sh b_B) (Need (Zbj sh b_B) (Q [[Cl.l [(Zbk sh b_B v), (Zbq sh), (Zbr sh), (Zbt sh), (Zca sh)]]]))) (Vif (Zcd b_A) (Need (Zbi sh b_B) (Need (Zbs sh b_B) (Q [[Cl.l [(Zw sh), (Zcc sh b_B v), (Zbr sh), (Zbt sh), (Zca sh)]]]))) (Vif (Zcg b_A) (Need (Zbo sh b_B) (Need (Zcb sh b_B) (Q [[Cl.l [(Zw sh), (Zbq sh), (Zcq sh b_B v), (Zbt sh), (Zca sh)]]]))) (Vif (Zcm b_A) (Need (Zbp sh b_B) (Need (Zcn sh b_B) (Q [[Cl.l [(Zw sh), (Zbq sh), (Zbr sh), (Zdb sh b_B v), (Zca sh)]]]))) (Need (Zbz sh b_B) (Need (Zcv sh b_B) (Q [[Cl.l [(Zw sh), (Zbq sh), (Zbr sh), (Zbt sh), [Cl.l (List.set (Zt sh).lst b_B.toNat [Cl.i v])]]]])))))))))))) (Need (decide (0 <= b_A) && decide (b_A < (↑(3+1) : Int))) (Vif (Zbu b_A) (Need (Zv sh b_B) (Need (Zbj sh b_B) (Q [[Cl.l [(Zbk sh b_B v), (Zbq sh), (Zbr sh), (Zbt sh)]]]))) (Vif (Zcd b_A) (Need (Zbi sh b_B) (Need (Zbs sh b_B) (Q [[Cl.l [(Zw sh), (Zcc sh b_B v), (Zbr sh), (Zbt sh)]]]))) (Vif (Zcg b_A) (Need (Zbo sh b_B) (Need (Zcb sh b_B) (Q [[Cl.l [(Zw sh), (Zbq sh), (Zcq sh b_B v), (Zbt sh)]]]))) (Need (Zbp sh b_B) (Need (Zcn sh b_B) (Q [[Cl.l [(Zw sh), (Zbq sh), (Zbr sh), (Zdb sh b_B v)]]]))))))))))) (Need (decide (0 <= b_A) && decide (b_A < (↑(2+1) : Int))) (Vif (Zbu b_A) (Need (Zv sh b_B) (Need (Zbj sh b_B) (Q [[Cl.l [(Zbk sh b_B v), (Zbq sh), (Zbr sh)]]]))) (Vif (Zcd b_A) (Need (Zbi sh b_B) (Need (Zbs sh b_B) (Q [[Cl.l [(Zw sh), (Zcc sh b_B v), (Zbr sh)]]]))) (Need (Zbo sh b_B) (Need (Zcb sh b_B) (Q [[Cl.l [(Zw sh), (Zbq sh), (Zcq sh b_B v)]]])))))))))) (Need (decide (0 <= b_A) && decide (b_A < (↑(1+1) : Int))) (Vif (Zbu b_A) (Need (Zv sh b_B) (Need (Zbj sh b_B) (Q [[Cl.l [(Zbk sh b_B v), (Zbq sh)]]]))) (Need (Zbi sh b_B) (Need (Zbs sh b_B) (Q [[Cl.l [(Zw sh), (Zcc sh b_B v)]]]))))))))) (Need (decide (0 <= b_A) && decide (b_A < (↑(1 : Nat) : Int))) (Need (Zv sh b_B) (Need (Zbj sh b_B) (Q [[Cl.l [(Zbk sh b_B v)]]])))))))) (false = false /\ False)
theorem Xmd (W : InW) (sh b_A b_B v Q) : Ywt (cxT Try.prog TT T18 1000 50) 1000 47 [.rs _ sh, .agg [.si .i64 b_A, .si .i64 b_B], .si .i64 v] [] 0 (Y02 [(false, [.fro [.sl Jc]])] Q) (fun _ _ _ _ => Stuck 421) = Xdl sh b_A b_B v Q := by kernel_rfl
abbrev Xb6 : List AT := [.one (.sl Jb), .agg [.int .i64, .int .i64], .one (.int .i64)]
theorem Xn4 {pre : DS -> Prop} {res : DS -> DS} (hyp_ : ∀ (W : InW) (sh : Ro Jb) (b_A b_B v : Int), pre [[.l sh.xs], [.i b_A, .i b_B], [.i v]] -> ∀ Q : DS -> Prop, Q (res [[.l sh.xs], [.i b_A, .i b_B], [.i v]]) -> Xdl sh b_A b_B v Q) : PureOk Try.prog 47 Xb6 [(false, [.fro [.sl Jc]])] pre res :=
 PureOk.of' (fun W => @TT W) (fun W => @Xe W) Xa T18 1000 50 fun W sh b_A b_B v hp =>
  (Xmd W sh b_A b_B v (fun o => o = res [[.l sh.xs], [.i b_A, .i b_B], [.i v]])).mpr (hyp_ W sh b_A b_B v hp _ rfl)
abbrev Xfu (ds : DS) : DS := match ds with | [[.l sh], [.i q, .i j], [.i v]] => [[.l (Sp.withD sh q.toNat j.toNat v)]] | _ => []
abbrev Xfy (ds : DS) : Prop := match ds with | [[.l sh], [.i q, .i j], [.i v]] => Sp.Few sh /\ (0 <= q /\ q < sh.length) /\ 0 <= j /\ j < (Sp.row sh q.toNat).length | _ => False
theorem Xf [InW] {sh : Dt} {q j v : Int} {Q : DS -> Prop} {n : Nat} (m : Nat) (hq : q = (m : Int)) (h5 : 0 <= j) (h6 : j < (Sp.row sh q.toNat).length) {R : Dt} (h : Q [[.l (Sp.withR sh q.toNat j.toNat v 0 n)]]) (e : Sp.withR sh m j.toNat v 0 n = R) :
  Need (decide (0 <= j) && decide (j < ((Sp.row sh m).length : Int))) (Need (decide (j.toNat < (Sp.row sh m).length)) (Q [[.l R]])) := by
 subst hq;rw [Int.toNat_natCast] at h6 h;rw [e] at h;exact ned (by simp only [Bool.and_eq_true, decide_eq_true_eq]; exact ⟨h5, h6⟩) (nedd (by omega) h)
theorem Xo7 : PureOk Try.prog 47 Xb6 [(false, [.fro [.sl Jc]])] Xfy Xfu :=
 Xn4 fun W sh q j v hp Q h => by
  obtain ⟨⟨h1, h2⟩, ⟨h3, h4⟩, h5, h6⟩ : Sp.Few sh.xs /\ (0 <= q /\ q < sh.xs.length) /\ 0 <= j /\ j < (Sp.row sh.xs q.toNat).length := hp;have h : Q [[.l (Sp.withR sh.xs q.toNat j.toNat v 0 sh.xs.length)]] := h;unfold Xdl;delta Zbk Zbj Zv Zcc Zw Zbs Zbi Zbq Zcq Zcb Zbo Zbr Zdb Zcn Zbp Zbt Zcv Zbz Zca Zdo Zdd Zcf Zcr Zcp Zbm Zco Zda Zbg Zbf Zbe Zbd Zbc Zj Zi Zcu Zby Zbh Zct Zbx Zbw Zcz Zbv Zcy Zcx Zcw Zdn Zcl Zbl Zdm Zdl Zdk Zck Zdj Zcj Zci Zdp Zch Zdc Zo Zce Zde Ze Zp Zbu Zq Zr Zt Zu Zx Zf Zdg Zg Zh Zk Zm Zl Zz Zbb Zdh Zn Zbn Zs Zy Zd Zb Zcd Zcg Zcm Zcs Zdi Zdf Zba;simp only [Nat.zero_add, Nat.reduceAdd, Int.ofNat_eq_natCast, Int.toNat_natCast, show Int.toNat 0 = 0 from rfl, show ∀ k, (cel sh.xs k 0).lst = Sp.row sh.xs k from fun _ => rfl];have hb : ∀ k, (Sp.row sh.xs k).length <= 4 := fun k => by
   rcases Nat.lt_or_ge k sh.xs.length with a | a
   ·exact h2 k a
   ·have : Sp.row sh.xs k = [] := by unfold Sp.row cel; rw [List.getD_eq_getElem?_getD (l := sh.xs), List.getElem?_eq_none a]; rfl
    rw [this]; simp
  refine vifd (fun e => ?_) fun e => by omega
  have b0 := hb 0;refine ned (by simp only [Bool.and_eq_true, decide_eq_true_eq]; omega) (nedd (by omega) (nedd (by omega) ?_));refine vifd (fun e => ?_) fun e => ?_
  rotate_left
  ·rw [show sh.xs.length = 1 by omega] at h;refine ned (by simp only [Bool.and_eq_true, decide_eq_true_eq]; omega) ?_;exact Xf 0 (by omega) h5 h6 h rfl
  have b1 := hb 1;refine ned (by simp only [Bool.and_eq_true, decide_eq_true_eq]; omega) (nedd (by omega) (nedd (by omega) ?_));refine vifd (fun e => ?_) fun e => ?_
  rotate_left
  ·rw [show sh.xs.length = 2 by omega] at h;refine ned (by simp only [Bool.and_eq_true, decide_eq_true_eq]; omega) ?_
   iterate 1 refine vifd (fun e => Xf _ e h5 h6 h rfl) fun _ => ?_
   exact Xf 1 (by omega) h5 h6 h rfl
  have b2 := hb 2;refine ned (by simp only [Bool.and_eq_true, decide_eq_true_eq]; omega) (nedd (by omega) (nedd (by omega) ?_));refine vifd (fun e => ?_) fun e => ?_
  rotate_left
  ·rw [show sh.xs.length = 3 by omega] at h;refine ned (by simp only [Bool.and_eq_true, decide_eq_true_eq]; omega) ?_
   iterate 2 refine vifd (fun e => Xf _ e h5 h6 h rfl) fun _ => ?_
   exact Xf 2 (by omega) h5 h6 h rfl
  have b3 := hb 3;refine ned (by simp only [Bool.and_eq_true, decide_eq_true_eq]; omega) (nedd (by omega) (nedd (by omega) ?_));refine vifd (fun e => ?_) fun e => ?_
  rotate_left
  ·rw [show sh.xs.length = 4 by omega] at h;refine ned (by simp only [Bool.and_eq_true, decide_eq_true_eq]; omega) ?_
   iterate 3 refine vifd (fun e => Xf _ e h5 h6 h rfl) fun _ => ?_
   exact Xf 3 (by omega) h5 h6 h rfl
  have b4 := hb 4;refine ned (by simp only [Bool.and_eq_true, decide_eq_true_eq]; omega) (nedd (by omega) (nedd (by omega) ?_));refine vifd (fun e => ?_) fun e => ?_
  rotate_left
  ·rw [show sh.xs.length = 5 by omega] at h;refine ned (by simp only [Bool.and_eq_true, decide_eq_true_eq]; omega) ?_
   iterate 4 refine vifd (fun e => Xf _ e h5 h6 h rfl) fun _ => ?_
   exact Xf 4 (by omega) h5 h6 h rfl
  have b5 := hb 5;refine ned (by simp only [Bool.and_eq_true, decide_eq_true_eq]; omega) (nedd (by omega) (nedd (by omega) ?_));refine vifd (fun e => ?_) fun e => ?_
  rotate_left
  ·rw [show sh.xs.length = 6 by omega] at h;refine ned (by simp only [Bool.and_eq_true, decide_eq_true_eq]; omega) ?_
   iterate 5 refine vifd (fun e => Xf _ e h5 h6 h rfl) fun _ => ?_
   exact Xf 5 (by omega) h5 h6 h rfl
  have b6 := hb 6;refine ned (by simp only [Bool.and_eq_true, decide_eq_true_eq]; omega) (nedd (by omega) (nedd (by omega) ?_));refine vifd (fun e => ?_) fun e => ?_
  rotate_left
  ·rw [show sh.xs.length = 7 by omega] at h;refine ned (by simp only [Bool.and_eq_true, decide_eq_true_eq]; omega) ?_
   iterate 6 refine vifd (fun e => Xf _ e h5 h6 h rfl) fun _ => ?_
   exact Xf 6 (by omega) h5 h6 h rfl
  have b7 := hb 7;refine ned (by simp only [Bool.and_eq_true, decide_eq_true_eq]; omega) (nedd (by omega) (nedd (by omega) ?_));refine vifd (fun e => ?_) fun e => ?_
  rotate_left
  ·rw [show sh.xs.length = 8 by omega] at h;refine ned (by simp only [Bool.and_eq_true, decide_eq_true_eq]; omega) ?_
   iterate 7 refine vifd (fun e => Xf _ e h5 h6 h rfl) fun _ => ?_
   exact Xf 7 (by omega) h5 h6 h rfl
  have b8 := hb 8;refine ned (by simp only [Bool.and_eq_true, decide_eq_true_eq]; omega) (nedd (by omega) (nedd (by omega) ?_));refine vifd (fun e => ?_) fun e => ?_
  rotate_left
  ·rw [show sh.xs.length = 9 by omega] at h;refine ned (by simp only [Bool.and_eq_true, decide_eq_true_eq]; omega) ?_
   iterate 8 refine vifd (fun e => Xf _ e h5 h6 h rfl) fun _ => ?_
   exact Xf 8 (by omega) h5 h6 h rfl
  have b9 := hb 9;refine ned (by simp only [Bool.and_eq_true, decide_eq_true_eq]; omega) (nedd (by omega) (nedd (by omega) ?_));refine vifd (fun e => ?_) fun e => ?_
  rotate_left
  ·rw [show sh.xs.length = 10 by omega] at h;refine ned (by simp only [Bool.and_eq_true, decide_eq_true_eq]; omega) ?_
   iterate 9 refine vifd (fun e => Xf _ e h5 h6 h rfl) fun _ => ?_
   exact Xf 9 (by omega) h5 h6 h rfl
  have b10 := hb 10;refine ned (by simp only [Bool.and_eq_true, decide_eq_true_eq]; omega) (nedd (by omega) (nedd (by omega) ?_));refine vifd (fun e => ?_) fun e => ?_
  rotate_left
  ·rw [show sh.xs.length = 11 by omega] at h;refine ned (by simp only [Bool.and_eq_true, decide_eq_true_eq]; omega) ?_
   iterate 10 refine vifd (fun e => Xf _ e h5 h6 h rfl) fun _ => ?_
   exact Xf 10 (by omega) h5 h6 h rfl
  have b11 := hb 11;refine ned (by simp only [Bool.and_eq_true, decide_eq_true_eq]; omega) (nedd (by omega) (nedd (by omega) ?_));refine vifd (fun e => ?_) fun e => ?_
  rotate_left
  ·rw [show sh.xs.length = 12 by omega] at h;refine ned (by simp only [Bool.and_eq_true, decide_eq_true_eq]; omega) ?_
   iterate 11 refine vifd (fun e => Xf _ e h5 h6 h rfl) fun _ => ?_
   exact Xf 11 (by omega) h5 h6 h rfl
  omega
def Xh9 : PC Try.prog := ⟨47, Xb6, [(false, [.fro [.sl Jc]])], Xfy, Xfu, Xo7⟩
namespace Sp
def prow (d : Dt) (i : Nat) : Nat -> Nat -> List (Nat × Nat)
 | _, 0 => []
 | j, n + 1 => (if bx d j = 2 then [(i, j)] else []) ++ prow d i (j + 1) n
def pall (sh : Dt) : Nat -> Nat -> List (Nat × Nat)
 | _, 0 => []
 | i, n + 1 => prow (row sh i) i 0 (row sh i).length ++ pall sh (i + 1) n
def pos (sh : Dt) : List (Nat × Nat) := pall sh 0 sh.length
def prC (p : Nat × Nat) : List Cl := [.i p.1, .i p.2]
theorem unsRow_pos (d : Dt) (i : Nat) : ∀ n j, unsRow d i j n = (prow d i j n).map prC
 | 0, _ => rfl
 | n + 1, j => by
  simp only [unsRow, prow, List.map_append, unsRow_pos d i n]
  split <;> rfl
theorem unsAll_pos (sh : Dt) : ∀ n i, unsAll sh i n = (pall sh i n).map prC
 | 0, _ => rfl
 | n + 1, i => by simp only [unsAll, pall, List.map_append, unsAll_pos sh n, unsRow_pos]
theorem uns_pos (sh : Dt) : uns sh = (pos sh).map prC := unsAll_pos sh _ _
theorem uns_len (sh : Dt) : (uns sh).length = (pos sh).length := by rw [uns_pos, List.length_map]
theorem mem_prow {d : Dt} {i : Nat} {p : Nat × Nat} : ∀ {n j : Nat}, p ∈ prow d i j n ↔ p.1 = i /\ j <= p.2 /\ p.2 < j + n /\ bx d p.2 = 2
 | 0, j => by simp [prow]; omega
 | n + 1, j => by
  simp only [prow, List.mem_append, mem_prow (n := n)]
  by_cases e : bx d j = 2
  ·simp only [e, if_true, List.mem_singleton];constructor
   ·rintro (h | ⟨h1, h2, h3, h4⟩)
    ·subst h; exact ⟨rfl, Nat.le_refl _, by show j < _; omega, e⟩
    ·exact ⟨h1, by omega, by omega, h4⟩
   ·rintro ⟨h1, h2, h3, h4⟩;rcases Nat.eq_or_lt_of_le h2 with c | c
    ·exact .inl (Prod.ext h1 c.symm)
    ·exact .inr ⟨h1, by omega, by omega, h4⟩
  ·simp only [e, if_false, List.not_mem_nil, false_or];constructor
   ·rintro ⟨h1, h2, h3, h4⟩;exact ⟨h1, by omega, by omega, h4⟩
   ·rintro ⟨h1, h2, h3, h4⟩;rcases Nat.eq_or_lt_of_le h2 with c | c
    ·exact absurd (c ▸ h4) e
    ·exact ⟨h1, by omega, by omega, h4⟩
theorem mem_pall {sh : Dt} {p : Nat × Nat} : ∀ {n i : Nat}, p ∈ pall sh i n ↔ i <= p.1 /\ p.1 < i + n /\ p.2 < (row sh p.1).length /\ bx (row sh p.1) p.2 = 2
 | 0, i => by simp [pall]; omega
 | n + 1, i => by
  simp only [pall, List.mem_append, mem_pall (n := n), mem_prow];constructor
  ·rintro (⟨h1, h2, h3, h4⟩ | ⟨h1, h2, h3, h4⟩)
   ·subst h1; exact ⟨Nat.le_refl _, by omega, by omega, h4⟩
   ·exact ⟨by omega, by omega, h3, h4⟩
  ·rintro ⟨h1, h2, h3, h4⟩;rcases Nat.eq_or_lt_of_le h1 with c | c
   ·left; rw [c]; exact ⟨rfl, by omega, by omega, h4⟩
   ·right; exact ⟨by omega, by omega, h3, h4⟩
theorem mem_pos {sh : Dt} {p : Nat × Nat} : p ∈ pos sh ↔ p.1 < sh.length /\ p.2 < (row sh p.1).length /\ bx (row sh p.1) p.2 = 2 := by
 unfold pos; rw [mem_pall]; constructor
 ·rintro ⟨_, h2, h3⟩; exact ⟨by omega, h3⟩
 ·rintro ⟨h2, h3⟩; exact ⟨Nat.zero_le _, by omega, h3⟩
theorem prow_nd (d : Dt) (i : Nat) : ∀ n j, (prow d i j n).Nodup
 | 0, _ => List.nodup_nil
 | n + 1, j => by
  simp only [prow]
  split
  ·refine List.nodup_cons.2 ⟨fun h => ?_, prow_nd d i n (j + 1)⟩;have := (mem_prow.1 h).2.1;simp at this; omega
  ·exact prow_nd d i n (j + 1)
theorem pall_nd (sh : Dt) : ∀ n i, (pall sh i n).Nodup
 | 0, _ => List.nodup_nil
 | n + 1, i => by
  simp only [pall];refine List.nodup_append.2 ⟨prow_nd _ _ _ _, pall_nd sh n (i + 1), fun a ha b hb e => ?_⟩;subst e;have h1 := (mem_prow.1 ha).1;have h2 := (mem_pall.1 hb).1;omega
theorem pos_nd (sh : Dt) : (pos sh).Nodup := pall_nd _ _ _
theorem withR_len (sh : Dt) (q j : Nat) (v : Int) : ∀ n i, (withR sh q j v i n).length = n
 | 0, _ => rfl
 | n + 1, i => by simp [withR, withR_len sh q j v n]
theorem withD_len (sh : Dt) (q j : Nat) (v : Int) : (withD sh q j v).length = sh.length := withR_len _ _ _ _ _ _
theorem row_cons0 (a : Dt) (l : Dt) : row ([.l a] :: l) 0 = a := rfl
theorem row_consS (a : List Cl) (l : Dt) (k : Nat) : row (a :: l) (k + 1) = row l k := rfl
theorem withR_row (sh : Dt) (q j : Nat) (v : Int) : ∀ n i k, k < n -> row (withR sh q j v i n) k = if i + k = q then (row sh (i + k)).set j [.i v] else row sh (i + k)
 | 0, _, _, h => by omega
 | n + 1, i, 0, _ => by simp only [withR, row_cons0, Nat.add_zero]
 | n + 1, i, k + 1, h => by
  simp only [withR, row_consS];rw [withR_row sh q j v n (i + 1) k (by omega), show i + 1 + k = i + (k + 1) by omega]
theorem row_out {sh : Dt} {k : Nat} (h : sh.length <= k) : row sh k = [] := by
 unfold row cel;rw [List.getD_eq_getElem?_getD (l := sh), List.getElem?_eq_none h]; rfl
theorem withD_row (sh : Dt) (q j : Nat) (v : Int) (k : Nat) (hk : k < sh.length) : row (withD sh q j v) k = if k = q then (row sh k).set j [.i v] else row sh k := by
 unfold withD; rw [withR_row _ _ _ _ _ _ _ hk]; simp
theorem withD_rlen (sh : Dt) (q j : Nat) (v : Int) (k : Nat) : (row (withD sh q j v) k).length = (row sh k).length := by
 rcases Nat.lt_or_ge k sh.length with h | h
 ·rw [withD_row _ _ _ _ _ h]; split <;> simp
 ·rw [row_out h, row_out (by rw [withD_len]; exact h)]
theorem bx_set (d : Dt) (j k : Nat) (v : Int) (h : k < d.length) : bx (d.set j [.i v]) k = if k = j then v else bx d k := by
 unfold bx cel;rw [List.getD_eq_getElem?_getD (l := d.set j [.i v]), List.getElem?_set]
 by_cases e : j = k
 ·subst e; simp [h, Cl.int]
 ·simp [e, Ne.symm e]
theorem withD_bx (sh : Dt) (q j : Nat) (v : Int) (k b : Nat) (hk : k < sh.length) (hb : b < (row sh k).length) : bx (row (withD sh q j v) k) b = if (k, b) = (q, j) then v else bx (row sh k) b := by
 rw [withD_row _ _ _ _ _ hk]
 by_cases e : k = q
 ·subst e; rw [if_pos rfl, bx_set _ _ _ _ hb]; simp
 ·rw [if_neg e, if_neg (by simp [e])]
theorem prow_f {d d' : Dt} {i : Nat} {p : Nat × Nat} (h : ∀ j, j < d.length -> (bx d' j = 2 ↔ bx d j = 2 /\ (i, j) ≠ p)) : ∀ n j, j + n <= d.length -> prow d' i j n = (prow d i j n).filter (fun x => decide (x ≠ p))
 | 0, _, _ => rfl
 | n + 1, j, hj => by
  simp only [prow, List.filter_append, prow_f h n (j + 1) (by omega)];have := h j (by omega)
  by_cases e : bx d j = 2
  ·by_cases e2 : (i, j) = p
   ·rw [if_neg (fun c => (this.1 c).2 e2)]; simp [e, e2]
   ·rw [if_pos (this.2 ⟨e, e2⟩)]; simp [e, e2]
  ·rw [if_neg (fun c => e (this.1 c).1)]; simp [e]
theorem pos_with {sh : Dt} {q j : Nat} {v : Int} (hv : v ≠ 2) : pos (withD sh q j v) = (pos sh).filter (fun x => decide (x ≠ (q, j))) := by
 unfold pos;rw [withD_len]
 suffices h : ∀ n i, i + n <= sh.length -> pall (withD sh q j v) i n = (pall sh i n).filter (fun x => decide (x ≠ (q, j))) from h _ _ (by omega)
 intro n
 induction n with
 | zero => intro i _; rfl
 | succ n ih =>
  intro i hi;simp only [pall, List.filter_append, ih (i + 1) (by omega), withD_rlen];rw [prow_f (d := row sh i) (p := (q, j)) (fun b hb => ?_) _ _ (by omega)];rw [withD_bx _ _ _ _ _ _ (by omega) hb]
  by_cases e : (i, b) = (q, j)
  ·rw [if_pos e]; simp [e, hv]
  ·rw [if_neg e]; simp [e]
theorem filter_ne_tl {p : Nat × Nat} : ∀ {l : List (Nat × Nat)}, p ∉ l -> l.filter (fun x => decide (x ≠ p)) = l
 | [], _ => rfl
 | a :: l, h => by
  have h1 : a ≠ p := fun e => h (e ▸ List.mem_cons_self);have h2 : p ∉ l := fun e => h (List.mem_cons_of_mem _ e);simp [h1];intro a b c d;exact h2 (d ▸ c)
theorem filter_ne_len {p : Nat × Nat} : ∀ {l : List (Nat × Nat)}, l.Nodup -> p ∈ l -> (l.filter (fun x => decide (x ≠ p))).length + 1 = l.length
 | [], _, h => by simp at h
 | a :: l, hn, h => by
  have hn := List.nodup_cons.1 hn
  by_cases e : a = p
  ·subst e;rw [List.filter_cons_of_neg (by simp), filter_ne_tl hn.1, List.length_cons]
  ·rw [List.filter_cons_of_pos (by simpa using e), List.length_cons, filter_ne_len hn.2 ((List.mem_cons.1 h).resolve_left fun c => e c.symm), List.length_cons]
theorem pos_with_len {sh : Dt} {q j : Nat} {v : Int} (hv : v ≠ 2) (h : (q, j) ∈ pos sh) : (pos (withD sh q j v)).length + 1 = (pos sh).length := by
 rw [pos_with hv, filter_ne_len (pos_nd sh) h]
theorem pos_with_tl {sh : Dt} {p : Nat × Nat} {ps : List (Nat × Nat)} {v : Int} (hv : v ≠ 2) (h : pos sh = p :: ps) : pos (withD sh p.1 p.2 v) = ps := by
 have hn := pos_nd sh;rw [h] at hn;rw [pos_with hv, h, List.filter_cons_of_neg (by simp), filter_ne_tl (List.nodup_cons.1 hn).1]
theorem Few.withD {sh : Dt} (h : Few sh) (q j : Nat) (v : Int) : Few (withD sh q j v) := by
 refine ⟨by rw [withD_len]; exact h.1, fun i hi => ?_⟩;rw [withD_rlen];rw [withD_len] at hi;exact h.2 i hi
theorem ShapeOk.withD {qs sh : Dt} (h : ShapeOk qs sh) {q j : Nat} {v : Int} (hv : 0 <= v /\ v <= 2) : ShapeOk qs (withD sh q j v) := by
 have hl := h.n;refine ⟨by rw [withD_len]; exact hl, fun i hi => by rw [withD_rlen]; exact h.row_ i hi, fun i b hi hb => ?_⟩;rw [withD_rlen] at hb;rw [withD_bx _ _ _ _ _ _ (by omega) hb]
 split
 ·exact hv
 ·exact h.val i b hi hb
def rdL : Nat -> Dt -> List Dt
 | 0, sh => [sh]
 | n + 1, sh => match pos sh with
  | [] => [sh]
  | p :: _ => rdL n (withD sh p.1 p.2 0) ++ rdL n (withD sh p.1 p.2 1)
def rds (sh : Dt) : List Dt := rdL (pos sh).length sh
def shC (sh : Dt) : List Cl := [.l sh]
def rdD (sh : Dt) : Dt := (rds sh).map shC
theorem rds_nil {sh : Dt} (h : pos sh = []) : rds sh = [sh] := by unfold rds; rw [h]; rfl
theorem rds_cons {sh : Dt} {p : Nat × Nat} {ps : List (Nat × Nat)} (h : pos sh = p :: ps) : rds sh = rds (withD sh p.1 p.2 0) ++ rds (withD sh p.1 p.2 1) := by
 unfold rds;rw [pos_with_tl (by decide) h, pos_with_tl (by decide) h, h];simp only [List.length_cons, rdL, h]
theorem rdL_len : ∀ n sh, (pos sh).length = n -> (rdL n sh).length = 2 ^ n
 | 0, _, _ => rfl
 | n + 1, sh, h => by
  obtain ⟨p, ps, e⟩ : ∃ p ps, pos sh = p :: ps := by
   cases hp : pos sh with
   | nil => rw [hp] at h; simp at h
   | cons p ps => exact ⟨p, ps, rfl⟩
  rw [e] at h;simp only [rdL, e];rw [List.length_append, rdL_len n _ (by rw [pos_with_tl (by decide) e]; simpa using h), rdL_len n _ (by rw [pos_with_tl (by decide) e]; simpa using h), Nat.pow_succ];omega
theorem rds_len (sh : Dt) : (rds sh).length = 2 ^ (pos sh).length := rdL_len _ sh rfl
theorem rds_ind {P : Dt -> Prop} {sh : Dt} (h0 : P sh) (hs : ∀ s q j v, P s -> (q, j) ∈ pos s -> v = 0 \/ v = 1 -> P (withD s q j v)) : ∀ r ∈ rds sh, P r := by
 suffices h : ∀ n s, (pos s).length = n -> P s -> ∀ r ∈ rds s, P r from h _ sh rfl h0
 intro n
 induction n with
 | zero =>
  intro s hl hp r hr;rw [rds_nil (List.length_eq_zero_iff.1 hl), List.mem_singleton] at hr;exact hr ▸ hp
 | succ n ih =>
  intro s hl hp r hr;cases e : pos s with
  | nil => rw [e] at hl; simp at hl
  | cons p ps =>
   rw [rds_cons e, List.mem_append] at hr;have hm : (p.1, p.2) ∈ pos s := by rw [e]; exact List.mem_cons_self
   rw [e] at hl;rcases hr with hr | hr
   ·exact ih _ (by rw [pos_with_tl (by decide) e]; simpa using hl) (hs _ _ _ _ hp hm (.inl rfl)) r hr
   ·exact ih _ (by rw [pos_with_tl (by decide) e]; simpa using hl) (hs _ _ _ _ hp hm (.inr rfl)) r hr
theorem rds_sure {sh : Dt} : ∀ r ∈ rds sh, pos r = [] := by
 suffices h : ∀ n s, (pos s).length = n -> ∀ r ∈ rds s, pos r = [] from h _ sh rfl
 intro n
 induction n with
 | zero =>
  intro s hl r hr;have hl := List.length_eq_zero_iff.1 hl;rw [rds_nil hl, List.mem_singleton] at hr;rw [hr]; exact hl
 | succ n ih =>
  intro s hl r hr;cases e : pos s with
  | nil => rw [e] at hl; simp at hl
  | cons p ps =>
   rw [rds_cons e, List.mem_append] at hr;rw [e] at hl;rcases hr with hr | hr
   ·exact ih _ (by rw [pos_with_tl (by decide) e]; simpa using hl) r hr
   ·exact ih _ (by rw [pos_with_tl (by decide) e]; simpa using hl) r hr
theorem rds_shape {sh : Dt} : ∀ r ∈ rds sh, r.length = sh.length /\ ∀ i, (row r i).length = (row sh i).length :=
 rds_ind (P := fun r => r.length = sh.length /\ ∀ i, (row r i).length = (row sh i).length) ⟨rfl, fun _ => rfl⟩ fun s q j v h _ _ => ⟨by rw [withD_len]; exact h.1, fun i => by rw [withD_rlen]; exact h.2 i⟩
end Sp
set_option maxHeartbeats 1600000
namespace Sp
def RdgOk (n : Nat) (sh : Dt) : Prop := Few sh /\ (pos sh).length < n /\ n <= 8
end Sp
abbrev Xi4 : List AT := [.one (.sl Jb)]
abbrev Xh2 : RTs := [(false, [.nst 26 [.sl Jb]])]
abbrev Xc7 (ds : DS) : DS := match ds with | [[.l sh]] => [[.l (Sp.rdD sh)]] | _ => []
abbrev Xb2 (n : Nat) (ds : DS) : Prop := match ds with | [[.l sh]] => Sp.RdgOk n sh | _ => False
def Xje (n : Nat) : Prop := PureOk Try.prog 44 Xi4 Xh2 (Xb2 n) Xc7
def Trd (n : Nat) (h : Xje n) : Tab Try.prog := ⟨[Xfz, Xh9, ⟨44, Xi4, Xh2, Xb2 n, Xc7, h⟩], [], []⟩
def Zdq [W : InW] (sh : Ro Jb) := Sp.Few sh.xs /\ (Zb <= (cel (Sp.uns sh.xs) Za Zd).int /\ (cel (Sp.uns sh.xs) Za Zd).int < (↑(sh.xs.length) : Int)) /\ Zb <= (cel (Sp.uns sh.xs) Za (0+1)).int /\ (cel (Sp.uns sh.xs) Za (0+1)).int < (↑(List.length (Sp.row sh.xs (cel (Sp.uns sh.xs) Za Zd).int.toNat)) : Int)
def Zdr [W : InW] (sh : Ro Jb) := Sp.withD sh.xs (cel (Sp.uns sh.xs) Za Zd).int.toNat (cel (Sp.uns sh.xs) Za (0+1)).int.toNat Zb
def Zds [W : InW] (sh : Ro Jb) := Sp.withD sh.xs (cel (Sp.uns sh.xs) Za Zd).int.toNat (cel (Sp.uns sh.xs) Za (0+1)).int.toNat (1 : Int)
def Xci [W : InW] (n : Nat) (sh : Ro Jb) (Q : DS -> Prop) : Prop :=
 Pre (Sp.Few sh.xs) (Vif (decide ((↑(List.length (Sp.uns sh.xs)) : Int) = 0)) (Q [[Cl.l [[Cl.l sh.xs]]]]) (Need (decide (Zb <= 0) && decide (Zb < (↑(List.length (Sp.uns sh.xs)) : Int))) (Need (decide (Int.toNat Zb < List.length (Sp.uns sh.xs))) (Pre (Zdq sh) (Pre (Sp.RdgOk n (Zdr sh)) (Need (decide (Zb <= 0) && decide (Zb < (↑(List.length (Sp.uns sh.xs)) : Int))) (Need (decide (Int.toNat Zb < List.length (Sp.uns sh.xs))) (Pre (Zdq sh) (Pre (Sp.RdgOk n (Zds sh)) (Need (decide ((List.length (Sp.rdD (Zdr sh)) + List.length (Sp.rdD (Zds sh))) * 24 <= 140737488355328)) (Q [[Cl.l (Sp.rdD (Zdr sh) ++ Sp.rdD (Zds sh))]])))))))))))
theorem Xme (W : InW) (n h sh Q) : Ywt (cxT Try.prog TT (Trd n h) 1000 50) 1000 44 [.rs _ sh] [] 0 (Y02 [(false, [.nst 26 [.sl Jb]])] Q) (fun _ _ _ _ => Stuck 421) = Xci n sh Q := by kernel_rfl
abbrev Xkx : List AT := [.one (.sl Jb)]
theorem Xn5 (n : Nat) (h : Xje n) {pre : DS -> Prop} {res : DS -> DS} (hyp_ : ∀ (W : InW) (sh : Ro Jb), pre [[.l sh.xs]] -> ∀ Q : DS -> Prop, Q (res [[.l sh.xs]]) -> Xci n sh Q) : PureOk Try.prog 44 Xkx [(false, [.nst 26 [.sl Jb]])] pre res :=
 PureOk.of' (fun W => @TT W) (fun W => @Xe W) Xa (Trd n h) 1000 50 fun W sh hp =>
  (Xme W n h sh (fun o => o = res [[.l sh.xs]])).mpr (hyp_ W sh hp _ rfl)
theorem Xjy [W : InW] (n : Nat) (sh : Ro Jb) (Q : DS -> Prop) (hf : Sp.Few sh.xs) (hn : (Sp.pos sh.xs).length < n + 1) (h7 : n + 1 <= 8) (h : Q [[.l (Sp.rdD sh.xs)]]) : Xci n sh Q := by
 unfold Xci;delta Zds Zdr Zdq Za Zb Zd;simp only [show Int.toNat 0 = 0 from rfl, Nat.zero_add];refine ⟨hf, vifd (fun e => ?_) fun e => ?_⟩
 ·have e1 : Sp.pos sh.xs = [] := List.length_eq_zero_iff.1 (by rw [<- Sp.uns_len]; omega);rw [show Sp.rdD sh.xs = [[.l sh.xs]] by unfold Sp.rdD; rw [Sp.rds_nil e1]; rfl] at h;exact h
 ·obtain ⟨p, ps, e1⟩ : ∃ p ps, Sp.pos sh.xs = p :: ps := by
   cases hp : Sp.pos sh.xs with
   | nil => rw [Sp.uns_len, hp] at e; simp at e
   | cons p ps => exact ⟨p, ps, rfl⟩
  have e2 : Sp.uns sh.xs = Sp.prC p :: ps.map Sp.prC := by rw [Sp.uns_pos, e1]; rfl
  have c0 : (cel (Sp.uns sh.xs) 0 0).int = p.1 := by rw [e2]; rfl
  have c1 : (cel (Sp.uns sh.xs) 0 1).int = p.2 := by rw [e2]; rfl
  have hm := Sp.mem_pos.1 (show p ∈ Sp.pos sh.xs by rw [e1]; exact List.mem_cons_self);have hl : 0 < (Sp.uns sh.xs).length := by rw [e2]; simp
  simp only [c0, c1, Int.toNat_natCast];have t0 : (Sp.pos (Sp.withD sh.xs p.1 p.2 0)).length < n := by rw [Sp.pos_with_tl (by decide) e1]; rw [e1] at hn; simpa using hn
  have t1 : (Sp.pos (Sp.withD sh.xs p.1 p.2 1)).length < n := by rw [Sp.pos_with_tl (by decide) e1]; rw [e1] at hn; simpa using hn
  have b : ∀ s, (Sp.pos s).length < n -> (Sp.rdD s).length <= 64 := fun s hs => by
   unfold Sp.rdD;rw [List.length_map, Sp.rds_len];exact Nat.le_trans (Nat.pow_le_pow_right (by decide) (show (Sp.pos s).length <= 6 by omega)) (by decide)
  have b0 := b _ t0;have b1 := b _ t1;refine nedd (by omega) (nedd (by omega) ⟨⟨hf, by omega, by omega, by omega⟩, ⟨hf.withD _ _ _, t0, by omega⟩, nedd (by omega) (nedd (by omega) ⟨⟨hf, by omega, by omega, by omega⟩, ⟨hf.withD _ _ _, t1, by omega⟩, ?_⟩)⟩);rw [show Sp.rdD sh.xs = Sp.rdD (Sp.withD sh.xs p.1 p.2 0) ++ Sp.rdD (Sp.withD sh.xs p.1 p.2 1) by unfold Sp.rdD; rw [Sp.rds_cons e1, List.map_append]] at h;exact nedd (by omega) h
theorem Xo2 : ∀ n, Xje n
 | 0 => fun W args ds _ hp => by
  exfalso;unfold Xb2 at hp
  split at hp
  ·exact absurd hp.2.1 (Nat.not_lt_zero _)
  ·exact hp
 | n + 1 => Xn5 n (Xo2 n) fun W sh hp Q h => Xjy n sh Q hp.1 hp.2.1 hp.2.2 h
def Xo4 : PC Try.prog := ⟨44, Xi4, Xh2, Xb2 8, Xc7, Xo2 8⟩
namespace Sp
def psS (qs ps : Dt) (all : Int) (sh : Dt) : Bool := passOf all ps (mk qs ps sh)
def psI (qs ps : Dt) (all : Int) (rs : Dt) (i : Nat) : Bool := psS qs ps all (row rs i)
def anyP (qs ps : Dt) (all : Int) (rs : Dt) : Bool := anyF (psI qs ps all rs) 0 rs.length
def allP (qs ps : Dt) (all : Int) (rs : Dt) : Bool := allF (psI qs ps all rs) 0 rs.length
theorem rdD_len (sh : Dt) : (rdD sh).length = 2 ^ (pos sh).length := by unfold rdD; rw [List.length_map, rds_len]
theorem rdD_row {sh : Dt} {k : Nat} (h : k < (rdD sh).length) : ∃ h2 : k < (rds sh).length, row (rdD sh) k = (rds sh)[k] := by
 have h2 : k < (rds sh).length := by unfold rdD at h; simpa using h
 refine ⟨h2, ?_⟩;unfold row cel rdD;rw [List.getD_eq_getElem?_getD (l := (rds sh).map shC), List.getElem?_map, List.getElem?_eq_getElem h2];rfl
def ocV (qs ps : Dt) (all : Int) (sh : Dt) : Int := if allP qs ps all (rdD sh) = true then 1 else if anyP qs ps all (rdD sh) = true then 2 else 0
end Sp
namespace Sp
def ocA (qs ps : Dt) (all : Int) (sh : Dt) : Int := if askE qs ps all sh = 0 then ocV qs ps all sh else 0
theorem askE_ok {qs ps sh : Dt} {all : Int} (h : askE qs ps all sh = 0) : KeyOk qs ps all /\ ShOk qs sh := by
 unfold askE at h
 split at h
 ·rename_i e; exact ⟨chkE_iff.1 e, shE_iff.1 h⟩
 ·rename_i e; exact absurd h e
end Sp
abbrev Xda (ds : DS) : DS := match ds with | [[.l qs, .l ps, .i all], [.l sh]] => [[.i (Sp.ocA qs ps all sh)], [.i (Sp.askE qs ps all sh)]] | _ => []
namespace Sp
def geI (l : Dt) (x : Int) (k : Nat) : Bool := !decide (num l k < x)
def whr (l : Dt) (x : Int) : Nat := fstF (geI l x) 0 l.length
def ins (l : Dt) (x : Int) : Dt := if whr l x = l.length \/ num l (whr l x) ≠ x then l.take (whr l x) ++ [[.i x]] ++ l.drop (whr l x) else l
def insA (f : Nat -> Int) : Nat -> Nat -> Dt -> Dt
 | _, 0, l => l
 | i, n + 1, l => insA f (i + 1) n (ins l (f i))
def ttl (qs ps rs : Dt) (i : Nat) : Int := total (mk qs ps (row rs i))
def scV (qs ps sh : Dt) : Dt := insA (ttl qs ps (rdD sh)) 0 (rdD sh).length []
theorem fstF_le {f : Nat -> Bool} : ∀ n i, fstF f i n <= i + n
 | 0, i => Nat.le_refl _
 | n + 1, i => by
  unfold fstF
  split
  ·omega
  ·have := fstF_le (f := f) n (i + 1); omega
theorem whr_le (l : Dt) (x : Int) : whr l x <= l.length := by have := fstF_le (f := geI l x) l.length 0; unfold whr; omega
end Sp
namespace Sp
def scA (qs ps : Dt) (all : Int) (sh : Dt) : Dt := if askE qs ps all sh = 0 then scV qs ps sh else []
end Sp
abbrev Xc6 (ds : DS) : DS := match ds with | [[.l qs, .l ps, .i all], [.l sh]] => [[.l (Sp.scA qs ps all sh)], [.i (Sp.askE qs ps all sh)]] | _ => []
namespace Sp
structure LikOk (sh rs : Dt) : Prop where
 few : rs.length <= 128
 len : ∀ k, k < rs.length -> (row rs k).length = sh.length
 rlen : ∀ k, k < rs.length -> ∀ i, (row (row rs k) i).length = (row sh i).length
theorem rds_lik {sh s : Dt} (h : s.length = sh.length) (hr : ∀ i, (row s i).length = (row sh i).length) (h7 : (pos s).length <= 7) : LikOk sh (rdD s) := by
 refine ⟨?_, fun k hk => ?_, fun k hk i => ?_⟩
 ·rw [rdD_len];exact Nat.le_trans (Nat.pow_le_pow_right (by decide) h7) (by decide)
 ·obtain ⟨h2, e⟩ := rdD_row hk;rw [e, (rds_shape _ (List.getElem_mem h2)).1, h]
 ·obtain ⟨h2, e⟩ := rdD_row hk;rw [e, (rds_shape _ (List.getElem_mem h2)).2, hr]
def dcI (qs ps : Dt) (all : Int) (rs : Dt) (a b : Nat) (k : Nat) : Bool := !(psS qs ps all (row rs k) == psS qs ps all (withD (row rs k) a b 1))
def dcV (qs ps : Dt) (all : Int) (sh : Dt) (a b : Nat) : Bool := anyF (dcI qs ps all (rdD (withD sh a b 0)) a b) 0 (rdD (withD sh a b 0)).length
def dcL (qs ps : Dt) (all : Int) (sh u : Dt) : Nat -> Nat -> Dt
 | _, 0 => []
 | i, n + 1 => (if dcV qs ps all sh (cel u i 0).int.toNat (cel u i 1).int.toNat = true then [[.i (cel u i 0).int, .i (cel u i 1).int]] else []) ++ dcL qs ps all sh u (i + 1) n
structure BxOk (sh u : Dt) : Prop where
 few : u.length <= 7
 in_ : ∀ i, i < u.length -> 0 <= (cel u i 0).int /\ (cel u i 0).int < sh.length /\ 0 <= (cel u i 1).int /\ (cel u i 1).int < (row sh (cel u i 0).int.toNat).length
theorem uns_cel {sh : Dt} {i : Nat} (h : i < (uns sh).length) : ∃ p ∈ pos sh, (cel (uns sh) i 0).int = p.1 /\ (cel (uns sh) i 1).int = p.2 := by
 have h2 : i < (pos sh).length := by rw [<- uns_len]; exact h
 refine ⟨(pos sh)[i], List.getElem_mem h2, ?_, ?_⟩
 ·rw [uns_pos]; unfold cel; rw [List.getD_eq_getElem?_getD (l := (pos sh).map prC), List.getElem?_map, List.getElem?_eq_getElem h2]; rfl
 ·rw [uns_pos]; unfold cel; rw [List.getD_eq_getElem?_getD (l := (pos sh).map prC), List.getElem?_map, List.getElem?_eq_getElem h2]; rfl
theorem ShOk.bx {qs sh : Dt} (h : ShOk qs sh) : BxOk sh (uns sh) := by
 refine ⟨h.seven, fun i hi => ?_⟩;obtain ⟨p, hp, e1, e2⟩ := uns_cel hi;have := mem_pos.1 hp;rw [e1, e2, Int.toNat_natCast];omega
end Sp
namespace Sp
def dcA (qs ps : Dt) (all : Int) (sh : Dt) : Dt := if askE qs ps all sh = 0 then dcL qs ps all sh (uns sh) 0 (uns sh).length else []
end Sp
abbrev Xdd (ds : DS) : DS := match ds with | [[.l qs, .l ps, .i all], [.l sh]] => [[.l (Sp.dcA qs ps all sh)], [.i (Sp.askE qs ps all sh)]] | _ => []
namespace Sp
structure LkR where
 n : Int
 a : Int
 b : Int
def cA (u : Dt) (i : Nat) : Int := (cel u i 0).int
def cB (u : Dt) (i : Nat) : Int := (cel u i 1).int
def lkF (c : Nat -> Int) (u : Dt) : Nat -> Nat -> LkR -> LkR
 | _, 0, r => r
 | i, n + 1, r => lkF c u (i + 1) n (if r.n < 0 \/ c i < r.n then ⟨c i, cA u i, cB u i⟩ else r)
def lkN (qs ps : Dt) (all : Int) : Nat -> Dt -> LkR
 | 0, sh => ⟨0, 0, 0⟩
 | n + 1, sh => if ocV qs ps all sh = 2 then lkF (fun i => 1 + max (lkN qs ps all n (withD sh (cA (uns sh) i).toNat (cB (uns sh) i).toNat 0)).n (lkN qs ps all n (withD sh (cA (uns sh) i).toNat (cB (uns sh) i).toNat 1)).n) (uns sh) 0 (uns sh).length ⟨-1, 0, 0⟩ else ⟨0, 0, 0⟩
theorem lkF_in {c : Nat -> Int} {u : Dt} {m : Int} : ∀ n i r, (-1 <= r.n /\ r.n <= m) -> (∀ k, i <= k -> k < i + n -> -1 <= c k /\ c k <= m) -> -1 <= (lkF c u i n r).n /\ (lkF c u i n r).n <= m
 | 0, _, _, h, _ => h
 | n + 1, i, r, h, hc => by
  simp only [lkF];refine lkF_in n (i + 1) _ ?_ fun k a b => hc k (by omega) (by omega)
  split
  ·exact hc i (by omega) (by omega)
  ·exact h
theorem lkN_in (qs ps : Dt) (all : Int) : ∀ n sh, -1 <= (lkN qs ps all n sh).n /\ (lkN qs ps all n sh).n <= n
 | 0, sh => by simp [lkN]
 | n + 1, sh => by
  unfold lkN
  split
  ·refine lkF_in _ _ _ (by simp; omega) fun k _ _ => ?_;have h0 := lkN_in qs ps all n (withD sh (cA (uns sh) k).toNat (cB (uns sh) k).toNat 0);have h1 := lkN_in qs ps all n (withD sh (cA (uns sh) k).toNat (cB (uns sh) k).toNat 1);omega
  ·simp; omega
theorem ShOk.withD {qs sh : Dt} (h : ShOk qs sh) {q j : Nat} {v : Int} (hv : v = 0 \/ v = 1) : ShOk qs (withD sh q j v) := by
 refine ⟨h.toShapeOk.withD (by omega), ?_⟩;have := h.seven;rw [uns_len] at this ⊢;rw [pos_with (by omega)];exact Nat.le_trans (List.length_filter_le _ _) this
end Sp
namespace Sp
def lookE (qs ps : Dt) (all : Int) (sh : Dt) : Int := if askE qs ps all sh = 0 then (if ocV qs ps all sh = 2 then 0 else 4) else askE qs ps all sh
def lookR (qs ps : Dt) (all : Int) (sh : Dt) : LkR := if lookE qs ps all sh = 0 then lkN qs ps all 8 sh else ⟨0, 0, 0⟩
end Sp
abbrev Xb1 (ds : DS) : DS := match ds with | [[.l qs, .l ps, .i all], [.l sh]] => [[.i (Sp.lookR qs ps all sh).a, .i (Sp.lookR qs ps all sh).b], [.i (Sp.lookR qs ps all sh).n], [.i (Sp.lookE qs ps all sh)]] | _ => []
namespace Sp
def markE (qs ps : Dt) (all : Int) (sh : Dt) : Int := if askE qs ps all sh = 0 then (if (uns sh).length = 0 then 0 else 2) else askE qs ps all sh
def markR (qs ps : Dt) (all : Int) (sh : Dt) : Dt := if markE qs ps all sh = 0 then mk qs ps sh else []
def markB (qs ps : Dt) (all : Int) (sh : Dt) : Bool := if markE qs ps all sh = 0 then psS qs ps all sh else false
end Sp
abbrev Xdb (ds : DS) : DS := match ds with | [[.l qs, .l ps, .i all], [.l sh]] => [[.l (Sp.markR qs ps all sh)], [.b (Sp.markB qs ps all sh)], [.i (Sp.markE qs ps all sh)]] | _ => []
namespace Sp
def strA (qs : Dt) (all : Int) (i : Nat) : Int := all - qPts qs i
def strP (qs ps : Dt) (i : Nat) : Dt := ps.set (qPart qs i).toNat [.i (num ps (qPart qs i).toNat - qPts qs i)]
def strQ (qs : Dt) (i : Nat) : Dt := qs.take i ++ qs.drop (i + 1)
def strE (qs ps : Dt) (all i : Int) : Int := if chkE qs ps all = 0 then (if inr i 0 (qs.length - 1) = true then (if qs.length = 1 then 3 else if inr (strA qs all i.toNat) (-240) 240 = true then (if inr (num (strP qs ps i.toNat) (qPart qs i.toNat).toNat) (-240) 240 = true then 0 else 7) else 7) else 4) else chkE qs ps all
def strK (qs ps : Dt) (all i : Int) : List Cl := if strE qs ps all i = 0 then [.l (strQ qs i.toNat), .l (strP qs ps i.toNat), .i (strA qs all i.toNat)] else [.l [], .l [], .i 0]
end Sp
abbrev Xfr : RTs := [(true, [.row 71 Iv5, .row 3 Jc, .int .i64]), (false, [.int .i64])]
abbrev Xc5 (ds : DS) : DS := match ds with | [[.l qs, .l ps, .i all], [.i i]] => [Sp.strK qs ps all i, [.i (Sp.strE qs ps all i)]] | _ => []
end Go.Proofs.Ytifhdbgciehicaa
