/-
  'AnswerMarks': for every input the law returns true, and what is handed in reads as before. No condition.
-/
import Derived.Test.YtifhdbgciehicaaQd
import Derived.IntWalk
import Derived.Test.YtifhdbgciehicaaProg
set_option linter.unusedVariables false
set_option linter.unusedSectionVars false
set_option linter.unusedSimpArgs false
namespace Go.Proofs.Ytifhdbgciehicaa
abbrev Ja : List Ty := [.int .i64, .int .i64]
abbrev Jb : List Ty := [.sl [.int .i64]]
abbrev Jc : List Ty := [.int .i64]
abbrev Iv11 : List Ty := [.int .i64, .int .i64, .int .i64, .int .i64, .int .i64, .int .i64, .int .i64, .int .i64, .int .i64, .int .i64, .int .i64]
abbrev Iv5 : List Ty := [.int .i64, .int .i64, .int .i64, .int .i64, .int .i64]
abbrev Iv4 : List Ty := [.int .i64, .int .i64, .int .i64, .int .i64]
abbrev Ivs : List Ty := [.str, .int .i64, .int .i64, .int .i64]
open Go.RowKit
theorem vif [InW] {b : Bool} {A B : Prop} (h : b = true -> A) (h2 : b = false -> B) : Vif b A B := ⟨h, h2⟩
theorem vifd [InW] {p : Prop} {_ : Decidable p} {A B : Prop} (h : p -> A) (h2 : ¬ p -> B) : Vif (decide p) A B := ⟨fun e => h (of_decide_eq_true e), fun e => h2 (of_decide_eq_false e)⟩
theorem ned [InW] {b : Bool} {A : Prop} (h : b = true) (h2 : A) : Need b A := ⟨h, h2⟩
theorem nedd [InW] {p : Prop} {_ : Decidable p} {A : Prop} (h : p) (h2 : A) : Need (decide p) A := ⟨decide_eq_true h, h2⟩
theorem ar64 [InW] {n : Int} {K : Int -> Prop} (h : -9223372036854775808 <= n /\ n <= 9223372036854775807) (k : K n) : Ar .i64 n K := ⟨by rw [IntWalk.i64_in n h]; exact k⟩
open Go.RowKit
theorem notT {b : Bool} (h : (!b) = true) : b = false := by cases b <;> simp_all
theorem notF {b : Bool} (h : (!b) = false) : b = true := by cases b <;> simp_all
theorem vifn [InW] {p : Prop} {_ : Decidable p} {A B : Prop} (h : ¬ p -> A) (h2 : p -> B) : Vif (!decide p) A B := ⟨fun e => h (of_decide_eq_false (notT e)), fun e => h2 (of_decide_eq_true (notF e))⟩
theorem vifb [InW] {b : Bool} {A B : Prop} (h : b = false -> A) (h2 : b = true -> B) : Vif (!b) A B := ⟨fun e => h (notT e), fun e => h2 (notF e)⟩
theorem Xb {p A : Prop} (h : p) (h2 : A) : Pre p A := ⟨h, h2⟩
theorem ned2 [InW] {p q : Prop} {_ : Decidable p} {_ : Decidable q} {K : Prop} (h : p /\ q) (hK : K) : Need (decide p && decide q) K := ⟨by simp [h], hK⟩
open Go.RowKit
namespace Sp
def inr (n lo hi : Int) : Bool := decide (lo <= n) && decide (n <= hi)
def outs (lo hi : Int) (xs : Dt) : Nat -> Nat -> Bool
 | _, 0 => false
 | i, n + 1 => !inr (cel xs i 0).int lo hi || outs lo hi xs (i + 1) n
def out (lo hi : Int) (xs : Dt) : Bool := outs lo hi xs 0 xs.length
def outI (lo hi : Int) (xs : Dt) : Nat -> Nat -> Nat
 | i, 0 => i
 | i, n + 1 => if inr (cel xs i 0).int lo hi = true then outI lo hi xs (i + 1) n else i
def hasE (f : Nat -> Int) : Nat -> Nat -> Bool
 | _, 0 => false
 | i, n + 1 => !decide (f i = 0) || hasE f (i + 1) n
def idxE (f : Nat -> Int) : Nat -> Nat -> Nat
 | i, 0 => i
 | i, n + 1 => if f i = 0 then idxE f (i + 1) n else i
def allF (f : Nat -> Bool) : Nat -> Nat -> Bool
 | _, 0 => true
 | i, n + 1 => f i && allF f (i + 1) n
theorem allF_iff {f : Nat -> Bool} : ∀ {n i : Nat}, allF f i n = true ↔ ∀ k, i <= k -> k < i + n -> f k = true
 | 0, i => by simp [allF]; omega
 | n + 1, i => by
  simp only [allF, Bool.and_eq_true, allF_iff (n := n)];constructor
  ·rintro ⟨h1, h2⟩ k a b;rcases Nat.eq_or_lt_of_le a with e | e
   ·exact e ▸ h1
   ·exact h2 k (by omega) (by omega)
  ·exact fun h => ⟨h i (by omega) (by omega), fun k a b => h k (by omega) (by omega)⟩
def anyF (f : Nat -> Bool) : Nat -> Nat -> Bool
 | _, 0 => false
 | i, n + 1 => f i || anyF f (i + 1) n
theorem anyF_iff {f : Nat -> Bool} : ∀ {n i : Nat}, anyF f i n = true ↔ ∃ k, i <= k /\ k < i + n /\ f k = true
 | 0, i => by simp [anyF]; omega
 | n + 1, i => by
  simp only [anyF, Bool.or_eq_true, anyF_iff (n := n)];constructor
  ·rintro (h | ⟨k, a, b, c⟩)
   ·exact ⟨i, by omega, by omega, h⟩
   ·exact ⟨k, by omega, by omega, c⟩
  ·rintro ⟨k, a, b, c⟩;rcases Nat.eq_or_lt_of_le a with e | e
   ·exact .inl (e ▸ c)
   ·exact .inr ⟨k, by omega, by omega, c⟩
def fstF (f : Nat -> Bool) : Nat -> Nat -> Nat
 | i, 0 => i
 | i, n + 1 => if f i then i else fstF f (i + 1) n
theorem fstF_spec {f : Nat -> Bool} : ∀ {n i : Nat}, anyF f i n = true -> i <= fstF f i n /\ fstF f i n < i + n /\ f (fstF f i n) = true /\ ∀ k, i <= k -> k < fstF f i n -> f k = false
 | 0, i, h => by simp [anyF] at h
 | n + 1, i, h => by
  unfold fstF
  by_cases e : f i = true
  ·rw [if_pos e];exact ⟨by omega, by omega, e, fun k a b => by omega⟩
  ·rw [if_neg e];simp only [anyF, e, Bool.false_or, Bool.or_eq_true, Bool.false_eq_true, false_or] at h;obtain ⟨h1, h2, h3, h4⟩ := fstF_spec h;refine ⟨by omega, by omega, h3, fun k a b => ?_⟩;rcases Nat.eq_or_lt_of_le a with e2 | e2
   ·subst e2; simpa using e
   ·exact h4 k (by omega) b
def sumF (f : Nat -> Int) : Nat -> Nat -> Int -> Int
 | _, 0, a => a
 | i, n + 1, a => sumF f (i + 1) n (a + f i)
theorem hasE_ix {f : Nat -> Int} : ∀ {n i : Nat}, hasE f i n = true -> i <= idxE f i n /\ idxE f i n < i + n /\ f (idxE f i n) ≠ 0
 | 0, i, h => by simp [hasE] at h
 | n + 1, i, h => by
  unfold idxE
  by_cases e : f i = 0
  ·rw [if_pos e];simp only [hasE, e, decide_true, Bool.not_true, Bool.false_or] at h;have := hasE_ix h;exact ⟨by omega, by omega, this.2.2⟩
  ·rw [if_neg e]; exact ⟨by omega, by omega, e⟩
theorem hasE_no {f : Nat -> Int} : ∀ {n i : Nat}, hasE f i n = false -> ∀ k, i <= k -> k < i + n -> f k = 0
 | 0, i, _, k, a, b => by omega
 | n + 1, i, h, k, a, b => by
  simp only [hasE, Bool.or_eq_false_iff, Bool.not_eq_false', decide_eq_true_eq] at h;rcases Nat.eq_or_lt_of_le a with e | e
  ·exact e ▸ h.1
  ·exact hasE_no h.2 k (by omega) (by omega)
theorem hasE_of {f : Nat -> Int} : ∀ {n i : Nat}, (∀ k, i <= k -> k < i + n -> f k = 0) -> hasE f i n = false
 | 0, i, _ => rfl
 | n + 1, i, h => by
  simp only [hasE, h i (by omega) (by omega), decide_true, Bool.not_true, Bool.false_or];exact hasE_of fun k a b => h k (by omega) (by omega)
theorem inr_iff {n lo hi : Int} : inr n lo hi = true ↔ lo <= n /\ n <= hi := by simp [inr]
end Sp
theorem Xdi [InW] {f : Nat -> Int} {i n : Nat} {K1 : Nat -> Int -> Prop} {K0 : Prop} (h : Vif (Sp.hasE f i (n + 1)) (K1 (Sp.idxE f i (n + 1)) (f (Sp.idxE f i (n + 1)))) K0) :
  (f i ≠ 0 -> K1 i (f i)) /\ (f i = 0 -> Vif (Sp.hasE f (i + 1) n) (K1 (Sp.idxE f (i + 1) n) (f (Sp.idxE f (i + 1) n))) K0) := by
 simp only [Sp.hasE, Sp.idxE] at h;refine ⟨fun e => ?_, fun e => ?_⟩
 ·have := h.1 (by simp [e]);simpa [e] using this
 ·simpa [e] using h
theorem vifq [InW] {p q : Prop} {_ : Decidable p} {_ : Decidable q} {A B : Prop} (h : ¬ (p ↔ q) -> A) (h2 : (p ↔ q) -> B) : Vif (!(decide p == decide q)) A B :=
 ⟨fun e => h (by simpa using notT e), fun e => h2 (by simpa using notF e)⟩
theorem Xd [InW] {p : Prop} {_ : Decidable p} {A B : Prop} (h : p -> A) (h2 : ¬ p -> B) : Vif (!(decide p == false)) A B :=
 ⟨fun e => h (by simpa using e), fun e => h2 (by simpa using e)⟩
theorem Xc [InW] {p : Prop} {_ : Decidable p} {A B : Prop} (h : p -> A) (h2 : ¬ p -> B) : Vif (!(false == decide p)) A B :=
 ⟨fun e => h (by simpa using e), fun e => h2 (by simpa using e)⟩
theorem out1 (lo hi n : Int) : Sp.out lo hi [[Cl.i n]] = !Sp.inr n lo hi := by simp [Sp.out, Sp.outs, cel, Cl.int]
theorem out2 (lo hi n m : Int) : Sp.out lo hi [[Cl.i n], [Cl.i m]] = (!Sp.inr n lo hi || !Sp.inr m lo hi) := by simp [Sp.out, Sp.outs, cel, Cl.int]
set_option maxRecDepth 100000
def tTab [InW] : TI := ⟨some false, some 1, some [.v (.nilFunc)], [], none, none⟩
def tTaw [InW] : Tr TI := .node .nil tTab .nil
def tTaa [InW] : Tr TI := .node .nil ⟨none, none, none, [], none, none⟩ .nil
def tTag [InW] : Tr TI := .node tTaw tTab tTaa
def tTac [InW] : Tr TI := .node tTag tTab (.node (.node .nil ⟨some true, some 11, some [.v (.int .u64 0), .v (.int .u64 0), .v (.int .u32 0), .v (.int .u8 0), .v (.int .u8 0), .v (.int .u8 0), .v (.int .u8 0), .v (.nilFunc), .v (.pointer none), .v (.int .i32 0), .v (.int .i32 0)], [(some (0, 1)), (some (1, 1)), (some (2, 1)), (some (3, 1)), (some (4, 1)), (some (5, 1)), (some (6, 1)), (some (7, 1)), (some (8, 1)), (some (9, 1)), (some (10, 1))], none, none⟩ .nil) tTab tTaa)
def tTad [InW] : TI := ⟨some false, some 1, some [.v (.pointer none)], [], none, none⟩
def tTbb [InW] : Tr TI := .node .nil tTad .nil
def tTav [InW] : List AV := [.v (.int .i64 0), .v (.int .i64 0)]
def tTaf [InW] : TI := ⟨some true, some 2, some tTav, [(some (0, 1)), (some (1, 1))], none, none⟩
def tTao [InW] : List AV := [.v (.slice none 0 0)]
def tTae [InW] : Tr TI := .node tTaa tTab tTaa
def tTba [InW] : List (Option (Nat × Nat)) := [(some (0, 1)), (some (1, 1)), (some (2, 1)), (some (3, 1))]
def tTap [InW] : TI := ⟨some true, some 4, some [.v (.int .i64 0), .v (.int .i64 0), .v (.bool false), .v (.int .u8 0)], tTba, none, none⟩
def tTax [InW] : List AV := [.v (.int .i64 0), .v (.int .i64 0), .v (.int .i64 0), .v (.int .i64 0), .v (.int .i64 0)]
def tTai [InW] : TI := ⟨some true, some 5, some tTax, [(some (0, 1)), (some (1, 1)), (some (2, 1)), (some (3, 1)), (some (4, 1))], none, none⟩
def tTay [InW] : Tr TI := .node .nil ⟨some true, some 0, some [], [(some (0, 0))], none, none⟩ .nil
def tTak [InW] : TI := ⟨some false, some 1, some [.v (.int .i64 0)], [], none, none⟩
def tTaq [InW] : TI := ⟨some false, some 1, (some [.v (.tuple #[.int .i64 0, .int .i64 0])]), [], none, none⟩
def tTaz [InW] : TI := ⟨some true, some 1, some [.v (.pointer none)], [(some (0, 1))], none, none⟩
def tTah [InW] : Tr TI := .node (.node .nil ⟨some true, some 4, some [.v (.pointer none), .v (.pointer none), .v (.pointer none), .v (.string ByteArray.empty)], tTba, none, none⟩ .nil) tTab tTaa
def tTas [InW] : TI := ⟨some false, some 1, some [.v (.string ByteArray.empty)], [], none, none⟩
def tTbc [InW] : Tr TI := .node tTag tTab tTae
def tTal [InW] : TI := ⟨some false, some 1, some [.v (.int .u64 0)], [], none, none⟩
def tTar [InW] : TI := ⟨some true, some 3, some [.v (.slice none 0 0), .v (.slice none 0 0), .v (.int .i64 0)], [(some (0, 1)), (some (1, 1)), (some (2, 1))], none, none⟩
def tTan [InW] : TI := ⟨some false, some 1, some [.v (.int .u8 0)], [], none, none⟩
def tTaj [InW] : TI := ⟨some true, some 5, some [.v (.slice none 0 0), .v (.slice none 0 0), .v (.int .i64 0), .v (.slice none 0 0), .v (.slice none 0 0)], [(some (0, 3)), (some (3, 1)), (some (4, 1))], none, none⟩
def tTam [InW] : TI := ⟨some false, some 1, (some [.v (.tuple #[.slice none 0 0, .int .i64 0])]), [], none, none⟩
def tTat [InW] : TI := ⟨some false, some 1, some [.v (.int .i32 0)], [], none, none⟩
def tTau [InW] : TI := ⟨some true, some 2, some [.v (.string ByteArray.empty), .v (.int .u64 0)], [(some (0, 1)), (some (1, 1))], none, none⟩
def TT [InW] : Tr TI :=
 (.node (.node (.node (.node (.node tTac tTad (.node (.node tTbb tTaf tTaa) ⟨some false, some 1, some tTao, [], (some (26, 1, 24, tTao)), none⟩ tTae)) tTap (.node (.node (.node tTaw tTai tTaa) ⟨some false, some 1, some tTao, [], (some (44, 2, 16, tTav)), none⟩ (.node tTaa ⟨some false, some 1, some [.v (.map none)], [], none, none⟩ tTaa)) ⟨some false, some 1, some tTao, [], (some (3, 1, 8, [.v (.int .i64 0)])), none⟩ (.node (.node tTay tTab tTaa) tTab tTae))) tTak (.node (.node (.node (.node (.node .nil ⟨some false, some 1, (some [.v (.tuple #[.int .i64 0, .bool false])]), [], none, none⟩ .nil) tTab tTaa) tTaq tTae) tTaz (.node tTah ⟨some false, some 1, some tTao, [], (some (80, 2, 16, tTav)), none⟩ tTae)) tTas (.node (.node (.node tTaw ⟨some true, some 4, some [.v (.int .u8 0), .v (.int .u8 0), .v (.int .u8 0), .v (.int .u8 0)], [], none, (some (4, 1, false))⟩ tTaa) tTaf tTae) tTak (.node (.node tTaw ⟨some false, some 1, (some [.v (.tuple #[.slice none 0 0, .bool false])]), [], none, none⟩ tTaa) tTab tTae)))) tTab (.node (.node (.node (.node tTag tTab (.node tTbb tTab tTaa)) tTad tTbc) tTas (.node (.node (.node (.node .nil tTal .nil) ⟨some false, some 1, some tTao, [], (some (5, 1, 1, [.v (.int .u8 0)])), none⟩ tTaa) tTab (.node tTaa ⟨some true, some 2, some tTav, [], none, (some (2, 1, false))⟩ tTaa)) tTar (.node (.node (.node .nil tTan .nil) tTaj tTaa) tTab tTae))) tTan (.node (.node (.node (.node tTaw ⟨some true, some 2, some [.v (.int .u16 0), .v (.int .u16 0)], [], none, (some (2, 1, false))⟩ tTaa) tTam tTae) tTat (.node (.node (.node .nil ⟨some true, some 0, some [], [], none, (some (0, 1, false))⟩ .nil) tTad tTaa) tTab tTae)) tTau (.node (.node (.node tTbb ⟨some false, some 1, some tTao, [], (some (58, 1, 2, [.v (.int .u16 0)])), none⟩ tTaa) ⟨some false, some 1, (some [.v (.tuple #[.agg #[.int .i64 0, .int .i64 0], .int .i64 0, .int .i64 0])]), [], none, none⟩ tTae) tTab (.node (.node (.node .nil tTat .nil) tTab tTaa) tTab (.node tTaa tTak tTaa)))))) ⟨some false, some 1, (some [.v (.tuple #[])]), [], none, none⟩ (.node (.node (.node (.node tTac tTad (.node (.node (.node .nil tTaq .nil) tTaf tTaa) ⟨some false, some 1, (some [.v (.tuple #[.agg #[.slice none 0 0, .slice none 0 0, .int .i64 0], .int .i64 0])]), [], none, none⟩ tTae)) tTap (.node (.node (.node (.node .nil tTal .nil) tTab tTaa) tTam tTae) tTar (.node (.node tTaw tTaj tTaa) tTab (.node tTaa tTal tTaa)))) ⟨some false, some 1, some [.v (.bool false)], [], none, none⟩ (.node (.node tTbc ⟨some false, some 1, some [.v (.nilIface)], [], none, none⟩ (.node tTah tTam tTae)) tTal (.node (.node tTag tTaf tTae) ⟨some false, some 1, (some [.v (.tuple #[.int .i64 0, .int .i64 0, .int .i64 0])]), [], none, none⟩ (.node (.node tTbb tTab tTaa) tTab tTae)))) tTak (.node (.node (.node tTbc tTaz tTbc) tTas (.node (.node tTag tTab (.node tTaa ⟨some false, some 1, (some [.v (.tuple #[.agg #[.int .i64 0, .int .i64 0], .bool false])]), [], none, none⟩ tTaa)) ⟨some false, some 1, some tTao, [], (some (23, 1, 24, tTao)), none⟩ (.node (.node (.node .nil tTan .nil) tTab tTaa) ⟨some false, some 1, some [.v (.int .u16 0)], [], none, none⟩ tTae))) tTan (.node (.node (.node (.node (.node .nil ⟨some false, some 1, some [.v (.int .u32 0)], [], none, none⟩ .nil) tTai tTaa) tTab (.node tTaa ⟨some false, some 1, some tTao, [], (some (4, 1, 1, [.v (.bool false)])), none⟩ tTaa)) ⟨some false, some 1, some tTao, [], (some (71, 5, 40, tTax)), none⟩ (.node (.node tTay ⟨some false, some 1, (some [.v (.tuple #[.pointer none, .int .i64 0])]), [], none, none⟩ tTaa) tTab tTae)) tTau (.node (.node tTag tTab (.node tTaa ⟨some false, some 1, (some [.v (.tuple #[.int .i64 0, .agg #[.int .i64 0, .int .i64 0]])]), [], none, none⟩ tTaa)) ⟨some false, some 1, (some [.v (.tuple #[.slice none 0 0, .bool false, .int .i64 0])]), [], none, none⟩ (.node (.node (.node .nil tTat .nil) ⟨some false, some 1, (some [.v (.tuple #[.bool false, .bool false])]), [], none, none⟩ tTaa) tTab (.node tTaa tTaq tTaa)))))))
theorem Xe [InW] : TabOk Try.prog TT := TabOk.of 8 (by kernel_rfl)
theorem Xa : Try.prog.follows .mixedOrders = true := by kernel_rfl
open Go.RowKit
attribute [local irreducible] Go.Oper.wp
section
variable [W : InW]
def nthQ : List AV -> Nat -> AV
 | [], _ => .junk
 | x :: xs, n => match n with | 0 => x | n + 1 => nthQ xs n
def likeQ : Pt -> AV -> Bool
 | .lit v, x => (match x with | .v u => Ycn u v | _ => false)
 | .row _, x => (match x with | .rw _ => true | .sl _ 0 0 _ => true | _ => false)
 | _, _ => true
def Xpz : List (Nat × Pt) -> List AV -> Bool
 | [], _ => true
 | p :: ps, tm => match likeQ p.2 (nthQ tm p.1) with | true => Xpz ps tm | false => false
end
noncomputable def LE.pick {P : Program} (T : List (Nat × Pt)) (a b : LE P) (hg : b.g = a.g) (hk : b.key = a.key) : LE P where
 g := a.g
 key := a.key
 f := fun W tm hp K => match @Xpz W T tm with | true => a.f W tm hp K | false => b.f W tm hp K
 ok := fun W body c h1 h2 h3 tm hp K h => by
  dsimp only at h
  split at h
  ·exact a.ok W body c h1 h2 h3 tm hp K h
  ·exact b.ok W body c (by rw [hg]; exact h1) h2 (by rw [hk]; exact h3) tm hp K h
end Go.Proofs.Ytifhdbgciehicaa
namespace Go.Proofs.Ytifhdbgciehicaa
open Go.RowKit
attribute [local irreducible] Go.Oper.wp
section
variable [W : InW]
end
end Go.Proofs.Ytifhdbgciehicaa
namespace Go.Proofs.Ytifhdbgciehicaa
open Go.RowKit
set_option maxRecDepth 100000
noncomputable def T0 : Tab Try.prog := ⟨[], [], []⟩
abbrev Xfy (ds : DS) : DS := match ds with | [[.i n], [.i lo], [.i hi]] => [[.b (Sp.inr n lo hi)]] | _ => []
abbrev Xb3 (ds : DS) : DS := match ds with | [[.i n]] => [[.b (Sp.inr n (-240) 240)]] | _ => []
abbrev Xdn (ds : DS) : DS := match ds with | [[.i lo], [.i hi], [.l xs]] => [[.b (Sp.out lo hi xs)]] | _ => []
def Xqp [W : InW] (n lo hi : Int) (Q : DS -> Prop) : Prop :=
 Vif (decide (lo <= n)) (Q [[Cl.b (decide (n <= hi))]]) (Q [[Cl.b false]])
theorem vc_in (W : InW) (n lo hi Q) : Ywr (cxT Try.prog TT T0 1000 50) 1000 52 [.si .i64 n, .si .i64 lo, .si .i64 hi] [] 0 (Y01 [(false, [.bool])] Q) (fun _ _ _ _ => Stuck 421) = Xqp n lo hi Q := by kernel_rfl
abbrev Xis : List AT := [.one (.int .i64), .one (.int .i64), .one (.int .i64)]
theorem ok_in {pre : DS -> Prop} {res : DS -> DS} (hyp_ : ∀ (W : InW) (n lo hi : Int), pre [[.i n], [.i lo], [.i hi]] -> ∀ Q : DS -> Prop, Q (res [[.i n], [.i lo], [.i hi]]) -> Xqp n lo hi Q) : PureOk Try.prog 52 Xis [(false, [.bool])] pre res :=
 PureOk.of' (fun W => @TT W) (fun W => @Xe W) Xa T0 1000 50 fun W n lo hi hp =>
  (vc_in W n lo hi (fun o => o = res [[.i n], [.i lo], [.i hi]])).mpr (hyp_ W n lo hi hp _ rfl)
theorem okin : PureOk Try.prog 52 Xis [(false, [.bool])] (fun _ => True) Xfy :=
 ok_in fun W n lo hi _ Q h => vif (fun e => by simpa [Xfy, Sp.inr, e] using h) fun e => by simpa [Xfy, Sp.inr, e] using h
noncomputable def Xjr : PC Try.prog := ⟨52, Xis, [(false, [.bool])], fun _ => True, Xfy, okin⟩
noncomputable def T0a : Tab Try.prog := ⟨[Xjr], [], []⟩
def Xdg [W : InW] (n : Int) (Q : DS -> Prop) : Prop :=
 Pre True (Q [[Cl.b (Sp.inr n (-240 : Int) (240 : Int))]])
theorem Xhq (W : InW) (n Q) : Ywr (cxT Try.prog TT T0a 1000 50) 1000 53 [.si .i64 n] [] 0 (Y01 [(false, [.bool])] Q) (fun _ _ _ _ => Stuck 421) = Xdg n Q := by kernel_rfl
abbrev X6 : List AT := [.one (.int .i64)]
theorem Xia {pre : DS -> Prop} {res : DS -> DS} (hyp_ : ∀ (W : InW) (n : Int), pre [[.i n]] -> ∀ Q : DS -> Prop, Q (res [[.i n]]) -> Xdg n Q) : PureOk Try.prog 53 X6 [(false, [.bool])] pre res :=
 PureOk.of' (fun W => @TT W) (fun W => @Xe W) Xa T0a 1000 50 fun W n hp =>
  (Xhq W n (fun o => o = res [[.i n]])).mpr (hyp_ W n hp _ rfl)
theorem Xjz : PureOk Try.prog 53 X6 [(false, [.bool])] (fun _ => True) Xb3 :=
 Xia fun W n _ Q h => ⟨trivial, h⟩
noncomputable def Xc9 : PC Try.prog := ⟨53, X6, [(false, [.bool])], fun _ => True, Xb3, Xjz⟩
def Xfm [InW] (e : List Ed) (K : Nat -> List Ed -> Prop) : Prop := match e with
 | [.ro _ xs, .i n, .i i, .i lo, .i hi] => Pre (n = xs.xs.length /\ 0 <= i /\ i <= n) (Vif (Sp.outs lo hi xs.xs i.toNat (xs.xs.length - i.toNat)) (K 1 [.i (Sp.outI lo hi xs.xs i.toNat (xs.xs.length - i.toNat)), .i lo, .i hi]) (K 0 [.i lo, .i hi]))
 | _ => False
noncomputable def Xha : LC where
 len := 19
 T := [(0, .rs Jc), (1, (.fn (.func 81) [] [(.ptr 1 0), (.ptr 4 0)])), (7, .int .i64), (8, .int .i64)]
 H := [(1, .blk 3 [.int .i64]), (4, .blk 3 [.int .i64])]
 W := ([4, 5] ++ rg 9 10)
 outs := [⟨.exit 0, [(1, (.fn (.func 81) [] [(.ptr 1 0), (.ptr 4 0)]))], [(1, .blk 3 [.int .i64]), (4, .blk 3 [.int .i64])], ([0, 4, 5] ++ rg 7 12)⟩, ⟨.ret, [(1, (.fn (.func 81) [] [(.ptr 1 0), (.ptr 4 0)])), (4, .int .i64)], [(1, .blk 3 [.int .i64]), (4, .blk 3 [.int .i64])], ([0, 5] ++ rg 7 12)⟩]
 spec := Xfm
def Xep [W : InW] (xs : Ro Jc) (n i lo hi : Int) (A : List Ed -> Prop) (K : Nat -> List Ed -> Prop) : Prop :=
 Vif (decide (i < n)) (Need (decide (0 <= i) && decide (i < (↑(xs.xs.length) : Int))) (Need (decide (i.toNat < xs.xs.length)) (Vif (decide ((cel xs.xs i.toNat (0 : Nat)).int < lo)) (K (0+1) [.i i, .i lo, .i hi]) (Vif (decide (hi < (cel xs.xs i.toNat (0 : Nat)).int)) (K (0+1) [.i i, .i lo, .i hi]) (Ar .i64 (i + 1) fun z => A [.ro _ xs, .i n, .i z, .i lo, .i hi]))))) (K 0 [.i lo, .i hi])
theorem Xll (W : InW) (xs n i lo hi A K) : Yfc { cxT Try.prog TT T0 1000 50 with fn := 88 } 1000 (Yn7 Try.prog 88 3) (Yd6 19 [(0, .rs _ xs), (1, .fn (.func 81) [] [.ptr 1 0, .ptr 4 0]), (7, .si .i64 n), (8, .si .i64 i)] ([4, 5] ++ rg 9 10)) [(1, .blk 3 [.si .i64 lo]), (4, .blk 3 [.si .i64 hi])] (Yug Xha A K) = Xep xs n i lo hi A K := by kernel_rfl
def Xgj : Prop := ∀ (W : InW) (body a : Code), (Try.prog.funcs[88]?).bind (·.body) = some body -> a ∈ Yy body -> Yfx a = 3 -> @Ymq W Try.prog a (@Yto W Xha)
theorem Xm3 (meas : [InW] -> List Ed -> Nat) (hyp_ : ∀ (W : InW) xs n i lo hi K, Xfm [.ro _ xs, .i n, .i i, .i lo, .i hi] K -> ∀ A : List Ed -> Prop, (∀ e, meas e < meas [.ro _ xs, .i n, .i i, .i lo, .i hi] -> Xfm e K -> A e) -> Xep xs n i lo hi A K) : Xgj :=
 LE.okOf' (fun W => @TT W) (fun W => @Xe W) Xa T0 1000 50 (by kernel_rfl) Xha (fun W => @meas W) fun W xs n i lo hi K hs =>
  (Xll W xs n i lo hi (fun e => meas e < meas [.ro _ xs, .i n, .i i, .i lo, .i hi] /\ Xfm e K) K).mpr (hyp_ W xs n i lo hi K hs _ fun e h1 h2 => ⟨h1, h2⟩)
theorem Xpm : Xgj := Xm3 (fun e => match e with | .ro _ xs :: .i n :: .i i :: _ => (n - i).toNat | _ => 0) fun W xs n i lo hi K hs A hA => by
 obtain ⟨⟨rfl, h0, h1⟩, hk⟩ := hs;unfold Xep;have hm := xs.len;simp only [maxLen] at hm;refine vifd (fun e => ?_) fun e => ?_
 ·rw [show xs.xs.length - i.toNat = (xs.xs.length - (i.toNat + 1)) + 1 by omega] at hk;have hc : (cel xs.xs i.toNat 0).int < lo \/ hi < (cel xs.xs i.toNat 0).int -> K 1 [.i i, .i lo, .i hi] := fun h => by
   have hf : Sp.inr (cel xs.xs i.toNat 0).int lo hi = false := by simp only [Sp.inr, Bool.and_eq_false_iff, decide_eq_false_iff_not]; omega
   have := hk.1 (by simp [Sp.outs, hf]);unfold Sp.outI at this;rw [if_neg (by simp [hf]), Int.toNat_of_nonneg h0] at this;exact this
  refine ned (by simp; omega) (nedd (by omega) (vifd (fun e2 => hc (.inl e2)) fun e2 => vifd (fun e3 => hc (.inr e3)) fun e3 => ar64 (by omega) (hA _ ?_ ?_)))
  ·show ((xs.xs.length : Int) - (i + 1)).toNat < ((xs.xs.length : Int) - i).toNat
   omega
  ·have hf : Sp.inr (cel xs.xs i.toNat 0).int lo hi = true := by simp only [Sp.inr, Bool.and_eq_true, decide_eq_true_eq]; omega
   refine ⟨⟨rfl, by omega, by omega⟩, ?_⟩;rw [show (i + 1).toNat = i.toNat + 1 by omega];simp only [Sp.outs, hf, Bool.not_true, Bool.false_or, Sp.outI, if_true] at hk;exact hk
 ·rw [show xs.xs.length - i.toNat = 0 by omega] at hk;exact hk.2 rfl
noncomputable def Xqi : LE Try.prog := ⟨88, 3, fun W => @Yto W Xha, Xpm⟩
noncomputable def T1 : Tab Try.prog := ⟨[], [Xqi], []⟩
def Xiw [W : InW] (lo hi : Int) (xs : Ro Jc) (Q : DS -> Prop) : Prop :=
 Pre ((↑(xs.xs.length) : Int) = (↑(xs.xs.length) : Int) /\ (0 : Int) <= 0 /\ (0 : Int) <= (↑(xs.xs.length) : Int)) (Vif (Sp.outs lo hi xs.xs (Int.toNat (0 : Int)) (xs.xs.length - Int.toNat (0 : Int))) (Q [[Cl.b (decide ((0 : Int) <= (↑(Sp.outI lo hi xs.xs (Int.toNat (0 : Int)) (xs.xs.length - Int.toNat (0 : Int))) : Int)))]]) (Q [[Cl.b false]]))
theorem Xoe (W : InW) (lo hi xs Q) : Ywr (cxT Try.prog TT T1 1000 50) 1000 51 [.si .i64 lo, .si .i64 hi, .rs _ xs] [] 0 (Y01 [(false, [.bool])] Q) (fun _ _ _ _ => Stuck 421) = Xiw lo hi xs Q := by kernel_rfl
abbrev Xdu : List AT := [.one (.int .i64), .one (.int .i64), .one (.sl Jc)]
theorem Xo1 {pre : DS -> Prop} {res : DS -> DS} (hyp_ : ∀ (W : InW) (lo hi : Int) (xs : Ro Jc), pre [[.i lo], [.i hi], [.l xs.xs]] -> ∀ Q : DS -> Prop, Q (res [[.i lo], [.i hi], [.l xs.xs]]) -> Xiw lo hi xs Q) : PureOk Try.prog 51 Xdu [(false, [.bool])] pre res :=
 PureOk.of' (fun W => @TT W) (fun W => @Xe W) Xa T1 1000 50 fun W lo hi xs hp =>
  (Xoe W lo hi xs (fun o => o = res [[.i lo], [.i hi], [.l xs.xs]])).mpr (hyp_ W lo hi xs hp _ rfl)
theorem okout : PureOk Try.prog 51 Xdu [(false, [.bool])] (fun _ => True) Xdn :=
 Xo1 fun W lo hi xs _ Q h => by
  unfold Xiw;simp only [Xdn, Sp.out] at h;rw [show Int.toNat 0 = 0 from rfl, Nat.sub_zero];refine ⟨⟨rfl, by omega, by omega⟩, vif (fun e => ?_) fun e => ?_⟩
  ·rw [e] at h;rw [decide_eq_true (by omega)];exact h
  ·rw [e] at h;exact h
noncomputable def Xc8 : PC Try.prog := ⟨51, Xdu, [(false, [.bool])], fun _ => True, Xdn, okout⟩
open Go.RowKit
set_option maxRecDepth 100000
set_option maxHeartbeats 1600000
abbrev tyQ : List Ty := [.int .i64, .int .i64, .int .i64, .int .i64, .int .i64]
namespace Sp
def qPart (qs : Dt) (i : Nat) : Int := (cel qs i 0).int
def qBoxes (qs : Dt) (i : Nat) : Int := (cel qs i 1).int
def qRight (qs : Dt) (i : Nat) : Int := (cel qs i 2).int
def qPts (qs : Dt) (i : Nat) : Int := (cel qs i 3).int
def qMin (qs : Dt) (i : Nat) : Int := (cel qs i 4).int
def qErr (np : Nat) (qs : Dt) (i : Nat) : Int :=
 if inr (qPart qs i) 0 ((np : Int) - 1) then (if inr (qBoxes qs i) 2 4 then (if inr (qRight qs i) 0 (qBoxes qs i - 1) then (if inr (qPts qs i) 0 20 && inr (qMin qs i) 0 20 then 0 else 7) else 4) else 7) else 4
def pErr (ps : Dt) (i : Nat) : Int := if inr (cel ps i 0).int (-240) 240 then 0 else 7
def chk (qs ps : Dt) (all : Int) : Int × Int × Int :=
  if inr qs.length 1 12 && inr ps.length 1 4 then
    (if hasE (qErr ps.length qs) 0 qs.length then (2, idxE (qErr ps.length qs) 0 qs.length, qErr ps.length qs (idxE (qErr ps.length qs) 0 qs.length))
     else if hasE (pErr ps) 0 ps.length then (3, idxE (pErr ps) 0 ps.length, pErr ps (idxE (pErr ps) 0 ps.length))
     else if inr all (-240) 240 then (0, 0, 0) else (4, 0, 7))
  else (1, 0, 3)
def chkP (qs ps : Dt) (all : Int) : Int := (chk qs ps all).1
def chkI (qs ps : Dt) (all : Int) : Int := (chk qs ps all).2.1
def chkE (qs ps : Dt) (all : Int) : Int := (chk qs ps all).2.2
end Sp
abbrev Xt (ds : DS) : DS := match ds with | [[.l qs, .l ps, .i all]] => [[.i (Sp.chkP qs ps all)], [.i (Sp.chkI qs ps all)], [.i (Sp.chkE qs ps all)]] | _ => []
noncomputable def T2 : Tab Try.prog := ⟨[Xjr, Xc9, Xc8], [], []⟩
def Xff [InW] (e : List Ed) (K : Nat -> List Ed -> Prop) : Prop := match e with
 | [.i i, .ro _ qs, .ro _ ps, .i all] => Pre (0 <= i /\ i <= qs.xs.length) (Vif (Sp.hasE (Sp.qErr ps.xs.length qs.xs) i.toNat (qs.xs.length - i.toNat))
   (K 1 [.i (Sp.idxE (Sp.qErr ps.xs.length qs.xs) i.toNat (qs.xs.length - i.toNat)), .i (Sp.qErr ps.xs.length qs.xs (Sp.idxE (Sp.qErr ps.xs.length qs.xs) i.toNat (qs.xs.length - i.toNat)))]) (K 0 [.ro _ qs, .ro _ ps, .i all]))
 | _ => False
noncomputable def Xg3 : LC where
 len := 84
 T := [(1, (.ptr 1 0)), (5, .int .i64)]
 H := [(1, .blk 25 [.rs tyQ, .rs Jc, .int .i64])]
 W := ([2, 3, 4, 6] ++ rg 20 45)
 outs := [⟨.exit 0, [(1, (.ptr 1 0))], [(1, .blk 25 [.rs tyQ, .rs Jc, .int .i64])], (rg 2 5 ++ rg 20 45)⟩, ⟨.ret, [(2, (.lit (.int .i64 2))), (3, .int .i64), (4, .int .i64)], [], ([1, 5, 6] ++ rg 20 45)⟩]
 spec := Xff
def Xei [W : InW] (i : Int) (qs : Ro tyQ) (ps : Ro Jc) (all : Int) (A : List Ed -> Prop) (K : Nat -> List Ed -> Prop) : Prop :=
 Vif (decide (i < (↑(qs.xs.length) : Int))) (Need (decide (0 <= i) && decide (i < (↑(qs.xs.length) : Int))) (Need (decide (i.toNat < qs.xs.length)) (Ar .i64 ((↑(ps.xs.length) : Int) - 1) fun z => Pre True (Vif (!Sp.inr (cel qs.xs i.toNat (0 : Nat)).int (0 : Int) z) (K (0+1) [.i i, .i (4 : Int)]) (Pre True (Vif (!Sp.inr (cel qs.xs i.toNat (0+1)).int (2 : Int) (4 : Int)) (K (0+1) [.i i, .i (7 : Int)]) (Ar .i64 ((cel qs.xs i.toNat (0+1)).int - 1) fun z => Pre True (Vif (!Sp.inr (cel qs.xs i.toNat ((0 : Nat) + 1 + 1)).int (0 : Int) z) (K (0+1) [.i i, .i (4 : Int)]) (Pre True (Vif (!Sp.inr (cel qs.xs i.toNat ((0 : Nat) + 1 + 1 + 1)).int (0 : Int) (20 : Int)) (K (0+1) [.i i, .i (7 : Int)]) (Pre True (Vif (!Sp.inr (cel qs.xs i.toNat ((0 : Nat) + 1 + 1 + 1 + 1)).int (0 : Int) (20 : Int)) (K (0+1) [.i i, .i (7 : Int)]) (Ar .i64 (i + 1) fun z => A [.i z, .ro _ qs, .ro _ ps, .i all]))))))))))))) (K 0 [.ro _ qs, .ro _ ps, .i all])
theorem Xle (W : InW) (i qs ps all A K) : Yfc { cxT Try.prog TT T2 1000 50 with fn := 18 } 1000 (Yn7 Try.prog 18 5) (Yd6 84 [(1, .ptr 1 0), (5, .si .i64 i)] ([2, 3, 4, 6] ++ rg 20 45)) [(1, .blk 25 [.rs _ qs, .rs _ ps, .si .i64 all])] (Yug Xg3 A K) = Xei i qs ps all A K := by kernel_rfl
def Xgc : Prop := ∀ (W : InW) (body a : Code), (Try.prog.funcs[18]?).bind (·.body) = some body -> a ∈ Yy body -> Yfx a = 5 -> @Ymq W Try.prog a (@Yto W Xg3)
theorem Xmw (meas : [InW] -> List Ed -> Nat) (hyp_ : ∀ (W : InW) i qs ps all K, Xff [.i i, .ro _ qs, .ro _ ps, .i all] K -> ∀ A : List Ed -> Prop, (∀ e, meas e < meas [.i i, .ro _ qs, .ro _ ps, .i all] -> Xff e K -> A e) -> Xei i qs ps all A K) : Xgc :=
 LE.okOf' (fun W => @TT W) (fun W => @Xe W) Xa T2 1000 50 (by kernel_rfl) Xg3 (fun W => @meas W) fun W i qs ps all K hs =>
  (Xle W i qs ps all (fun e => meas e < meas [.i i, .ro _ qs, .ro _ ps, .i all] /\ Xff e K) K).mpr (hyp_ W i qs ps all K hs _ fun e h1 h2 => ⟨h1, h2⟩)
theorem Xfz (np : Nat) (qs : Dt) (i : Nat) : Sp.qErr np qs i = if Sp.inr (cel qs i 0).int 0 ((np : Int) - 1) then (if Sp.inr (cel qs i 1).int 2 4 then (if Sp.inr (cel qs i 2).int 0 ((cel qs i 1).int - 1) then (if Sp.inr (cel qs i 3).int 0 20 && Sp.inr (cel qs i 4).int 0 20 then 0 else 7) else 4) else 7) else 4 := rfl
theorem Xpf : Xgc := Xmw (fun e => match e with | [.i i, .ro _ qs, _, _] => ((qs.xs.length : Int) - i).toNat | _ => 0) fun W i qs ps all K hs A hA => by
 obtain ⟨⟨h0, h1⟩, hk⟩ := hs;unfold Xei;have hm := qs.len;have hm2 := ps.len;simp only [maxLen] at hm hm2;refine vifd (fun e => ?_) fun e => ?_
 ·rw [show qs.xs.length - i.toNat = (qs.xs.length - (i.toNat + 1)) + 1 by omega] at hk;obtain ⟨g1, g2⟩ := Xdi (K1 := fun j e => K 1 [.i j, .i e]) hk;rw [Int.toNat_of_nonneg h0] at g1;have ez : (i + 1).toNat = i.toNat + 1 := by omega
  have hA' : Sp.qErr ps.xs.length qs.xs i.toNat = 0 -> A [.i (i + 1), .ro _ qs, .ro _ ps, .i all] := fun f => hA _ (by show ((qs.xs.length : Int) - (i + 1)).toNat < ((qs.xs.length : Int) - i).toNat; omega) ⟨⟨by omega, by omega⟩, by rw [ez]; exact g2 f⟩;have bad : ∀ n, Sp.qErr ps.xs.length qs.xs i.toNat = n -> n ≠ 0 -> K 1 [.i i, .i n] := fun n hn h => by rw [<- hn]; exact g1 (by rw [hn]; exact h)
  have eN := Lib.hid (Xfz ps.xs.length qs.xs i.toNat);have i1 := fun h => Sp.inr_iff.1 (show Sp.inr (cel qs.xs i.toNat 1).int 2 4 = true from h);clear g1 g2 hk hA;generalize Sp.qErr ps.xs.length qs.xs i.toNat = E at *;simp only [Nat.zero_add, Nat.reduceAdd]
  repeat' (first | (with_reducible refine ar64 (by have := i1 (by assumption); omega) ?_) | omega | intro _ | with_reducible first | apply vifd | apply vifn | apply vifq | apply Xd | apply Xc | apply vifb | apply vif | apply nedd | apply ned2 | apply ned | apply ar64 | apply Xb | exact True.intro | assumption | rfl | apply And.intro)
  all_goals first | exact bad _ (by rw [eN.out]; simp [*]) (by omega) | exact hA' (by rw [eN.out]; simp [*]) | (have := i1 (by assumption); omega) | skip
  all_goals trace_state
 ·rw [show qs.xs.length - i.toNat = 0 by omega] at hk;exact hk.2 rfl
noncomputable def Xqb : LE Try.prog := ⟨18, 5, fun W => @Yto W Xg3, Xpf⟩
def Xfg [InW] (e : List Ed) (K : Nat -> List Ed -> Prop) : Prop := match e with
 | [.i i, .ro _ qs, .ro _ ps, .i all] => Pre (0 <= i /\ i <= ps.xs.length) (Vif (Sp.hasE (Sp.pErr ps.xs) i.toNat (ps.xs.length - i.toNat))
   (K 1 [.i (Sp.idxE (Sp.pErr ps.xs) i.toNat (ps.xs.length - i.toNat)), .i (Sp.pErr ps.xs (Sp.idxE (Sp.pErr ps.xs) i.toNat (ps.xs.length - i.toNat)))]) (K 0 [.ro _ qs, .ro _ ps, .i all]))
 | _ => False
noncomputable def Xg4 : LC where
 len := 84
 T := [(1, (.ptr 1 0)), (7, .int .i64)]
 H := [(1, .blk 25 [.rs tyQ, .rs Jc, .int .i64])]
 W := ([2, 3, 4] ++ rg 65 15)
 outs := [⟨.exit 2, [(1, (.ptr 1 0))], [(1, .blk 25 [.rs tyQ, .rs Jc, .int .i64])], ([2, 3, 4, 7] ++ rg 65 15)⟩, ⟨.ret, [(2, (.lit (.int .i64 3))), (3, .int .i64), (4, .int .i64)], [], ([1, 7] ++ rg 65 15)⟩]
 spec := Xfg
def Xej [W : InW] (i : Int) (qs : Ro tyQ) (ps : Ro Jc) (all : Int) (A : List Ed -> Prop) (K : Nat -> List Ed -> Prop) : Prop :=
 Vif (decide (i < (↑(ps.xs.length) : Int))) (Need (decide (0 <= i) && decide (i < (↑(ps.xs.length) : Int))) (Need (decide (i.toNat < ps.xs.length)) (Pre True (Vif (!Sp.inr (cel ps.xs i.toNat (0 : Nat)).int (-240 : Int) (240 : Int)) (K (0+1) [.i i, .i (7 : Int)]) (Ar .i64 (i + 1) fun z => A [.i z, .ro _ qs, .ro _ ps, .i all]))))) (K 0 [.ro _ qs, .ro _ ps, .i all])
theorem Xlf (W : InW) (i qs ps all A K) : Yfc { cxT Try.prog TT T2 1000 50 with fn := 18 } 1000 (Yn7 Try.prog 18 17) (Yd6 84 [(1, .ptr 1 0), (7, .si .i64 i)] ([2, 3, 4] ++ rg 65 15)) [(1, .blk 25 [.rs _ qs, .rs _ ps, .si .i64 all])] (Yug Xg4 A K) = Xej i qs ps all A K := by kernel_rfl
def Xgd : Prop := ∀ (W : InW) (body a : Code), (Try.prog.funcs[18]?).bind (·.body) = some body -> a ∈ Yy body -> Yfx a = 17 -> @Ymq W Try.prog a (@Yto W Xg4)
theorem Xmx (meas : [InW] -> List Ed -> Nat) (hyp_ : ∀ (W : InW) i qs ps all K, Xfg [.i i, .ro _ qs, .ro _ ps, .i all] K -> ∀ A : List Ed -> Prop, (∀ e, meas e < meas [.i i, .ro _ qs, .ro _ ps, .i all] -> Xfg e K -> A e) -> Xej i qs ps all A K) : Xgd :=
 LE.okOf' (fun W => @TT W) (fun W => @Xe W) Xa T2 1000 50 (by kernel_rfl) Xg4 (fun W => @meas W) fun W i qs ps all K hs =>
  (Xlf W i qs ps all (fun e => meas e < meas [.i i, .ro _ qs, .ro _ ps, .i all] /\ Xfg e K) K).mpr (hyp_ W i qs ps all K hs _ fun e h1 h2 => ⟨h1, h2⟩)
theorem Xf0 (ps : Dt) (i : Nat) : Sp.pErr ps i = if Sp.inr (cel ps i 0).int (-240) 240 then 0 else 7 := rfl
theorem Xpg : Xgd := Xmx (fun e => match e with | [.i i, _, .ro _ ps, _] => ((ps.xs.length : Int) - i).toNat | _ => 0) fun W i qs ps all K hs A hA => by
 obtain ⟨⟨h0, h1⟩, hk⟩ := hs;unfold Xej;have hm := ps.len;simp only [maxLen] at hm;refine vifd (fun e => ?_) fun e => ?_
 ·rw [show ps.xs.length - i.toNat = (ps.xs.length - (i.toNat + 1)) + 1 by omega] at hk;obtain ⟨g1, g2⟩ := Xdi (K1 := fun j e => K 1 [.i j, .i e]) hk;rw [Int.toNat_of_nonneg h0] at g1;have ez : (i + 1).toNat = i.toNat + 1 := by omega
  have hA' : Sp.pErr ps.xs i.toNat = 0 -> A [.i (i + 1), .ro _ qs, .ro _ ps, .i all] := fun f => hA _ (by show ((ps.xs.length : Int) - (i + 1)).toNat < ((ps.xs.length : Int) - i).toNat; omega) ⟨⟨by omega, by omega⟩, by rw [ez]; exact g2 f⟩;have bad : ∀ n, Sp.pErr ps.xs i.toNat = n -> n ≠ 0 -> K 1 [.i i, .i n] := fun n hn h => by rw [<- hn]; exact g1 (by rw [hn]; exact h)
  have eN := Lib.hid (Xf0 ps.xs i.toNat);clear g1 g2 hk hA;generalize Sp.pErr ps.xs i.toNat = E at *;simp only [Nat.zero_add, Nat.reduceAdd]
  repeat' (first | omega | intro _ | with_reducible first | apply vifd | apply vifn | apply vifq | apply Xd | apply Xc | apply vifb | apply vif | apply nedd | apply ned2 | apply ned | apply ar64 | apply Xb | exact True.intro | assumption | rfl | apply And.intro)
  all_goals first | exact bad _ (by rw [eN.out]; simp [*]) (by omega) | exact hA' (by rw [eN.out]; simp [*])
 ·rw [show ps.xs.length - i.toNat = 0 by omega] at hk;exact hk.2 rfl
noncomputable def Xqc : LE Try.prog := ⟨18, 17, fun W => @Yto W Xg4, Xpg⟩
noncomputable def T3 : Tab Try.prog := ⟨[Xjr, Xc9], [Xqb, Xqc], []⟩
def Zb := (0 : Int)
def Za := Int.toNat Zb
def Xbx [W : InW] (k_Qs : Ro tyQ) (k_Ps : Ro Jc) (k_All : Int) (Q : DS -> Prop) : Prop :=
 Pre True (Vif (!Sp.inr (↑(k_Qs.xs.length) : Int) (1 : Int) (12 : Int)) (Q [[Cl.i 1], [Cl.i 0], [Cl.i 3]]) (Pre True (Vif (!Sp.inr (↑(k_Ps.xs.length) : Int) (1 : Int) (4 : Int)) (Q [[Cl.i 1], [Cl.i 0], [Cl.i 3]]) (Pre (Zb <= 0 /\ Zb <= (↑(k_Qs.xs.length) : Int)) (Vif (Sp.hasE (Sp.qErr (k_Ps.xs.length) k_Qs.xs) Za (k_Qs.xs.length - Int.toNat Zb)) (Q [[Cl.i 2], [Cl.i (↑(Sp.idxE (Sp.qErr (k_Ps.xs.length) k_Qs.xs) Za (k_Qs.xs.length - Int.toNat Zb)) : Int)], [Cl.i (Sp.qErr (k_Ps.xs.length) k_Qs.xs (Sp.idxE (Sp.qErr (k_Ps.xs.length) k_Qs.xs) Za (k_Qs.xs.length - Int.toNat Zb)))]]) (Pre (Zb <= 0 /\ Zb <= (↑(k_Ps.xs.length) : Int)) (Vif (Sp.hasE (Sp.pErr k_Ps.xs) Za (k_Ps.xs.length - Int.toNat Zb)) (Q [[Cl.i 3], [Cl.i (↑(Sp.idxE (Sp.pErr k_Ps.xs) Za (k_Ps.xs.length - Int.toNat Zb)) : Int)], [Cl.i (Sp.pErr k_Ps.xs (Sp.idxE (Sp.pErr k_Ps.xs) Za (k_Ps.xs.length - Int.toNat Zb)))]]) (Pre True (Vif (!Sp.inr k_All (-240 : Int) (240 : Int)) (Q [[Cl.i 4], [Cl.i 0], [Cl.i 7]]) (Q [[Cl.i 0], [Cl.i 0], [Cl.i 0]]))))))))))
theorem Xhn (W : InW) (k_Qs k_Ps k_All Q) : Ywr (cxT Try.prog TT T3 1000 50) 1000 18 [.agg [.rs _ k_Qs, .rs _ k_Ps, .si .i64 k_All]] [] 0 (Y01 [(false, [.int .i64]), (false, [.int .i64]), (false, [.int .i64])] Q) (fun _ _ _ _ => Stuck 421) = Xbx k_Qs k_Ps k_All Q := by kernel_rfl
abbrev X3 : List AT := [.agg [.sl tyQ, .sl Jc, .int .i64]]
theorem Xh7 {pre : DS -> Prop} {res : DS -> DS} (hyp_ : ∀ (W : InW) (k_Qs : Ro tyQ) (k_Ps : Ro Jc) (k_All : Int), pre [[.l k_Qs.xs, .l k_Ps.xs, .i k_All]] -> ∀ Q : DS -> Prop, Q (res [[.l k_Qs.xs, .l k_Ps.xs, .i k_All]]) -> Xbx k_Qs k_Ps k_All Q) : PureOk Try.prog 18 X3 [(false, [.int .i64]), (false, [.int .i64]), (false, [.int .i64])] pre res :=
 PureOk.of' (fun W => @TT W) (fun W => @Xe W) Xa T3 1000 50 fun W k_Qs k_Ps k_All hp =>
  (Xhn W k_Qs k_Ps k_All (fun o => o = res [[.l k_Qs.xs, .l k_Ps.xs, .i k_All]])).mpr (hyp_ W k_Qs k_Ps k_All hp _ rfl)
theorem Xio {qs ps : Dt} {all : Int} {Q : Int × Int × Int -> Prop} (h : Q (Sp.chk qs ps all)) :
  let c := Sp.inr qs.length 1 12 && Sp.inr ps.length 1 4
  (c = false -> Q (1, 0, 3)) /\
  (c = true -> Sp.hasE (Sp.qErr ps.length qs) 0 qs.length = true -> Q (2, Sp.idxE (Sp.qErr ps.length qs) 0 qs.length, Sp.qErr ps.length qs (Sp.idxE (Sp.qErr ps.length qs) 0 qs.length))) /\
  (c = true -> Sp.hasE (Sp.qErr ps.length qs) 0 qs.length = false -> Sp.hasE (Sp.pErr ps) 0 ps.length = true -> Q (3, Sp.idxE (Sp.pErr ps) 0 ps.length, Sp.pErr ps (Sp.idxE (Sp.pErr ps) 0 ps.length))) /\
  (c = true -> Sp.hasE (Sp.qErr ps.length qs) 0 qs.length = false -> Sp.hasE (Sp.pErr ps) 0 ps.length = false -> Sp.inr all (-240) 240 = false -> Q (4, 0, 7)) /\
  (c = true -> Sp.hasE (Sp.qErr ps.length qs) 0 qs.length = false -> Sp.hasE (Sp.pErr ps) 0 ps.length = false -> Sp.inr all (-240) 240 = true -> Q (0, 0, 0)) := by
 intro c;unfold Sp.chk at h;refine ⟨fun e => ?_, fun e e1 => ?_, fun e e1 e2 => ?_, fun e e1 e2 e3 => ?_, fun e e1 e2 e3 => ?_⟩
 ·rw [if_neg (by show ¬ c = true; simp [e])] at h; exact h
 ·rw [if_pos (show c = true from e), if_pos e1] at h; exact h
 ·rw [if_pos (show c = true from e), if_neg (by simp [e1]), if_pos e2] at h; exact h
 ·rw [if_pos (show c = true from e), if_neg (by simp [e1]), if_neg (by simp [e2]), if_neg (by simp [e3])] at h; exact h
 ·rw [if_pos (show c = true from e), if_neg (by simp [e1]), if_neg (by simp [e2]), if_pos e3] at h; exact h
theorem Xjv : PureOk Try.prog 18 X3 [(false, [.int .i64]), (false, [.int .i64]), (false, [.int .i64])] (fun _ => True) Xt :=
 Xh7 fun W qs ps all hp Q h => by
  unfold Xbx;delta Za Zb;obtain ⟨q0, q1, q2, q3, q4⟩ := Xio (Q := fun r => Q [[.i r.1], [.i r.2.1], [.i r.2.2]]) h;clear h;simp only [show Int.toNat 0 = 0 from rfl, Nat.sub_zero]
  repeat' (first | omega | intro _ | with_reducible first | apply vifd | apply vifn | apply vifq | apply Xd | apply Xc | apply vifb | apply vif | apply nedd | apply ned2 | apply ned | apply ar64 | apply Xb | exact True.intro | assumption | rfl | apply And.intro)
  all_goals first | exact q4 (by simp [*]) (by assumption) (by assumption) (by assumption) | exact q3 (by simp [*]) (by assumption) (by assumption) (by assumption) | exact q2 (by simp [*]) (by assumption) (by assumption) | exact q1 (by simp [*]) (by assumption) | exact q0 (by simp [*])
noncomputable def Xc7 : PC Try.prog := ⟨18, X3, [(false, [.int .i64]), (false, [.int .i64]), (false, [.int .i64])], fun _ => True, Xt, Xjv⟩
def Xfk [InW] (e : List Ed) (K : Nat -> List Ed -> Prop) : Prop := match e with
 | [.ro _ q2, .i n, .i i, .ro _ qs, .ro _ ps, .i all] => Pre (0 <= i /\ i <= qs.xs.length /\ n = qs.xs.length /\ q2.xs = qs.xs) (Vif (Sp.hasE (Sp.qErr ps.xs.length qs.xs) i.toNat (qs.xs.length - i.toNat))
   (K 1 [.i (Sp.idxE (Sp.qErr ps.xs.length qs.xs) i.toNat (qs.xs.length - i.toNat)), .i (Sp.qErr ps.xs.length qs.xs (Sp.idxE (Sp.qErr ps.xs.length qs.xs) i.toNat (qs.xs.length - i.toNat)))]) (K 0 [.ro _ qs, .ro _ ps, .i all]))
 | _ => False
noncomputable def Xg8 : LC where
 len := 80
 T := [(1, (.ptr 1 0)), (22, .rs tyQ), (23, .int .i64), (24, .int .i64)]
 H := [(1, .blk 25 [.rs tyQ, .rs Jc, .int .i64])]
 W := (rg 2 5 ++ rg 25 38)
 outs := [⟨.exit 0, [(1, (.ptr 1 0))], [(1, .blk 25 [.rs tyQ, .rs Jc, .int .i64])], (rg 2 5 ++ rg 22 41)⟩, ⟨.ret, [(2, (.lit (.int .i64 2))), (3, .int .i64), (4, .int .i64)], [], ([1, 5, 6] ++ rg 22 41)⟩]
 spec := Xfk
def Xen [W : InW] (q2 : Ro tyQ) (n i : Int) (qs : Ro tyQ) (ps : Ro Jc) (all : Int) (A : List Ed -> Prop) (K : Nat -> List Ed -> Prop) : Prop :=
 Vif (decide (i < n)) (Need (decide (0 <= i) && decide (i < (↑(q2.xs.length) : Int))) (Need (decide (i.toNat < q2.xs.length)) (Ar .i64 ((↑(ps.xs.length) : Int) - 1) fun z => Pre True (Vif (Sp.out Zb z [[Cl.i (cel q2.xs i.toNat (0 : Nat)).int]]) (K (0+1) [.i i, .i (4 : Int)]) (Pre True (Vif (Sp.out (2 : Int) (4 : Int) [[Cl.i (cel q2.xs i.toNat (0+1)).int]]) (K (0+1) [.i i, .i (7 : Int)]) (Ar .i64 ((cel q2.xs i.toNat (0+1)).int - 1) fun z => Pre True (Vif (Sp.out Zb z [[Cl.i (cel q2.xs i.toNat ((0 : Nat) + 1 + 1)).int]]) (K (0+1) [.i i, .i (4 : Int)]) (Pre True (Vif (Sp.out Zb (20 : Int) [[Cl.i (cel q2.xs i.toNat ((0 : Nat) + 1 + 1 + 1)).int], [Cl.i (cel q2.xs i.toNat ((0 : Nat) + 1 + 1 + 1 + 1)).int]]) (K (0+1) [.i i, .i (7 : Int)]) (Ar .i64 (i + 1) fun z => A [.ro _ q2, .i n, .i z, .ro _ qs, .ro _ ps, .i all]))))))))))) (K 0 [.ro _ qs, .ro _ ps, .i all])
theorem Xlj (W : InW) (q2 n i qs ps all A K) : Yfc { cxT Try.prog TT T2 1000 50 with fn := 17 } 1000 (Yn7 Try.prog 17 5) (Yd6 80 [(1, .ptr 1 0), (22, .rs _ q2), (23, .si .i64 n), (24, .si .i64 i)] (rg 2 5 ++ rg 25 38)) [(1, .blk 25 [.rs _ qs, .rs _ ps, .si .i64 all])] (Yug Xg8 A K) = Xen q2 n i qs ps all A K := by kernel_rfl
def Xgh : Prop := ∀ (W : InW) (body a : Code), (Try.prog.funcs[17]?).bind (·.body) = some body -> a ∈ Yy body -> Yfx a = 5 -> @Ymq W Try.prog a (@Yto W Xg8)
theorem Xm1 (meas : [InW] -> List Ed -> Nat) (hyp_ : ∀ (W : InW) q2 n i qs ps all K, Xfk [.ro _ q2, .i n, .i i, .ro _ qs, .ro _ ps, .i all] K -> ∀ A : List Ed -> Prop, (∀ e, meas e < meas [.ro _ q2, .i n, .i i, .ro _ qs, .ro _ ps, .i all] -> Xfk e K -> A e) -> Xen q2 n i qs ps all A K) : Xgh :=
 LE.okOf' (fun W => @TT W) (fun W => @Xe W) Xa T2 1000 50 (by kernel_rfl) Xg8 (fun W => @meas W) fun W q2 n i qs ps all K hs =>
  (Xlj W q2 n i qs ps all (fun e => meas e < meas [.ro _ q2, .i n, .i i, .ro _ qs, .ro _ ps, .i all] /\ Xfk e K) K).mpr (hyp_ W q2 n i qs ps all K hs _ fun e h1 h2 => ⟨h1, h2⟩)
theorem Xpk : Xgh := Xm1 (fun e => match e with | [_, _, .i i, .ro _ qs, _, _] => ((qs.xs.length : Int) - i).toNat | _ => 0) fun W q2 n i qs ps all K hs A hA => by
 obtain ⟨⟨h0, h1, rfl, hq⟩, hk⟩ := hs;unfold Xen;delta Zb;have hm := qs.len;have hm2 := ps.len;simp only [maxLen] at hm hm2;refine vifd (fun e => ?_) fun e => ?_
 ·rw [show qs.xs.length - i.toNat = (qs.xs.length - (i.toNat + 1)) + 1 by omega] at hk;obtain ⟨g1, g2⟩ := Xdi (K1 := fun j e => K 1 [.i j, .i e]) hk;rw [Int.toNat_of_nonneg h0] at g1;have ez : (i + 1).toNat = i.toNat + 1 := by omega
  have hA' : Sp.qErr ps.xs.length qs.xs i.toNat = 0 -> A [.ro _ q2, .i qs.xs.length, .i (i + 1), .ro _ qs, .ro _ ps, .i all] := fun f => hA _ (by show ((qs.xs.length : Int) - (i + 1)).toNat < ((qs.xs.length : Int) - i).toNat; omega) ⟨⟨by omega, by omega, rfl, hq⟩, by rw [ez]; exact g2 f⟩;have bad : ∀ n, Sp.qErr ps.xs.length qs.xs i.toNat = n -> n ≠ 0 -> K 1 [.i i, .i n] := fun n hn h => by rw [<- hn]; exact g1 (by rw [hn]; exact h)
  have eN := Lib.hid (Xfz ps.xs.length qs.xs i.toNat);have i1 := fun h => Sp.inr_iff.1 (show Sp.inr (cel qs.xs i.toNat 1).int 2 4 = true from h);clear g1 g2 hk hA;generalize Sp.qErr ps.xs.length qs.xs i.toNat = E at *;have hl2 : q2.xs.length = qs.xs.length := by rw [hq]
  simp only [Nat.zero_add, Nat.reduceAdd, out1, out2, hq]
  repeat' (first | (with_reducible refine ar64 (by have := i1 (by assumption); omega) ?_) | omega | intro _ | with_reducible first | apply vifd | apply vifn | apply vifq | apply Xd | apply Xc | apply vifb | apply vif | apply nedd | apply ned2 | apply ned | apply ar64 | apply Xb | exact True.intro | assumption | rfl | apply And.intro)
  all_goals first | (refine bad 7 ?_ (by omega); rw [eN.out]; simp_all; done) | (refine bad 4 ?_ (by omega); rw [eN.out]; simp_all; done) | (refine hA' ?_; rw [eN.out]; simp_all; done) | (refine bad 7 ?_ (by omega); rw [eN.out]; simp_all; grind)
 ·rw [show qs.xs.length - i.toNat = 0 by omega] at hk;exact hk.2 rfl
noncomputable def Xqg : LE Try.prog := ⟨17, 5, fun W => @Yto W Xg8, Xpk⟩
def Xfl [InW] (e : List Ed) (K : Nat -> List Ed -> Prop) : Prop := match e with
 | [.ro _ q2, .i n, .i i, .ro _ qs, .ro _ ps, .i all] => Pre (0 <= i /\ i <= ps.xs.length /\ n = ps.xs.length /\ q2.xs = ps.xs) (Vif (Sp.hasE (Sp.pErr ps.xs) i.toNat (ps.xs.length - i.toNat))
   (K 1 [.i (Sp.idxE (Sp.pErr ps.xs) i.toNat (ps.xs.length - i.toNat)), .i (Sp.pErr ps.xs (Sp.idxE (Sp.pErr ps.xs) i.toNat (ps.xs.length - i.toNat)))]) (K 0 [.ro _ qs, .ro _ ps, .i all]))
 | _ => False
noncomputable def Xg9 : LC where
 len := 80
 T := [(1, (.ptr 1 0)), (64, .rs Jc), (65, .int .i64), (66, .int .i64)]
 H := [(1, .blk 25 [.rs tyQ, .rs Jc, .int .i64])]
 W := ([2, 3, 4, 7, 8] ++ rg 67 9)
 outs := [⟨.exit 3, [(1, (.ptr 1 0))], [(1, .blk 25 [.rs tyQ, .rs Jc, .int .i64])], ([2, 3, 4, 7, 8] ++ rg 64 12)⟩, ⟨.ret, [(2, (.lit (.int .i64 3))), (3, .int .i64), (4, .int .i64)], [], ([1, 7, 8] ++ rg 64 12)⟩]
 spec := Xfl
def Xeo [W : InW] (q2 : Ro Jc) (n i : Int) (qs : Ro tyQ) (ps : Ro Jc) (all : Int) (A : List Ed -> Prop) (K : Nat -> List Ed -> Prop) : Prop :=
 Vif (decide (i < n)) (Need (decide (0 <= i) && decide (i < (↑(q2.xs.length) : Int))) (Need (decide (i.toNat < q2.xs.length)) (Pre True (Vif (Sp.out (-240 : Int) (240 : Int) [[Cl.i (cel q2.xs i.toNat (0 : Nat)).int]]) (K (0+1) [.i i, .i (7 : Int)]) (Ar .i64 (i + 1) fun z => A [.ro _ q2, .i n, .i z, .ro _ qs, .ro _ ps, .i all]))))) (K 0 [.ro _ qs, .ro _ ps, .i all])
theorem Xlk (W : InW) (q2 n i qs ps all A K) : Yfc { cxT Try.prog TT T2 1000 50 with fn := 17 } 1000 (Yn7 Try.prog 17 17) (Yd6 80 [(1, .ptr 1 0), (64, .rs _ q2), (65, .si .i64 n), (66, .si .i64 i)] ([2, 3, 4, 7, 8] ++ rg 67 9)) [(1, .blk 25 [.rs _ qs, .rs _ ps, .si .i64 all])] (Yug Xg9 A K) = Xeo q2 n i qs ps all A K := by kernel_rfl
def Xgi : Prop := ∀ (W : InW) (body a : Code), (Try.prog.funcs[17]?).bind (·.body) = some body -> a ∈ Yy body -> Yfx a = 17 -> @Ymq W Try.prog a (@Yto W Xg9)
theorem Xm2 (meas : [InW] -> List Ed -> Nat) (hyp_ : ∀ (W : InW) q2 n i qs ps all K, Xfl [.ro _ q2, .i n, .i i, .ro _ qs, .ro _ ps, .i all] K -> ∀ A : List Ed -> Prop, (∀ e, meas e < meas [.ro _ q2, .i n, .i i, .ro _ qs, .ro _ ps, .i all] -> Xfl e K -> A e) -> Xeo q2 n i qs ps all A K) : Xgi :=
 LE.okOf' (fun W => @TT W) (fun W => @Xe W) Xa T2 1000 50 (by kernel_rfl) Xg9 (fun W => @meas W) fun W q2 n i qs ps all K hs =>
  (Xlk W q2 n i qs ps all (fun e => meas e < meas [.ro _ q2, .i n, .i i, .ro _ qs, .ro _ ps, .i all] /\ Xfl e K) K).mpr (hyp_ W q2 n i qs ps all K hs _ fun e h1 h2 => ⟨h1, h2⟩)
theorem Xpl : Xgi := Xm2 (fun e => match e with | [_, _, .i i, _, .ro _ ps, _] => ((ps.xs.length : Int) - i).toNat | _ => 0) fun W q2 n i qs ps all K hs A hA => by
 obtain ⟨⟨h0, h1, rfl, hq⟩, hk⟩ := hs;unfold Xeo;have hm := ps.len;simp only [maxLen] at hm;refine vifd (fun e => ?_) fun e => ?_
 ·rw [show ps.xs.length - i.toNat = (ps.xs.length - (i.toNat + 1)) + 1 by omega] at hk;obtain ⟨g1, g2⟩ := Xdi (K1 := fun j e => K 1 [.i j, .i e]) hk;rw [Int.toNat_of_nonneg h0] at g1;have ez : (i + 1).toNat = i.toNat + 1 := by omega
  have hA' : Sp.pErr ps.xs i.toNat = 0 -> A [.ro _ q2, .i ps.xs.length, .i (i + 1), .ro _ qs, .ro _ ps, .i all] := fun f => hA _ (by show ((ps.xs.length : Int) - (i + 1)).toNat < ((ps.xs.length : Int) - i).toNat; omega) ⟨⟨by omega, by omega, rfl, hq⟩, by rw [ez]; exact g2 f⟩;have bad : ∀ n, Sp.pErr ps.xs i.toNat = n -> n ≠ 0 -> K 1 [.i i, .i n] := fun n hn h => by rw [<- hn]; exact g1 (by rw [hn]; exact h)
  have eN := Lib.hid (Xf0 ps.xs i.toNat);clear g1 g2 hk hA;generalize Sp.pErr ps.xs i.toNat = E at *;have hl2 : q2.xs.length = ps.xs.length := by rw [hq]
  simp only [Nat.zero_add, Nat.reduceAdd, out1, hq]
  repeat' (first | omega | intro _ | with_reducible first | apply vifd | apply vifn | apply vifq | apply Xd | apply Xc | apply vifb | apply vif | apply nedd | apply ned2 | apply ned | apply ar64 | apply Xb | exact True.intro | assumption | rfl | apply And.intro)
  all_goals first | exact bad _ (by rw [eN.out]; simp_all) (by omega) | exact hA' (by rw [eN.out]; simp_all)
 ·rw [show ps.xs.length - i.toNat = 0 by omega] at hk;exact hk.2 rfl
noncomputable def Xqh : LE Try.prog := ⟨17, 17, fun W => @Yto W Xg9, Xpl⟩
noncomputable def T4 : Tab Try.prog := ⟨[Xc8], [Xqg, Xqh], []⟩
def Xbz [W : InW] (k_Qs : Ro tyQ) (k_Ps : Ro Jc) (k_All : Int) (Q : DS -> Prop) : Prop :=
 Pre True (Vif (Sp.out (1 : Int) (12 : Int) [[Cl.i (↑(k_Qs.xs.length) : Int)]]) (Q [[Cl.i 1], [Cl.i 0], [Cl.i 3]]) (Pre True (Vif (Sp.out (1 : Int) (4 : Int) [[Cl.i (↑(k_Ps.xs.length) : Int)]]) (Q [[Cl.i 1], [Cl.i 0], [Cl.i 3]]) (Pre (Zb <= 0 /\ Zb <= (↑(k_Qs.xs.length) : Int) /\ (↑(k_Qs.xs.length) : Int) = (↑(k_Qs.xs.length) : Int) /\ k_Qs.xs = k_Qs.xs) (Vif (Sp.hasE (Sp.qErr (k_Ps.xs.length) k_Qs.xs) Za (k_Qs.xs.length - Int.toNat Zb)) (Q [[Cl.i 2], [Cl.i (↑(Sp.idxE (Sp.qErr (k_Ps.xs.length) k_Qs.xs) Za (k_Qs.xs.length - Int.toNat Zb)) : Int)], [Cl.i (Sp.qErr (k_Ps.xs.length) k_Qs.xs (Sp.idxE (Sp.qErr (k_Ps.xs.length) k_Qs.xs) Za (k_Qs.xs.length - Int.toNat Zb)))]]) (Pre (Zb <= 0 /\ Zb <= (↑(k_Ps.xs.length) : Int) /\ (↑(k_Ps.xs.length) : Int) = (↑(k_Ps.xs.length) : Int) /\ k_Ps.xs = k_Ps.xs) (Vif (Sp.hasE (Sp.pErr k_Ps.xs) Za (k_Ps.xs.length - Int.toNat Zb)) (Q [[Cl.i 3], [Cl.i (↑(Sp.idxE (Sp.pErr k_Ps.xs) Za (k_Ps.xs.length - Int.toNat Zb)) : Int)], [Cl.i (Sp.pErr k_Ps.xs (Sp.idxE (Sp.pErr k_Ps.xs) Za (k_Ps.xs.length - Int.toNat Zb)))]]) (Pre True (Vif (Sp.out (-240 : Int) (240 : Int) [[Cl.i k_All]]) (Q [[Cl.i 4], [Cl.i 0], [Cl.i 7]]) (Q [[Cl.i 0], [Cl.i 0], [Cl.i 0]]))))))))))
theorem Xhp (W : InW) (k_Qs k_Ps k_All Q) : Ywr (cxT Try.prog TT T4 1000 50) 1000 17 [.agg [.rs _ k_Qs, .rs _ k_Ps, .si .i64 k_All]] [] 0 (Y01 [(false, [.int .i64]), (false, [.int .i64]), (false, [.int .i64])] Q) (fun _ _ _ _ => Stuck 421) = Xbz k_Qs k_Ps k_All Q := by kernel_rfl
abbrev X5 : List AT := [.agg [.sl tyQ, .sl Jc, .int .i64]]
theorem Xh9 {pre : DS -> Prop} {res : DS -> DS} (hyp_ : ∀ (W : InW) (k_Qs : Ro tyQ) (k_Ps : Ro Jc) (k_All : Int), pre [[.l k_Qs.xs, .l k_Ps.xs, .i k_All]] -> ∀ Q : DS -> Prop, Q (res [[.l k_Qs.xs, .l k_Ps.xs, .i k_All]]) -> Xbz k_Qs k_Ps k_All Q) : PureOk Try.prog 17 X5 [(false, [.int .i64]), (false, [.int .i64]), (false, [.int .i64])] pre res :=
 PureOk.of' (fun W => @TT W) (fun W => @Xe W) Xa T4 1000 50 fun W k_Qs k_Ps k_All hp =>
  (Xhp W k_Qs k_Ps k_All (fun o => o = res [[.l k_Qs.xs, .l k_Ps.xs, .i k_All]])).mpr (hyp_ W k_Qs k_Ps k_All hp _ rfl)
theorem Xjy : PureOk Try.prog 17 X5 [(false, [.int .i64]), (false, [.int .i64]), (false, [.int .i64])] (fun _ => True) Xt :=
 Xh9 fun W qs ps all hp Q h => by
  unfold Xbz;delta Za Zb;obtain ⟨q0, q1, q2, q3, q4⟩ := Xio (Q := fun r => Q [[.i r.1], [.i r.2.1], [.i r.2.2]]) h;clear h;simp only [show Int.toNat 0 = 0 from rfl, Nat.sub_zero, out1]
  repeat' (first | omega | intro _ | with_reducible first | apply vifd | apply vifn | apply vifq | apply Xd | apply Xc | apply vifb | apply vif | apply nedd | apply ned2 | apply ned | apply ar64 | apply Xb | exact True.intro | assumption | rfl | apply And.intro)
  all_goals first | exact q4 (by simp [*]) (by assumption) (by assumption) (by assumption) | exact q3 (by simp [*]) (by assumption) (by assumption) (by assumption) | exact q2 (by simp [*]) (by assumption) (by assumption) | exact q1 (by simp [*]) (by assumption) | exact q0 (by simp [*])
noncomputable def Xu : PC Try.prog := ⟨17, X5, [(false, [.int .i64]), (false, [.int .i64]), (false, [.int .i64])], fun _ => True, Xt, Xjy⟩
open Go.RowKit
set_option maxRecDepth 100000
set_option maxHeartbeats 1600000
abbrev Xh (ds : DS) : DS := [[.b true]]
abbrev Xn (ds : DS) : Prop := match ds with | [[.l a], [.l b]] => a = b | _ => False
abbrev Xc6 (ds : DS) : Prop := match ds with | [[.l a, .l p, .i n], [.l b, .l q, .i m]] => a = b /\ p = q /\ n = m | _ => False
def Xdj [InW] (ts : List Ty) (e : List Ed) (K : Nat -> List Ed -> Prop) : Prop := match e with
 | [.ro _ a, .ro _ b, .i i] => Pre (0 <= i /\ i <= a.xs.length /\ a.xs = b.xs) (K 0 [])
 | _ => False
def Xcb [InW] (e : List Ed) (K : Nat -> List Ed -> Prop) : Prop := Xdj [] e K
def Xbc [InW] (e : List Ed) (K : Nat -> List Ed -> Prop) : Prop := Xdj [] e K
def Xbb [InW] (e : List Ed) (K : Nat -> List Ed -> Prop) : Prop := Xdj [] e K
noncomputable def Xch : LC where
 len := 26
 T := [(0, .rs Jc), (1, .rs Jc), (5, .int .i64)]
 H := []
 W := ([4] ++ rg 11 15)
 outs := [⟨.exit 0, [], [], ([0, 1, 4, 5] ++ rg 11 15)⟩, ⟨.ret, [(4, (.lit (.bool false)))], [], ([0, 1, 5] ++ rg 11 15)⟩]
 spec := Xcb
def Xc0 [W : InW] (a b : Ro Jc) (i : Int) (A : List Ed -> Prop) (K : Nat -> List Ed -> Prop) : Prop :=
 Vif (decide (i < (↑(a.xs.length) : Int))) (Need (decide (0 <= i) && decide (i < (↑(a.xs.length) : Int))) (Need (decide (i.toNat < a.xs.length)) (Need (decide (0 <= i) && decide (i < (↑(b.xs.length) : Int))) (Need (decide (i.toNat < b.xs.length)) (Vif (!decide ((cel a.xs i.toNat (0 : Nat)).int = (cel b.xs i.toNat (0 : Nat)).int)) (K (0+1) []) (Ar .i64 (i + 1) fun z => A [.ro _ a, .ro _ b, .i z])))))) (K 0 [])
theorem Xi6 (W : InW) (a b i A K) : Yfc { cxT Try.prog TT T0 1000 50 with fn := 21 } 1000 (Yn7 Try.prog 21 5) (Yd6 26 [(0, .rs _ a), (1, .rs _ b), (5, .si .i64 i)] ([4] ++ rg 11 15)) [] (Yug Xch A K) = Xc0 a b i A K := by kernel_rfl
def Xdc : Prop := ∀ (W : InW) (body a : Code), (Try.prog.funcs[21]?).bind (·.body) = some body -> a ∈ Yy body -> Yfx a = 5 -> @Ymq W Try.prog a (@Yto W Xch)
theorem Xj3 (meas : [InW] -> List Ed -> Nat) (hyp_ : ∀ (W : InW) a b i K, Xcb [.ro _ a, .ro _ b, .i i] K -> ∀ A : List Ed -> Prop, (∀ e, meas e < meas [.ro _ a, .ro _ b, .i i] -> Xcb e K -> A e) -> Xc0 a b i A K) : Xdc :=
 LE.okOf' (fun W => @TT W) (fun W => @Xe W) Xa T0 1000 50 (by kernel_rfl) Xch (fun W => @meas W) fun W a b i K hs =>
  (Xi6 W a b i (fun e => meas e < meas [.ro _ a, .ro _ b, .i i] /\ Xcb e K) K).mpr (hyp_ W a b i K hs _ fun e h1 h2 => ⟨h1, h2⟩)
theorem Xnw : Xdc := Xj3 (fun e => match e with | [.ro _ a, _, .i i] => ((a.xs.length : Int) - i).toNat | _ => 0) fun W a b i K hs A hA => by
 obtain ⟨⟨h0, h1, h2⟩, hk⟩ := hs; have hm := a.len; simp only [maxLen] at hm; have hA' := hA [.ro _ a, .ro _ b, .i (i + 1)]; have hlt : i < a.xs.length -> ((a.xs.length : Int) - (i + 1)).toNat < ((a.xs.length : Int) - i).toNat := by omega
 have hl : a.xs.length = b.xs.length := by rw [h2]
 unfold Xc0;simp only [Nat.zero_add, Nat.reduceAdd, h2]
 repeat' (first | omega | intro _ | with_reducible first | apply vifd | apply vifn | apply vifq | apply Xd | apply Xc | apply vifb | apply vif | apply nedd | apply ned2 | apply ned | apply ar64 | apply Xb | exact True.intro | assumption | rfl | apply And.intro)
 all_goals first | exact hk | (exact hA' (hlt (by omega)) ⟨⟨by omega, by omega, h2⟩, hk⟩) | simp_all
noncomputable def Xn4 : LE Try.prog := ⟨21, 5, fun W => @Yto W Xch, Xnw⟩
noncomputable def Xbg : LC where
 len := 26
 T := [(0, .rs Ja), (1, .rs Ja), (5, .int .i64)]
 H := []
 W := ([4] ++ rg 11 15)
 outs := [⟨.exit 0, [], [], ([0, 1, 4, 5] ++ rg 11 15)⟩, ⟨.ret, [(4, (.lit (.bool false)))], [], ([0, 1, 5] ++ rg 11 15)⟩]
 spec := Xbc
def Xb2 [W : InW] (a b : Ro Ja) (i : Int) (A : List Ed -> Prop) (K : Nat -> List Ed -> Prop) : Prop :=
 Vif (decide (i < (↑(a.xs.length) : Int))) (Need (decide (0 <= i) && decide (i < (↑(a.xs.length) : Int))) (Need (decide (i.toNat < a.xs.length)) (Need (decide (0 <= i) && decide (i < (↑(b.xs.length) : Int))) (Need (decide (i.toNat < b.xs.length)) (Vif (!(decide ((cel a.xs i.toNat (0 : Nat)).int = (cel b.xs i.toNat (0 : Nat)).int) && (decide ((cel a.xs i.toNat (0+1)).int = (cel b.xs i.toNat (0+1)).int) && true))) (K (0+1) []) (Ar .i64 (i + 1) fun z => A [.ro _ a, .ro _ b, .i z])))))) (K 0 [])
theorem Xhm (W : InW) (a b i A K) : Yfc { cxT Try.prog TT T0 1000 50 with fn := 29 } 1000 (Yn7 Try.prog 29 5) (Yd6 26 [(0, .rs _ a), (1, .rs _ b), (5, .si .i64 i)] ([4] ++ rg 11 15)) [] (Yug Xbg A K) = Xb2 a b i A K := by kernel_rfl
def Xb7 : Prop := ∀ (W : InW) (body a : Code), (Try.prog.funcs[29]?).bind (·.body) = some body -> a ∈ Yy body -> Yfx a = 5 -> @Ymq W Try.prog a (@Yto W Xbg)
theorem Xh6 (meas : [InW] -> List Ed -> Nat) (hyp_ : ∀ (W : InW) a b i K, Xbc [.ro _ a, .ro _ b, .i i] K -> ∀ A : List Ed -> Prop, (∀ e, meas e < meas [.ro _ a, .ro _ b, .i i] -> Xbc e K -> A e) -> Xb2 a b i A K) : Xb7 :=
 LE.okOf' (fun W => @TT W) (fun W => @Xe W) Xa T0 1000 50 (by kernel_rfl) Xbg (fun W => @meas W) fun W a b i K hs =>
  (Xhm W a b i (fun e => meas e < meas [.ro _ a, .ro _ b, .i i] /\ Xbc e K) K).mpr (hyp_ W a b i K hs _ fun e h1 h2 => ⟨h1, h2⟩)
theorem Xkg : Xb7 := Xh6 (fun e => match e with | [.ro _ a, _, .i i] => ((a.xs.length : Int) - i).toNat | _ => 0) fun W a b i K hs A hA => by
 obtain ⟨⟨h0, h1, h2⟩, hk⟩ := hs; have hm := a.len; simp only [maxLen] at hm; have hA' := hA [.ro _ a, .ro _ b, .i (i + 1)]; have hlt : i < a.xs.length -> ((a.xs.length : Int) - (i + 1)).toNat < ((a.xs.length : Int) - i).toNat := by omega
 have hl : a.xs.length = b.xs.length := by rw [h2]
 unfold Xb2;simp only [Nat.zero_add, Nat.reduceAdd, h2]
 repeat' (first | omega | intro _ | with_reducible first | apply vifd | apply vifn | apply vifq | apply Xd | apply Xc | apply vifb | apply vif | apply nedd | apply ned2 | apply ned | apply ar64 | apply Xb | exact True.intro | assumption | rfl | apply And.intro)
 all_goals first | exact hk | (exact hA' (hlt (by omega)) ⟨⟨by omega, by omega, h2⟩, hk⟩) | simp_all
noncomputable def Xki : LE Try.prog := ⟨29, 5, fun W => @Yto W Xbg, Xkg⟩
noncomputable def Xbf : LC where
 len := 26
 T := [(0, .rs Ja), (1, .rs Ja), (5, .int .i64)]
 H := []
 W := ([4] ++ rg 11 15)
 outs := [⟨.exit 0, [], [], ([0, 1, 4, 5] ++ rg 11 15)⟩, ⟨.ret, [(4, (.lit (.bool false)))], [], ([0, 1, 5] ++ rg 11 15)⟩]
 spec := Xbb
def Xb1 [W : InW] (a b : Ro Ja) (i : Int) (A : List Ed -> Prop) (K : Nat -> List Ed -> Prop) : Prop :=
 Vif (decide (i < (↑(a.xs.length) : Int))) (Need (decide (0 <= i) && decide (i < (↑(a.xs.length) : Int))) (Need (decide (i.toNat < a.xs.length)) (Need (decide (0 <= i) && decide (i < (↑(b.xs.length) : Int))) (Need (decide (i.toNat < b.xs.length)) (Vif (!(decide ((cel a.xs i.toNat (0 : Nat)).int = (cel b.xs i.toNat (0 : Nat)).int) && (decide ((cel a.xs i.toNat (0+1)).int = (cel b.xs i.toNat (0+1)).int) && true))) (K (0+1) []) (Ar .i64 (i + 1) fun z => A [.ro _ a, .ro _ b, .i z])))))) (K 0 [])
theorem Xhl (W : InW) (a b i A K) : Yfc { cxT Try.prog TT T0 1000 50 with fn := 37 } 1000 (Yn7 Try.prog 37 5) (Yd6 26 [(0, .rs _ a), (1, .rs _ b), (5, .si .i64 i)] ([4] ++ rg 11 15)) [] (Yug Xbf A K) = Xb1 a b i A K := by kernel_rfl
def Xb6 : Prop := ∀ (W : InW) (body a : Code), (Try.prog.funcs[37]?).bind (·.body) = some body -> a ∈ Yy body -> Yfx a = 5 -> @Ymq W Try.prog a (@Yto W Xbf)
theorem Xh5 (meas : [InW] -> List Ed -> Nat) (hyp_ : ∀ (W : InW) a b i K, Xbb [.ro _ a, .ro _ b, .i i] K -> ∀ A : List Ed -> Prop, (∀ e, meas e < meas [.ro _ a, .ro _ b, .i i] -> Xbb e K -> A e) -> Xb1 a b i A K) : Xb6 :=
 LE.okOf' (fun W => @TT W) (fun W => @Xe W) Xa T0 1000 50 (by kernel_rfl) Xbf (fun W => @meas W) fun W a b i K hs =>
  (Xhl W a b i (fun e => meas e < meas [.ro _ a, .ro _ b, .i i] /\ Xbb e K) K).mpr (hyp_ W a b i K hs _ fun e h1 h2 => ⟨h1, h2⟩)
theorem Xkf : Xb6 := Xh5 (fun e => match e with | [.ro _ a, _, .i i] => ((a.xs.length : Int) - i).toNat | _ => 0) fun W a b i K hs A hA => by
 obtain ⟨⟨h0, h1, h2⟩, hk⟩ := hs; have hm := a.len; simp only [maxLen] at hm; have hA' := hA [.ro _ a, .ro _ b, .i (i + 1)]; have hlt : i < a.xs.length -> ((a.xs.length : Int) - (i + 1)).toNat < ((a.xs.length : Int) - i).toNat := by omega
 have hl : a.xs.length = b.xs.length := by rw [h2]
 unfold Xb1;simp only [Nat.zero_add, Nat.reduceAdd, h2]
 repeat' (first | omega | intro _ | with_reducible first | apply vifd | apply vifn | apply vifq | apply Xd | apply Xc | apply vifb | apply vif | apply nedd | apply ned2 | apply ned | apply ar64 | apply Xb | exact True.intro | assumption | rfl | apply And.intro)
 all_goals first | exact hk | (exact hA' (hlt (by omega)) ⟨⟨by omega, by omega, h2⟩, hk⟩) | simp_all
noncomputable def Xkh : LE Try.prog := ⟨37, 5, fun W => @Yto W Xbf, Xkf⟩
noncomputable def T5 : Tab Try.prog := ⟨[], [Xn4, Xki, Xkh], []⟩
def Xd6 [W : InW] (a b : Ro Jc) (Q : DS -> Prop) : Prop :=
 Vif (!decide ((↑(a.xs.length) : Int) = (↑(b.xs.length) : Int))) (Q [[Cl.b false]]) (Pre ((0 : Int) <= 0 /\ (0 : Int) <= (↑(a.xs.length) : Int) /\ a.xs = b.xs) (Q [[Cl.b true]]))
theorem Xl9 (W : InW) (a b Q) : Ywr (cxT Try.prog TT T5 1000 50) 1000 21 [.rs _ a, .rs _ b] [] 0 (Y01 [(false, [.bool])] Q) (fun _ _ _ _ => Stuck 421) = Xd6 a b Q := by kernel_rfl
abbrev Xcs : List AT := [.one (.sl Jc), .one (.sl Jc)]
theorem Xnt {pre : DS -> Prop} {res : DS -> DS} (hyp_ : ∀ (W : InW) (a b : Ro Jc), pre [[.l a.xs], [.l b.xs]] -> ∀ Q : DS -> Prop, Q (res [[.l a.xs], [.l b.xs]]) -> Xd6 a b Q) : PureOk Try.prog 21 Xcs [(false, [.bool])] pre res :=
 PureOk.of' (fun W => @TT W) (fun W => @Xe W) Xa T5 1000 50 fun W a b hp =>
  (Xl9 W a b (fun o => o = res [[.l a.xs], [.l b.xs]])).mpr (hyp_ W a b hp _ rfl)
theorem Xoz : PureOk Try.prog 21 Xcs [(false, [.bool])] Xn Xh :=
 Xnt fun W a b hp Q h => by
  have hp : a.xs = b.xs := hp;have hl : a.xs.length = b.xs.length := by rw [hp]
  unfold Xd6;simp only [hl, show Int.toNat 0 = 0 from rfl]
  repeat' (first | omega | intro _ | with_reducible first | apply vifd | apply vifn | apply vifq | apply Xd | apply Xc | apply vifb | apply vif | apply nedd | apply ned2 | apply ned | apply ar64 | apply Xb | exact True.intro | assumption | rfl | apply And.intro)
  all_goals first | exact h | exact ⟨⟨by omega, by omega, hp⟩, h⟩ | simp_all
noncomputable def Xce : PC Try.prog := ⟨21, Xcs, [(false, [.bool])], Xn, Xh, Xoz⟩
def Xcw [W : InW] (a b : Ro Ja) (Q : DS -> Prop) : Prop :=
 Vif (!decide ((↑(a.xs.length) : Int) = (↑(b.xs.length) : Int))) (Q [[Cl.b false]]) (Pre ((0 : Int) <= 0 /\ (0 : Int) <= (↑(a.xs.length) : Int) /\ a.xs = b.xs) (Q [[Cl.b true]]))
theorem Xjf (W : InW) (a b Q) : Ywr (cxT Try.prog TT T5 1000 50) 1000 29 [.rs _ a, .rs _ b] [] 0 (Y01 [(false, [.bool])] Q) (fun _ _ _ _ => Stuck 421) = Xcw a b Q := by kernel_rfl
abbrev Xbu : List AT := [.one (.sl Ja), .one (.sl Ja)]
theorem Xkc {pre : DS -> Prop} {res : DS -> DS} (hyp_ : ∀ (W : InW) (a b : Ro Ja), pre [[.l a.xs], [.l b.xs]] -> ∀ Q : DS -> Prop, Q (res [[.l a.xs], [.l b.xs]]) -> Xcw a b Q) : PureOk Try.prog 29 Xbu [(false, [.bool])] pre res :=
 PureOk.of' (fun W => @TT W) (fun W => @Xe W) Xa T5 1000 50 fun W a b hp =>
  (Xjf W a b (fun o => o = res [[.l a.xs], [.l b.xs]])).mpr (hyp_ W a b hp _ rfl)
theorem Xni : PureOk Try.prog 29 Xbu [(false, [.bool])] Xn Xh :=
 Xkc fun W a b hp Q h => by
  have hp : a.xs = b.xs := hp;have hl : a.xs.length = b.xs.length := by rw [hp]
  unfold Xcw;simp only [hl, show Int.toNat 0 = 0 from rfl]
  repeat' (first | omega | intro _ | with_reducible first | apply vifd | apply vifn | apply vifq | apply Xd | apply Xc | apply vifb | apply vif | apply nedd | apply ned2 | apply ned | apply ar64 | apply Xb | exact True.intro | assumption | rfl | apply And.intro)
  all_goals first | exact h | exact ⟨⟨by omega, by omega, hp⟩, h⟩ | simp_all
noncomputable def Xjs : PC Try.prog := ⟨29, Xbu, [(false, [.bool])], Xn, Xh, Xni⟩
def Xct [W : InW] (a b : Ro Ja) (Q : DS -> Prop) : Prop :=
 Vif (!decide ((↑(a.xs.length) : Int) = (↑(b.xs.length) : Int))) (Q [[Cl.b false]]) (Pre ((0 : Int) <= 0 /\ (0 : Int) <= (↑(a.xs.length) : Int) /\ a.xs = b.xs) (Q [[Cl.b true]]))
theorem Xjc (W : InW) (a b Q) : Ywr (cxT Try.prog TT T5 1000 50) 1000 37 [.rs _ a, .rs _ b] [] 0 (Y01 [(false, [.bool])] Q) (fun _ _ _ _ => Stuck 421) = Xct a b Q := by kernel_rfl
abbrev Xbs : List AT := [.one (.sl Ja), .one (.sl Ja)]
theorem Xj9 {pre : DS -> Prop} {res : DS -> DS} (hyp_ : ∀ (W : InW) (a b : Ro Ja), pre [[.l a.xs], [.l b.xs]] -> ∀ Q : DS -> Prop, Q (res [[.l a.xs], [.l b.xs]]) -> Xct a b Q) : PureOk Try.prog 37 Xbs [(false, [.bool])] pre res :=
 PureOk.of' (fun W => @TT W) (fun W => @Xe W) Xa T5 1000 50 fun W a b hp =>
  (Xjc W a b (fun o => o = res [[.l a.xs], [.l b.xs]])).mpr (hyp_ W a b hp _ rfl)
theorem Xmi : PureOk Try.prog 37 Xbs [(false, [.bool])] Xn Xh :=
 Xj9 fun W a b hp Q h => by
  have hp : a.xs = b.xs := hp;have hl : a.xs.length = b.xs.length := by rw [hp]
  unfold Xct;simp only [hl, show Int.toNat 0 = 0 from rfl]
  repeat' (first | omega | intro _ | with_reducible first | apply vifd | apply vifn | apply vifq | apply Xd | apply Xc | apply vifb | apply vif | apply nedd | apply ned2 | apply ned | apply ar64 | apply Xb | exact True.intro | assumption | rfl | apply And.intro)
  all_goals first | exact h | exact ⟨⟨by omega, by omega, hp⟩, h⟩ | simp_all
noncomputable def Xjo : PC Try.prog := ⟨37, Xbs, [(false, [.bool])], Xn, Xh, Xmi⟩
def Xca [InW] (e : List Ed) (K : Nat -> List Ed -> Prop) : Prop := match e with
 | [.i i, .ro _ qs, .ro _ ps, .i all, .ro _ qt, .ro _ pt, .i alt] => Pre (0 <= i /\ i <= qs.xs.length /\ qs.xs = qt.xs) (K 0 [])
 | _ => False
noncomputable def T6 : Tab Try.prog := ⟨[Xce], [], []⟩
noncomputable def Xcg : LC where
 len := 46
 T := [(2, (.ptr 1 0)), (3, (.ptr 4 0)), (5, .int .i64)]
 H := [(1, .blk 25 [.rs Iv5, .rs Jc, .int .i64]), (4, .blk 25 [.rs Iv5, .rs Jc, .int .i64])]
 W := ([4] ++ rg 28 18)
 outs := [⟨.exit 0, [], [], (rg 2 4 ++ rg 28 18)⟩, ⟨.ret, [(4, (.lit (.bool false)))], [], ([2, 3, 5] ++ rg 28 18)⟩]
 spec := Xca
def Xcz [W : InW] (i : Int) (qs : Ro Iv5) (ps : Ro Jc) (all : Int) (qt : Ro Iv5) (pt : Ro Jc) (alt : Int) (A : List Ed -> Prop) (K : Nat -> List Ed -> Prop) : Prop :=
 Vif (decide (i < (↑(qs.xs.length) : Int))) (Need (decide (0 <= i) && decide (i < (↑(qs.xs.length) : Int))) (Need (decide (i.toNat < qs.xs.length)) (Need (decide (0 <= i) && decide (i < (↑(qt.xs.length) : Int))) (Need (decide (i.toNat < qt.xs.length)) (Vif (!(decide ((cel qs.xs i.toNat (0 : Nat)).int = (cel qt.xs i.toNat (0 : Nat)).int) && (decide ((cel qs.xs i.toNat (0+1)).int = (cel qt.xs i.toNat (0+1)).int) && (decide ((cel qs.xs i.toNat ((0 : Nat) + 1 + 1)).int = (cel qt.xs i.toNat ((0 : Nat) + 1 + 1)).int) && (decide ((cel qs.xs i.toNat ((0 : Nat) + 1 + 1 + 1)).int = (cel qt.xs i.toNat ((0 : Nat) + 1 + 1 + 1)).int) && (decide ((cel qs.xs i.toNat ((0 : Nat) + 1 + 1 + 1 + 1)).int = (cel qt.xs i.toNat ((0 : Nat) + 1 + 1 + 1 + 1)).int) && true)))))) (K (0+1) []) (Ar .i64 (i + 1) fun z => A [.i z, .ro _ qs, .ro _ ps, .i all, .ro _ qt, .ro _ pt, .i alt])))))) (K 0 [])
theorem Xi5 (W : InW) (i qs ps all qt pt alt A K) : Yfc { cxT Try.prog TT T6 1000 50 with fn := 34 } 1000 (Yn7 Try.prog 34 5) (Yd6 46 [(2, .ptr 1 0), (3, .ptr 4 0), (5, .si .i64 i)] ([4] ++ rg 28 18)) [(1, .blk 25 [.rs _ qs, .rs _ ps, .si .i64 all]), (4, .blk 25 [.rs _ qt, .rs _ pt, .si .i64 alt])] (Yug Xcg A K) = Xcz i qs ps all qt pt alt A K := by kernel_rfl
def Xdb : Prop := ∀ (W : InW) (body a : Code), (Try.prog.funcs[34]?).bind (·.body) = some body -> a ∈ Yy body -> Yfx a = 5 -> @Ymq W Try.prog a (@Yto W Xcg)
theorem Xj2 (meas : [InW] -> List Ed -> Nat) (hyp_ : ∀ (W : InW) i qs ps all qt pt alt K, Xca [.i i, .ro _ qs, .ro _ ps, .i all, .ro _ qt, .ro _ pt, .i alt] K -> ∀ A : List Ed -> Prop, (∀ e, meas e < meas [.i i, .ro _ qs, .ro _ ps, .i all, .ro _ qt, .ro _ pt, .i alt] -> Xca e K -> A e) -> Xcz i qs ps all qt pt alt A K) : Xdb :=
 LE.okOf' (fun W => @TT W) (fun W => @Xe W) Xa T6 1000 50 (by kernel_rfl) Xcg (fun W => @meas W) fun W i qs ps all qt pt alt K hs =>
  (Xi5 W i qs ps all qt pt alt (fun e => meas e < meas [.i i, .ro _ qs, .ro _ ps, .i all, .ro _ qt, .ro _ pt, .i alt] /\ Xca e K) K).mpr (hyp_ W i qs ps all qt pt alt K hs _ fun e h1 h2 => ⟨h1, h2⟩)
theorem Xnv : Xdb := Xj2 (fun e => match e with | [.i i, .ro _ a, _, _, _, _, _] => ((a.xs.length : Int) - i).toNat | _ => 0) fun W i a ps all b pt alt K hs A hA => by
 obtain ⟨⟨h0, h1, h2⟩, hk⟩ := hs;have hm := a.len;simp only [maxLen] at hm;have hA' := hA [.i (i + 1), .ro _ a, .ro _ ps, .i all, .ro _ b, .ro _ pt, .i alt];have hlt : i < a.xs.length -> ((a.xs.length : Int) - (i + 1)).toNat < ((a.xs.length : Int) - i).toNat := by omega
 have hl : a.xs.length = b.xs.length := by rw [h2]
 unfold Xcz;simp only [Nat.zero_add, Nat.reduceAdd, h2]
 repeat' (first | omega | intro _ | with_reducible first | apply vifd | apply vifn | apply vifq | apply Xd | apply Xc | apply vifb | apply vif | apply nedd | apply ned2 | apply ned | apply ar64 | apply Xb | exact True.intro | assumption | rfl | apply And.intro)
 all_goals first | exact hk | (exact hA' (hlt (by omega)) ⟨⟨by omega, by omega, h2⟩, hk⟩) | simp_all
noncomputable def Xn3 : LE Try.prog := ⟨34, 5, fun W => @Yto W Xcg, Xnv⟩
noncomputable def T7 : Tab Try.prog := ⟨[Xce], [Xn3], []⟩
def Xd5 [W : InW] (a_Qs : Ro Iv5) (a_Ps : Ro Jc) (a_All : Int) (b_Qs : Ro Iv5) (b_Ps : Ro Jc) (b_All : Int) (Q : DS -> Prop) : Prop :=
 Vif (!decide ((↑(a_Qs.xs.length) : Int) = (↑(b_Qs.xs.length) : Int))) (Q [[Cl.b false]]) (Pre (a_Ps.xs = b_Ps.xs) (Vif (!true) (Q [[Cl.b false]]) (Vif (!decide (a_All = b_All)) (Q [[Cl.b false]]) (Pre ((0 : Int) <= 0 /\ (0 : Int) <= (↑(a_Qs.xs.length) : Int) /\ a_Qs.xs = b_Qs.xs) (Q [[Cl.b true]])))))
theorem Xl8 (W : InW) (a_Qs a_Ps a_All b_Qs b_Ps b_All Q) : Ywr (cxT Try.prog TT T7 1000 50) 1000 34 [.agg [.rs _ a_Qs, .rs _ a_Ps, .si .i64 a_All], .agg [.rs _ b_Qs, .rs _ b_Ps, .si .i64 b_All]] [] 0 (Y01 [(false, [.bool])] Q) (fun _ _ _ _ => Stuck 421) = Xd5 a_Qs a_Ps a_All b_Qs b_Ps b_All Q := by kernel_rfl
abbrev Xcr : List AT := [.agg [.sl Iv5, .sl Jc, .int .i64], .agg [.sl Iv5, .sl Jc, .int .i64]]
theorem Xns {pre : DS -> Prop} {res : DS -> DS} (hyp_ : ∀ (W : InW) (a_Qs : Ro Iv5) (a_Ps : Ro Jc) (a_All : Int) (b_Qs : Ro Iv5) (b_Ps : Ro Jc) (b_All : Int), pre [[.l a_Qs.xs, .l a_Ps.xs, .i a_All], [.l b_Qs.xs, .l b_Ps.xs, .i b_All]] -> ∀ Q : DS -> Prop, Q (res [[.l a_Qs.xs, .l a_Ps.xs, .i a_All], [.l b_Qs.xs, .l b_Ps.xs, .i b_All]]) -> Xd5 a_Qs a_Ps a_All b_Qs b_Ps b_All Q) : PureOk Try.prog 34 Xcr [(false, [.bool])] pre res :=
 PureOk.of' (fun W => @TT W) (fun W => @Xe W) Xa T7 1000 50 fun W a_Qs a_Ps a_All b_Qs b_Ps b_All hp =>
  (Xl8 W a_Qs a_Ps a_All b_Qs b_Ps b_All (fun o => o = res [[.l a_Qs.xs, .l a_Ps.xs, .i a_All], [.l b_Qs.xs, .l b_Ps.xs, .i b_All]])).mpr (hyp_ W a_Qs a_Ps a_All b_Qs b_Ps b_All hp _ rfl)
theorem Xoy : PureOk Try.prog 34 Xcr [(false, [.bool])] Xc6 Xh :=
 Xns fun W a pa na b pb nb hp Q h => by
  obtain ⟨h1, h2, h3⟩ : a.xs = b.xs /\ pa.xs = pb.xs /\ na = nb := hp;have hl : a.xs.length = b.xs.length := by rw [h1]
  unfold Xd5;subst h3;simp only [hl, show Int.toNat 0 = 0 from rfl]
  repeat' (first | omega | intro _ | with_reducible first | apply vifd | apply vifn | apply vifq | apply Xd | apply Xc | apply vifb | apply vif | apply nedd | apply ned2 | apply ned | apply ar64 | apply Xb | exact True.intro | assumption | rfl | apply And.intro)
  all_goals first | exact h | exact ⟨⟨by omega, by omega, h1⟩, h⟩ | simp_all
noncomputable def Xmh : PC Try.prog := ⟨34, Xcr, [(false, [.bool])], Xc6, Xh, Xoy⟩
open Go.RowKit
set_option maxRecDepth 100000
set_option maxHeartbeats 1600000
namespace Sp
def bx (d : Dt) (j : Nat) : Int := (cel d j 0).int
def ansD (d : Dt) : Nat -> Nat -> Int -> Bool
 | _, 0, _ => false
 | i, n + 1, a => if bx d i = 1 then (if 0 <= a then true else ansD d (i + 1) n i) else ansD d (i + 1) n a
def ansL (d : Dt) : Nat -> Nat -> Int -> Int
 | _, 0, a => a
 | i, n + 1, a => if bx d i = 1 then ansL d (i + 1) n i else ansL d (i + 1) n a
def ansOf (d : Dt) : Int := if ansD d 0 d.length (-1) then -1 else ansL d 0 d.length (-1)
def ptsV (right pts minus : Int) (d : Dt) : Int := if ansOf d = right then pts else if 0 <= ansOf d then 0 - minus else 0
def num (xs : Dt) (i : Nat) : Int := (cel xs i 0).int
def total (xs : Dt) : Int := sumF (num xs) 0 xs.length 0
def Low (xs : Dt) : Prop := xs.length <= 1000 /\ ∀ i, i < xs.length -> -1000 <= num xs i /\ num xs i <= 1000
end Sp
def Xfu [InW] (e : List Ed) (K : Nat -> List Ed -> Prop) : Prop := match e with
 | [.ro _ d, .i a, .i i] => Pre (0 <= i /\ i <= d.xs.length /\ -1 <= a) (Vif (Sp.ansD d.xs i.toNat (d.xs.length - i.toNat) a) (K 1 []) (K 0 [.i (Sp.ansL d.xs i.toNat (d.xs.length - i.toNat) a)]))
 | _ => False
noncomputable def Xhg : LC where
 len := 27
 T := [(0, .rs Jc), (3, .int .i64), (4, .int .i64)]
 H := []
 W := ([2] ++ rg 5 21)
 outs := [⟨.exit 0, [(3, .int .i64)], [], ([0, 2] ++ rg 4 22)⟩, ⟨.ret, [(2, (.lit (.int .i64 (-1))))], [], ([0] ++ rg 3 23)⟩]
 spec := Xfu
def Zc [W : InW] (d : Ro Jc) (a i : Int) (A : List Ed -> Prop) := Need (decide (0 <= i) && decide (i < (↑(d.xs.length) : Int))) (Need (decide (i.toNat < d.xs.length)) (Vif (decide ((cel d.xs i.toNat (0 : Nat)).int = 1)) (Ar .i64 (i + 1) fun z => A [.ro _ d, .i i, .i z]) (Ar .i64 (i + 1) fun z => A [.ro _ d, .i a, .i z])))
def Xew [W : InW] (d : Ro Jc) (a i : Int) (A : List Ed -> Prop) (K : Nat -> List Ed -> Prop) : Prop :=
 Vif (decide (i < (↑(d.xs.length) : Int))) (Need (decide (0 <= i) && decide (i < (↑(d.xs.length) : Int))) (Need (decide (i.toNat < d.xs.length)) (Vif (decide ((cel d.xs i.toNat (0 : Nat)).int = 1)) (Vif (decide (0 <= a)) (K (0+1) []) (Zc d a i A)) (Zc d a i A)))) (K 0 [.i a])
theorem Xls (W : InW) (d a i A K) : Yfc { cxT Try.prog TT T0 1000 50 with fn := 49 } 1000 (Yn7 Try.prog 49 4) (Yd6 27 [(0, .rs _ d), (3, .si .i64 a), (4, .si .i64 i)] ([2] ++ rg 5 21)) [] (Yug Xhg A K) = Xew d a i A K := by kernel_rfl
def Xgp : Prop := ∀ (W : InW) (body a : Code), (Try.prog.funcs[49]?).bind (·.body) = some body -> a ∈ Yy body -> Yfx a = 4 -> @Ymq W Try.prog a (@Yto W Xhg)
theorem Xna (meas : [InW] -> List Ed -> Nat) (hyp_ : ∀ (W : InW) d a i K, Xfu [.ro _ d, .i a, .i i] K -> ∀ A : List Ed -> Prop, (∀ e, meas e < meas [.ro _ d, .i a, .i i] -> Xfu e K -> A e) -> Xew d a i A K) : Xgp :=
 LE.okOf' (fun W => @TT W) (fun W => @Xe W) Xa T0 1000 50 (by kernel_rfl) Xhg (fun W => @meas W) fun W d a i K hs =>
  (Xls W d a i (fun e => meas e < meas [.ro _ d, .i a, .i i] /\ Xfu e K) K).mpr (hyp_ W d a i K hs _ fun e h1 h2 => ⟨h1, h2⟩)
theorem Xpt : Xgp := Xna (fun e => match e with | [.ro _ d, _, .i i] => ((d.xs.length : Int) - i).toNat | _ => 0) fun W d a i K hs A hA => by
 obtain ⟨⟨h0, h1, h2⟩, hk⟩ := hs;have hm := d.len;simp only [maxLen] at hm;unfold Xew;delta Zc;refine vifd (fun e => ?_) fun e => ?_
 ·rw [show d.xs.length - i.toNat = (d.xs.length - (i.toNat + 1)) + 1 by omega] at hk;have ez : (i + 1).toNat = i.toNat + 1 := by omega
  have ei : ((i.toNat : Nat) : Int) = i := Int.toNat_of_nonneg h0;simp only [Sp.ansD, Sp.ansL, Sp.bx, ei] at hk;have hA' : ∀ b, -1 <= b -> Vif (Sp.ansD d.xs (i.toNat + 1) (d.xs.length - (i.toNat + 1)) b) (K 1 []) (K 0 [.i (Sp.ansL d.xs (i.toNat + 1) (d.xs.length - (i.toNat + 1)) b)]) -> A [.ro _ d, .i b, .i (i + 1)] := fun b hb f => hA _ (by show ((d.xs.length : Int) - (i + 1)).toNat < ((d.xs.length : Int) - i).toNat; omega) ⟨⟨by omega, by omega, hb⟩, by rw [ez]; exact f⟩;clear hA;simp only [Nat.zero_add, Nat.reduceAdd]
  by_cases c1 : (cel d.xs i.toNat 0).int = 1
  ·simp only [c1, if_true] at hk ⊢
   by_cases c2 : 0 <= a
   ·simp only [c2, if_true] at hk
    repeat' (first | omega | intro _ | with_reducible first | apply vifd | apply vifn | apply vifq | apply Xd | apply Xc | apply vifb | apply vif | apply nedd | apply ned2 | apply ned | apply ar64 | apply Xb | exact True.intro | assumption | rfl | apply And.intro)
    all_goals first | exact hk.1 rfl | contradiction
   ·simp only [c2, if_false] at hk
    repeat' (first | omega | intro _ | with_reducible first | apply vifd | apply vifn | apply vifq | apply Xd | apply Xc | apply vifb | apply vif | apply nedd | apply ned2 | apply ned | apply ar64 | apply Xb | exact True.intro | assumption | rfl | apply And.intro)
    all_goals first | contradiction | exact hA' _ (by omega) hk
  ·simp only [c1, if_false] at hk
   repeat' (first | omega | intro _ | with_reducible first | apply vifd | apply vifn | apply vifq | apply Xd | apply Xc | apply vifb | apply vif | apply nedd | apply ned2 | apply ned | apply ar64 | apply Xb | exact True.intro | assumption | rfl | apply And.intro)
   all_goals first | contradiction | exact hA' _ (by omega) hk
 ·rw [show d.xs.length - i.toNat = 0 by omega] at hk;exact hk.2 rfl
noncomputable def Xqo : LE Try.prog := ⟨49, 4, fun W => @Yto W Xhg, Xpt⟩
noncomputable def T8 : Tab Try.prog := ⟨[], [Xqo], []⟩
def Xiy [W : InW] (d : Ro Jc) (Q : DS -> Prop) : Prop :=
 Pre ((0 : Int) <= 0 /\ (0 : Int) <= (↑(d.xs.length) : Int) /\ (-1 : Int) <= (-1 : Int)) (Vif (Sp.ansD d.xs (Int.toNat (0 : Int)) (d.xs.length - Int.toNat (0 : Int)) (-1 : Int)) (Q [[Cl.i (-1 : Int)]]) (Q [[Cl.i (Sp.ansL d.xs (Int.toNat (0 : Int)) (d.xs.length - Int.toNat (0 : Int)) (-1 : Int))]]))
theorem Xog (W : InW) (d Q) : Ywr (cxT Try.prog TT T8 1000 50) 1000 49 [.rs _ d] [] 0 (Y01 [(false, [.int .i64])] Q) (fun _ _ _ _ => Stuck 421) = Xiy d Q := by kernel_rfl
abbrev Xdw : List AT := [.one (.sl Jc)]
theorem Xo3 {pre : DS -> Prop} {res : DS -> DS} (hyp_ : ∀ (W : InW) (d : Ro Jc), pre [[.l d.xs]] -> ∀ Q : DS -> Prop, Q (res [[.l d.xs]]) -> Xiy d Q) : PureOk Try.prog 49 Xdw [(false, [.int .i64])] pre res :=
 PureOk.of' (fun W => @TT W) (fun W => @Xe W) Xa T8 1000 50 fun W d hp =>
  (Xog W d (fun o => o = res [[.l d.xs]])).mpr (hyp_ W d hp _ rfl)
abbrev Xdr (ds : DS) : DS := match ds with | [[.l d]] => [[.i (Sp.ansOf d)]] | _ => []
theorem okans : PureOk Try.prog 49 Xdw [(false, [.int .i64])] (fun _ => True) Xdr :=
 Xo3 fun W d hp Q h => by
  unfold Xiy;simp only [show Int.toNat 0 = 0 from rfl, Nat.sub_zero];simp only [Xdr, Sp.ansOf] at h;refine ⟨⟨by omega, by omega, by omega⟩, vif (fun e => ?_) fun e => ?_⟩
  ·rw [if_pos e] at h; exact h
  ·rw [if_neg (by simp [e])] at h; exact h
noncomputable def Xok : PC Try.prog := ⟨49, Xdw, [(false, [.int .i64])], fun _ => True, Xdr, okans⟩
noncomputable def T9 : Tab Try.prog := ⟨[Xok], [], []⟩
def Xby [W : InW] (q_Part q_Boxes q_Right q_Points q_Minus : Int) (d : Ro Jc) (Q : DS -> Prop) : Prop :=
 Pre True (Vif (decide (Sp.ansOf d.xs = q_Right)) (Q [[Cl.i q_Points]]) (Vif (decide ((0 : Int) <= Sp.ansOf d.xs)) (Ar .i64 ((0 : Int) - q_Minus) fun z => Q [[Cl.i z]]) (Q [[Cl.i 0]])))
theorem Xho (W : InW) (q_Part q_Boxes q_Right q_Points q_Minus d Q) : Ywr (cxT Try.prog TT T9 1000 50) 1000 82 [.agg [.si .i64 q_Part, .si .i64 q_Boxes, .si .i64 q_Right, .si .i64 q_Points, .si .i64 q_Minus], .rs _ d] [] 0 (Y01 [(false, [.int .i64])] Q) (fun _ _ _ _ => Stuck 421) = Xby q_Part q_Boxes q_Right q_Points q_Minus d Q := by kernel_rfl
abbrev X4 : List AT := [.agg [.int .i64, .int .i64, .int .i64, .int .i64, .int .i64], .one (.sl Jc)]
theorem Xh8 {pre : DS -> Prop} {res : DS -> DS} (hyp_ : ∀ (W : InW) (q_Part q_Boxes q_Right q_Points q_Minus : Int) (d : Ro Jc), pre [[.i q_Part, .i q_Boxes, .i q_Right, .i q_Points, .i q_Minus], [.l d.xs]] -> ∀ Q : DS -> Prop, Q (res [[.i q_Part, .i q_Boxes, .i q_Right, .i q_Points, .i q_Minus], [.l d.xs]]) -> Xby q_Part q_Boxes q_Right q_Points q_Minus d Q) : PureOk Try.prog 82 X4 [(false, [.int .i64])] pre res :=
 PureOk.of' (fun W => @TT W) (fun W => @Xe W) Xa T9 1000 50 fun W q_Part q_Boxes q_Right q_Points q_Minus d hp =>
  (Xho W q_Part q_Boxes q_Right q_Points q_Minus d (fun o => o = res [[.i q_Part, .i q_Boxes, .i q_Right, .i q_Points, .i q_Minus], [.l d.xs]])).mpr (hyp_ W q_Part q_Boxes q_Right q_Points q_Minus d hp _ rfl)
abbrev Xz (ds : DS) : DS := match ds with | [[.i _, .i _, .i right, .i pts, .i minus], [.l d]] => [[.i (Sp.ptsV right pts minus d)]] | _ => []
abbrev Xb4 (ds : DS) : Prop := match ds with | [[.i _, .i _, .i right, .i pts, .i minus], [.l d]] => 0 <= minus /\ minus <= 20 | _ => False
theorem Xjw : PureOk Try.prog 82 X4 [(false, [.int .i64])] Xb4 Xz :=
 Xh8 fun W part boxes right pts minus d hp Q h => by
  have hp : 0 <= minus /\ minus <= 20 := hp;unfold Xby;simp only [Xz, Sp.ptsV] at h
  repeat' (first | omega | intro _ | with_reducible first | apply vifd | apply vifn | apply vifq | apply Xd | apply Xc | apply vifb | apply vif | apply nedd | apply ned2 | apply ned | apply ar64 | apply Xb | exact True.intro | assumption | rfl | apply And.intro)
  all_goals simp_all
noncomputable def Xh1 : PC Try.prog := ⟨82, X4, [(false, [.int .i64])], Xb4, Xz, Xjw⟩
def Xb9 [InW] (e : List Ed) (K : Nat -> List Ed -> Prop) : Prop := match e with
 | [.ro _ d, .i a, .i i] => Pre (0 <= i /\ i <= d.xs.length /\ Sp.Low d.xs /\ -1000 * i <= a /\ a <= 1000 * i) (K 0 [.i (Sp.sumF (Sp.num d.xs) i.toNat (d.xs.length - i.toNat) a)])
 | _ => False
noncomputable def Xcf : LC where
 len := 18
 T := [(0, .rs Jc), (3, .int .i64), (4, .int .i64)]
 H := []
 W := (rg 5 12)
 outs := [⟨.exit 0, [(3, .int .i64)], [], ([0] ++ rg 4 13)⟩]
 spec := Xb9
def Xcy [W : InW] (d : Ro Jc) (a i : Int) (A : List Ed -> Prop) (K : Nat -> List Ed -> Prop) : Prop :=
 Vif (decide (i < (↑(d.xs.length) : Int))) (Need (decide (0 <= i) && decide (i < (↑(d.xs.length) : Int))) (Need (decide (i.toNat < d.xs.length)) (Ar .i64 (a + (cel d.xs i.toNat (0 : Nat)).int) fun z => Ar .i64 (i + 1) fun z_1 => A [.ro _ d, .i z, .i z_1]))) (K 0 [.i a])
theorem Xi4 (W : InW) (d a i A K) : Yfc { cxT Try.prog TT T0 1000 50 with fn := 43 } 1000 (Yn7 Try.prog 43 4) (Yd6 18 [(0, .rs _ d), (3, .si .i64 a), (4, .si .i64 i)] (rg 5 12)) [] (Yug Xcf A K) = Xcy d a i A K := by kernel_rfl
def Xda : Prop := ∀ (W : InW) (body a : Code), (Try.prog.funcs[43]?).bind (·.body) = some body -> a ∈ Yy body -> Yfx a = 4 -> @Ymq W Try.prog a (@Yto W Xcf)
theorem Xj1 (meas : [InW] -> List Ed -> Nat) (hyp_ : ∀ (W : InW) d a i K, Xb9 [.ro _ d, .i a, .i i] K -> ∀ A : List Ed -> Prop, (∀ e, meas e < meas [.ro _ d, .i a, .i i] -> Xb9 e K -> A e) -> Xcy d a i A K) : Xda :=
 LE.okOf' (fun W => @TT W) (fun W => @Xe W) Xa T0 1000 50 (by kernel_rfl) Xcf (fun W => @meas W) fun W d a i K hs =>
  (Xi4 W d a i (fun e => meas e < meas [.ro _ d, .i a, .i i] /\ Xb9 e K) K).mpr (hyp_ W d a i K hs _ fun e h1 h2 => ⟨h1, h2⟩)
theorem Xnu : Xda := Xj1 (fun e => match e with | [.ro _ d, _, .i i] => ((d.xs.length : Int) - i).toNat | _ => 0) fun W d a i K hs A hA => by
 obtain ⟨⟨h0, h1, ⟨hl, hb⟩, h2, h3⟩, hk⟩ := hs;have hm := d.len;simp only [maxLen] at hm;unfold Xcy;refine vifd (fun e => ?_) fun e => ?_
 ·rw [show d.xs.length - i.toNat = (d.xs.length - (i.toNat + 1)) + 1 by omega] at hk;have ez : (i + 1).toNat = i.toNat + 1 := by omega
  have hn := hb i.toNat (by omega);have hA' := hA [.ro _ d, .i (a + Sp.num d.xs i.toNat), .i (i + 1)] (by show ((d.xs.length : Int) - (i + 1)).toNat < ((d.xs.length : Int) - i).toNat; omega) ⟨⟨by omega, by omega, ⟨hl, hb⟩, by omega, by omega⟩, by rw [ez]; exact hk⟩;simp only [show (cel d.xs i.toNat 0).int = Sp.num d.xs i.toNat from rfl];generalize Sp.num d.xs i.toNat = z at *
  repeat' (first | omega | intro _ | with_reducible first | apply vifd | apply vifn | apply vifq | apply Xd | apply Xc | apply vifb | apply vif | apply nedd | apply ned2 | apply ned | apply ar64 | apply Xb | exact True.intro | assumption | rfl | apply And.intro)
  all_goals first | exact hA' | skip
 ·rw [show d.xs.length - i.toNat = 0 by omega] at hk;exact hk
noncomputable def Xn2 : LE Try.prog := ⟨43, 4, fun W => @Yto W Xcf, Xnu⟩
noncomputable def T10 : Tab Try.prog := ⟨[], [Xn2], []⟩
def Xdx [W : InW] (d : Ro Jc) (Q : DS -> Prop) : Prop :=
 Pre ((0 : Int) <= 0 /\ (0 : Int) <= (↑(d.xs.length) : Int) /\ Sp.Low d.xs /\ (-1000 : Int) * 0 <= 0 /\ (0 : Int) <= 1000 * 0) (Q [[Cl.i (Sp.sumF (Sp.num d.xs) (Int.toNat (0 : Int)) (d.xs.length - Int.toNat (0 : Int)) (0 : Int))]])
theorem Xl0 (W : InW) (d Q) : Ywr (cxT Try.prog TT T10 1000 50) 1000 43 [.rs _ d] [] 0 (Y01 [(false, [.int .i64])] Q) (fun _ _ _ _ => Stuck 421) = Xdx d Q := by kernel_rfl
abbrev Xcj : List AT := [.one (.sl Jc)]
theorem Xnk {pre : DS -> Prop} {res : DS -> DS} (hyp_ : ∀ (W : InW) (d : Ro Jc), pre [[.l d.xs]] -> ∀ Q : DS -> Prop, Q (res [[.l d.xs]]) -> Xdx d Q) : PureOk Try.prog 43 Xcj [(false, [.int .i64])] pre res :=
 PureOk.of' (fun W => @TT W) (fun W => @Xe W) Xa T10 1000 50 fun W d hp =>
  (Xl0 W d (fun o => o = res [[.l d.xs]])).mpr (hyp_ W d hp _ rfl)
abbrev Xbi (ds : DS) : DS := match ds with | [[.l d]] => [[.i (Sp.total d)]] | _ => []
abbrev Xcd (ds : DS) : Prop := match ds with | [[.l d]] => Sp.Low d | _ => False
theorem Xol : PureOk Try.prog 43 Xcj [(false, [.int .i64])] Xcd Xbi :=
 Xnk fun W d hp Q h => by
  unfold Xdx;simp only [show Int.toNat 0 = 0 from rfl, Nat.sub_zero];simp only [Xbi, Sp.total] at h;exact ⟨⟨by omega, by omega, hp, by omega, by omega⟩, h⟩
noncomputable def Xh0 : PC Try.prog := ⟨43, Xcj, [(false, [.int .i64])], Xcd, Xbi, Xol⟩
open Go.RowKit
set_option maxRecDepth 100000
set_option maxHeartbeats 1600000
namespace Sp
def row (sh : Dt) (i : Nat) : Dt := (cel sh i 0).lst
def unsRow (d : Dt) (i : Int) : Nat -> Nat -> Dt
 | _, 0 => []
 | j, n + 1 => (if bx d j = 2 then [[.i i, .i j]] else []) ++ unsRow d i (j + 1) n
def unsAll (sh : Dt) : Nat -> Nat -> Dt
 | _, 0 => []
 | i, n + 1 => unsRow (row sh i) i 0 (row sh i).length ++ unsAll sh (i + 1) n
def uns (sh : Dt) : Dt := unsAll sh 0 sh.length
def Few (sh : Dt) : Prop := sh.length <= 12 /\ ∀ i, i < sh.length -> (row sh i).length <= 4
theorem unsRow_len (d : Dt) (i : Int) : ∀ n j, (unsRow d i j n).length <= n
 | 0, _ => Nat.le_refl _
 | n + 1, j => by
  have := unsRow_len d i n (j + 1);simp only [unsRow, List.length_append]
  split <;> simp <;> omega
end Sp
def Xe5 [InW] (e : List Ed) (K : Nat -> List Ed -> Prop) : Prop := match e with
 | [.ro _ sh, .i i, .i j, .l acc] => Pre (0 <= i /\ i < sh.xs.length /\ 0 <= j /\ j <= (Sp.row sh.xs i.toNat).length /\ (acc.length : Int) <= 4 * i + j /\ Sp.Few sh.xs) (K 0 [.ro _ sh, .i i, .l (acc ++ Sp.unsRow (Sp.row sh.xs i.toNat) i j.toNat ((Sp.row sh.xs i.toNat).length - j.toNat))])
 | _ => False
noncomputable def Xgt : LC where
 len := 36
 T := [(0, .rs Jb), (3, (.row 3)), (4, .int .i64), (5, .int .i64)]
 H := [(3, .arr 44 Ja)]
 W := (rg 12 23)
 outs := [⟨.exit 2, [(0, .rs Jb), (3, (.row 6)), (4, .int .i64)], [(6, .arr 44 Ja)], ([5] ++ rg 12 23)⟩]
 spec := Xe5
def Xd8 [W : InW] (sh : Ro Jb) (i j : Int) (acc : Dt) (A : List Ed -> Prop) (K : Nat -> List Ed -> Prop) : Prop :=
 Need (decide (0 <= i) && decide (i < (↑(sh.xs.length) : Int))) (Need (decide (i.toNat < sh.xs.length)) (Vif (decide (j < (↑(List.length (cel sh.xs i.toNat (0 : Nat)).lst) : Int))) (Need (decide (0 <= i) && decide (i < (↑(sh.xs.length) : Int))) (Need (decide (i.toNat < sh.xs.length)) (Need (decide (0 <= j) && decide (j < (↑(List.length (cel sh.xs i.toNat (0 : Nat)).lst) : Int))) (Need (decide (j.toNat < List.length (cel sh.xs i.toNat (0 : Nat)).lst)) (Vif (decide ((cel (cel sh.xs i.toNat (0 : Nat)).lst j.toNat (0 : Nat)).int = 2)) (Need (decide ((acc.length + [[Cl.i i, Cl.i j]].length) * 16 <= 140737488355328)) (Ar .i64 (j + 1) fun z => A [.ro [Ty.sl [Ty.int IntKind.i64]] sh, .i i, .i z, .l (acc ++ [[Cl.i i, Cl.i j]])])) (Ar .i64 (j + 1) fun z => A [.ro [Ty.sl [Ty.int IntKind.i64]] sh, .i i, .i z, .l acc])))))) (K 0 [.ro [Ty.sl [Ty.int IntKind.i64]] sh, .i i, .l acc])))
theorem Xk4 (W : InW) (sh i j acc A K) : Yfc { cxT Try.prog TT T0 1000 50 with fn := 45 } 1000 (Yn7 Try.prog 45 7) (Yd6 36 [(0, .rs _ sh), (3, .rw 3), (4, .si .i64 i), (5, .si .i64 j)] (rg 12 23)) [(3, .arr 44 Ja acc)] (Yug Xgt A K) = Xd8 sh i j acc A K := by kernel_rfl
def Xf2 : Prop := ∀ (W : InW) (body a : Code), (Try.prog.funcs[45]?).bind (·.body) = some body -> a ∈ Yy body -> Yfx a = 7 -> @Ymq W Try.prog a (@Yto W Xgt)
theorem Xmm (meas : [InW] -> List Ed -> Nat) (hyp_ : ∀ (W : InW) sh i j acc K, Xe5 [.ro _ sh, .i i, .i j, .l acc] K -> ∀ A : List Ed -> Prop, (∀ e, meas e < meas [.ro _ sh, .i i, .i j, .l acc] -> Xe5 e K -> A e) -> Xd8 sh i j acc A K) : Xf2 :=
 LE.okOf' (fun W => @TT W) (fun W => @Xe W) Xa T0 1000 50 (by kernel_rfl) Xgt (fun W => @meas W) fun W sh i j acc K hs =>
  (Xk4 W sh i j acc (fun e => meas e < meas [.ro _ sh, .i i, .i j, .l acc] /\ Xe5 e K) K).mpr (hyp_ W sh i j acc K hs _ fun e h1 h2 => ⟨h1, h2⟩)
theorem Xo5 : Xf2 := Xmm (fun e => match e with | [.ro _ sh, .i i, .i j, _] => (((Sp.row sh.xs i.toNat).length : Int) - j).toNat | _ => 0) fun W sh i j acc K hs A hA => by
 obtain ⟨⟨h0, h1, h2, h3, h4, h5⟩, hk⟩ := hs;have hm := sh.len;have hrow := h5.2 i.toNat (by omega);have h51 := h5.1;simp only [maxLen] at hm;unfold Xd8;simp only [List.length_cons, List.length_nil, show (cel sh.xs i.toNat 0).lst = Sp.row sh.xs i.toNat from rfl];have ej : ((j.toNat : Nat) : Int) = j := Int.toNat_of_nonneg h2;have ez : (j + 1).toNat = j.toNat + 1 := by omega
 have hlt : j < (Sp.row sh.xs i.toNat).length -> (((Sp.row sh.xs i.toNat).length : Int) - (j + 1)).toNat < (((Sp.row sh.xs i.toNat).length : Int) - j).toNat := by omega
 by_cases hj : j < (Sp.row sh.xs i.toNat).length
 ·rw [show (Sp.row sh.xs i.toNat).length - j.toNat = ((Sp.row sh.xs i.toNat).length - (j.toNat + 1)) + 1 by omega] at hk;simp only [Sp.unsRow, Sp.bx, ej] at hk
  by_cases c : (cel (Sp.row sh.xs i.toNat) j.toNat 0).int = 2
  ·simp only [c, if_true] at hk;rw [<- List.append_assoc] at hk;have hA' := hA [.ro _ sh, .i i, .i (j + 1), .l (acc ++ [[.i i, .i j]])] (hlt hj) ⟨⟨h0, h1, by omega, by omega, by simp; omega, h5⟩, by rw [ez]; exact hk⟩;clear hA hk
   repeat' (first | omega | intro _ | with_reducible first | apply vifd | apply vifn | apply vifq | apply Xd | apply Xc | apply vifb | apply vif | apply nedd | apply ned2 | apply ned | apply ar64 | apply Xb | exact True.intro | assumption | rfl | apply And.intro)
   all_goals first | contradiction | exact hA' | (simp; omega)
  ·simp only [c, if_false, List.nil_append] at hk;have hA' := hA [.ro _ sh, .i i, .i (j + 1), .l acc] (hlt hj) ⟨⟨h0, h1, by omega, by omega, by omega, h5⟩, by rw [ez]; exact hk⟩;clear hA hk
   repeat' (first | omega | intro _ | with_reducible first | apply vifd | apply vifn | apply vifq | apply Xd | apply Xc | apply vifb | apply vif | apply nedd | apply ned2 | apply ned | apply ar64 | apply Xb | exact True.intro | assumption | rfl | apply And.intro)
   all_goals first | contradiction | exact hA'
 ·rw [show (Sp.row sh.xs i.toNat).length - j.toNat = 0 by omega] at hk;simp only [Sp.unsRow, List.append_nil] at hk;clear hA
  repeat' (first | omega | intro _ | with_reducible first | apply vifd | apply vifn | apply vifq | apply Xd | apply Xc | apply vifb | apply vif | apply nedd | apply ned2 | apply ned | apply ar64 | apply Xb | exact True.intro | assumption | rfl | apply And.intro)
  all_goals exact hk
noncomputable def Xp1 : LE Try.prog := ⟨45, 7, fun W => @Yto W Xgt, Xo5⟩
noncomputable def T11 : Tab Try.prog := ⟨[], [Xp1], []⟩
def Xe4 [InW] (e : List Ed) (K : Nat -> List Ed -> Prop) : Prop := match e with
 | [.ro _ sh, .i i, .l acc] => Pre (0 <= i /\ i <= sh.xs.length /\ (acc.length : Int) <= 4 * i /\ Sp.Few sh.xs) (K 0 [.l (acc ++ Sp.unsAll sh.xs i.toNat (sh.xs.length - i.toNat))])
 | _ => False
noncomputable def Xgs : LC where
 len := 36
 T := [(0, .rs Jb), (3, (.row 3)), (4, .int .i64)]
 H := [(3, .arr 44 Ja)]
 W := (rg 5 30)
 outs := [⟨.exit 0, [(3, (.row 6))], [(6, .arr 44 Ja)], ([0] ++ rg 4 31)⟩]
 spec := Xe4
def Xd7 [W : InW] (sh : Ro Jb) (i : Int) (acc : Dt) (A : List Ed -> Prop) (K : Nat -> List Ed -> Prop) : Prop :=
 Vif (decide (i < (↑(sh.xs.length) : Int))) (Pre (0 <= i /\ i < (↑(sh.xs.length) : Int) /\ Zb <= 0 /\ Zb <= (↑(List.length (Sp.row sh.xs i.toNat)) : Int) /\ (↑(acc.length) : Int) <= 4 * i + 0 /\ Sp.Few sh.xs) (Ar .i64 (i + 1) fun z => A [.ro [Ty.sl [Ty.int IntKind.i64]] sh, .i z, .l (acc ++ Sp.unsRow (Sp.row sh.xs i.toNat) i (Int.toNat Zb) (List.length (Sp.row sh.xs i.toNat) - Int.toNat Zb))])) (K 0 [.l acc])
theorem Xk3 (W : InW) (sh i acc A K) : Yfc { cxT Try.prog TT T11 1000 50 with fn := 45 } 1000 (Yn7 Try.prog 45 4) (Yd6 36 [(0, .rs _ sh), (3, .rw 3), (4, .si .i64 i)] (rg 5 30)) [(3, .arr 44 Ja acc)] (Yug Xgs A K) = Xd7 sh i acc A K := by kernel_rfl
def Xf1 : Prop := ∀ (W : InW) (body a : Code), (Try.prog.funcs[45]?).bind (·.body) = some body -> a ∈ Yy body -> Yfx a = 4 -> @Ymq W Try.prog a (@Yto W Xgs)
theorem Xml (meas : [InW] -> List Ed -> Nat) (hyp_ : ∀ (W : InW) sh i acc K, Xe4 [.ro _ sh, .i i, .l acc] K -> ∀ A : List Ed -> Prop, (∀ e, meas e < meas [.ro _ sh, .i i, .l acc] -> Xe4 e K -> A e) -> Xd7 sh i acc A K) : Xf1 :=
 LE.okOf' (fun W => @TT W) (fun W => @Xe W) Xa T11 1000 50 (by kernel_rfl) Xgs (fun W => @meas W) fun W sh i acc K hs =>
  (Xk3 W sh i acc (fun e => meas e < meas [.ro _ sh, .i i, .l acc] /\ Xe4 e K) K).mpr (hyp_ W sh i acc K hs _ fun e h1 h2 => ⟨h1, h2⟩)
theorem Xo4 : Xf1 := Xml (fun e => match e with | [.ro _ sh, .i i, _] => ((sh.xs.length : Int) - i).toNat | _ => 0) fun W sh i acc K hs A hA => by
 obtain ⟨⟨h0, h1, h4, h5⟩, hk⟩ := hs;have hm := sh.len;have h51 := h5.1;simp only [maxLen] at hm;unfold Xd7;delta Zb;simp only [show Int.toNat 0 = 0 from rfl, Nat.sub_zero, show (cel sh.xs i.toNat 0).lst = Sp.row sh.xs i.toNat from rfl];have ei : ((i.toNat : Nat) : Int) = i := Int.toNat_of_nonneg h0;have ez : (i + 1).toNat = i.toNat + 1 := by omega
 by_cases hj : i < sh.xs.length
 ·rw [show sh.xs.length - i.toNat = (sh.xs.length - (i.toNat + 1)) + 1 by omega] at hk;simp only [Sp.unsAll, ei] at hk;rw [<- List.append_assoc] at hk;have hrow := h5.2 i.toNat (by omega);have hl := Sp.unsRow_len (Sp.row sh.xs i.toNat) i (Sp.row sh.xs i.toNat).length 0;have hA' := hA [.ro _ sh, .i (i + 1), .l (acc ++ Sp.unsRow (Sp.row sh.xs i.toNat) i 0 (Sp.row sh.xs i.toNat).length)] (show ((sh.xs.length : Int) - (i + 1)).toNat < ((sh.xs.length : Int) - i).toNat by omega) ⟨⟨by omega, by omega, by simp; omega, h5⟩, by rw [ez]; exact hk⟩;clear hA hk
  repeat' (first | (with_reducible refine Xb ⟨by omega, by omega, by omega, by omega, by omega, h5⟩ ?_) | omega | intro _ | with_reducible first | apply vifd | apply vifn | apply vifq | apply Xd | apply Xc | apply vifb | apply vif | apply nedd | apply ned2 | apply ned | apply ar64 | apply Xb | exact True.intro | assumption | rfl | apply And.intro)
  all_goals first | exact hA' | skip
 ·rw [show sh.xs.length - i.toNat = 0 by omega] at hk;simp only [Sp.unsAll, List.append_nil] at hk;clear hA
  repeat' (first | omega | intro _ | with_reducible first | apply vifd | apply vifn | apply vifq | apply Xd | apply Xc | apply vifb | apply vif | apply nedd | apply ned2 | apply ned | apply ar64 | apply Xb | exact True.intro | assumption | rfl | apply And.intro)
  all_goals exact hk
noncomputable def Xp0 : LE Try.prog := ⟨45, 4, fun W => @Yto W Xgs, Xo4⟩
noncomputable def T12 : Tab Try.prog := ⟨[], [Xp0], []⟩
def Xiv [W : InW] (sh : Ro Jb) (Q : DS -> Prop) : Prop :=
 Pre ((0 : Int) <= 0 /\ (0 : Int) <= (↑(sh.xs.length) : Int) /\ (↑(0 : Nat) : Int) <= 4 * 0 /\ Sp.Few sh.xs) (Q [[Cl.l (Sp.unsAll sh.xs (Int.toNat (0 : Int)) (sh.xs.length - Int.toNat (0 : Int)))]])
theorem Xod (W : InW) (sh Q) : Ywr (cxT Try.prog TT T12 1000 50) 1000 45 [.rs _ sh] [] 0 (Y01 [(false, [.row 44 Ja])] Q) (fun _ _ _ _ => Stuck 421) = Xiv sh Q := by kernel_rfl
abbrev Xdt : List AT := [.one (.sl Jb)]
theorem Xo0 {pre : DS -> Prop} {res : DS -> DS} (hyp_ : ∀ (W : InW) (sh : Ro Jb), pre [[.l sh.xs]] -> ∀ Q : DS -> Prop, Q (res [[.l sh.xs]]) -> Xiv sh Q) : PureOk Try.prog 45 Xdt [(false, [.row 44 Ja])] pre res :=
 PureOk.of' (fun W => @TT W) (fun W => @Xe W) Xa T12 1000 50 fun W sh hp =>
  (Xod W sh (fun o => o = res [[.l sh.xs]])).mpr (hyp_ W sh hp _ rfl)
abbrev Xdk (ds : DS) : DS := match ds with | [[.l sh]] => [[.l (Sp.uns sh)]] | _ => []
abbrev Xhy (ds : DS) : Prop := match ds with | [[.l sh]] => Sp.Few sh | _ => False
theorem okuns : PureOk Try.prog 45 Xdt [(false, [.row 44 Ja])] Xhy Xdk :=
 Xo0 fun W sh hp Q h => by
  have hp : Sp.Few sh.xs := hp;unfold Xiv;simp only [show Int.toNat 0 = 0 from rfl, Nat.sub_zero, List.nil_append];simp only [Xdk, Sp.uns] at h;exact ⟨⟨by omega, by omega, by simp, hp⟩, h⟩
noncomputable def Xky : PC Try.prog := ⟨45, Xdt, [(false, [.row 44 Ja])], Xhy, Xdk, okuns⟩
open Go.RowKit
set_option maxRecDepth 100000
set_option maxHeartbeats 1600000
namespace Sp
structure KeyOk (qs ps : Dt) (all : Int) : Prop where
 n1 : 1 <= qs.length
 n2 : qs.length <= 12
 p1 : 1 <= ps.length
 p2 : ps.length <= 4
 part : ∀ i, i < qs.length -> 0 <= qPart qs i /\ qPart qs i < ps.length
 boxes : ∀ i, i < qs.length -> 2 <= qBoxes qs i /\ qBoxes qs i <= 4
 right : ∀ i, i < qs.length -> 0 <= qRight qs i /\ qRight qs i < qBoxes qs i
 pts : ∀ i, i < qs.length -> 0 <= qPts qs i /\ qPts qs i <= 20
 minus : ∀ i, i < qs.length -> 0 <= qMin qs i /\ qMin qs i <= 20
 need : ∀ i, i < ps.length -> -240 <= (cel ps i 0).int /\ (cel ps i 0).int <= 240
 all_ : -240 <= all /\ all <= 240
theorem qErr_ok {np : Nat} {qs : Dt} {i : Nat} (h : qErr np qs i = 0) : (0 <= qPart qs i /\ qPart qs i < np) /\ (2 <= qBoxes qs i /\ qBoxes qs i <= 4) /\ (0 <= qRight qs i /\ qRight qs i < qBoxes qs i) /\ (0 <= qPts qs i /\ qPts qs i <= 20) /\ (0 <= qMin qs i /\ qMin qs i <= 20) := by
 unfold qErr at h
 split at h
 ·rename_i h1
  split at h
  ·rename_i h2
   split at h
   ·rename_i h3
    split at h
    ·rename_i h4;rw [Bool.and_eq_true] at h4;have a := inr_iff.1 h1;have b := inr_iff.1 h2;have c := inr_iff.1 h3;have d := inr_iff.1 h4.1;have e := inr_iff.1 h4.2;omega
    ·omega
   ·omega
  ·omega
 ·omega
theorem qErr_of {np : Nat} {qs : Dt} {i : Nat} (a : 0 <= qPart qs i /\ qPart qs i < np) (b : 2 <= qBoxes qs i /\ qBoxes qs i <= 4) (c : 0 <= qRight qs i /\ qRight qs i < qBoxes qs i) (d : 0 <= qPts qs i /\ qPts qs i <= 20) (e : 0 <= qMin qs i /\ qMin qs i <= 20) : qErr np qs i = 0 := by
 unfold qErr;rw [if_pos (inr_iff.2 (by omega)), if_pos (inr_iff.2 (by omega)), if_pos (inr_iff.2 (by omega)), if_pos (by rw [Bool.and_eq_true]; exact ⟨inr_iff.2 d, inr_iff.2 e⟩)]
theorem chkE_iff {qs ps : Dt} {all : Int} : chkE qs ps all = 0 ↔ KeyOk qs ps all := by
 constructor
 ·intro h;unfold chkE chk at h
  split at h
  ·rename_i h1;rw [Bool.and_eq_true] at h1;have a := inr_iff.1 h1.1;have b := inr_iff.1 h1.2
   split at h
   ·rename_i h2;exact absurd h (hasE_ix h2).2.2
   ·rename_i h2
    split at h
    ·rename_i h3;exact absurd h (hasE_ix h3).2.2
    ·rename_i h3
     split at h
     ·rename_i h4;have hq := fun i (hi : i < qs.length) => qErr_ok (hasE_no (by simpa using h2) i (by omega) (by omega));have hp := fun i (hi : i < ps.length) => hasE_no (by simpa using h3) i (by omega) (by omega);refine ⟨by omega, by omega, by omega, by omega, fun i hi => (hq i hi).1, fun i hi => (hq i hi).2.1, fun i hi => (hq i hi).2.2.1, fun i hi => (hq i hi).2.2.2.1, fun i hi => (hq i hi).2.2.2.2, fun i hi => ?_, inr_iff.1 h4⟩;have := hp i hi;unfold pErr at this
      split at this
      ·rename_i h5; exact inr_iff.1 h5
      ·omega
     ·simp at h
  ·simp at h
 ·intro h;have h1 := h.n1;have h2 := h.n2;have h3 := h.p1;have h4 := h.p2;unfold chkE chk;rw [if_pos (by rw [Bool.and_eq_true]; exact ⟨inr_iff.2 (by omega), inr_iff.2 (by omega)⟩), if_neg, if_neg, if_pos (inr_iff.2 h.all_)]
  ·rw [hasE_of fun i _ hi => by unfold pErr; rw [if_pos (inr_iff.2 (h.need i (by omega)))]]; simp
  ·rw [hasE_of fun i _ hi => qErr_of (h.part i (by omega)) (h.boxes i (by omega)) (h.right i (by omega)) (h.pts i (by omega)) (h.minus i (by omega))]; simp
def rowE (qs sh : Dt) (i : Nat) : Int := if ((row sh i).length : Int) = qBoxes qs i then (if out 0 2 (row sh i) then 7 else 0) else 3
def shE (qs sh : Dt) : Int := if (sh.length : Int) = qs.length then (if hasE (rowE qs sh) 0 sh.length then rowE qs sh (idxE (rowE qs sh) 0 sh.length) else if 7 < (uns sh).length then 3 else 0) else 3
def askE (qs ps : Dt) (all : Int) (sh : Dt) : Int := if chkE qs ps all = 0 then shE qs sh else chkE qs ps all
theorem outs_ff {lo hi : Int} {xs : Dt} : ∀ {n i : Nat}, outs lo hi xs i n = false -> ∀ k, i <= k -> k < i + n -> lo <= (cel xs k 0).int /\ (cel xs k 0).int <= hi
 | 0, _, _, k, h1, h2 => by omega
 | n + 1, i, h, k, h1, h2 => by
  simp only [outs, Bool.or_eq_false_iff, Bool.not_eq_false'] at h;rcases Nat.eq_or_lt_of_le h1 with e | e
  ·rw [<- e]; exact inr_iff.1 h.1
  ·exact outs_ff h.2 k e (by omega)
theorem outs_of {lo hi : Int} {xs : Dt} : ∀ {n i : Nat}, (∀ k, i <= k -> k < i + n -> lo <= (cel xs k 0).int /\ (cel xs k 0).int <= hi) -> outs lo hi xs i n = false
 | 0, _, _ => rfl
 | n + 1, i, h => by
  simp only [outs, Bool.or_eq_false_iff, Bool.not_eq_false'];exact ⟨inr_iff.2 (h i (by omega) (by omega)), outs_of fun k h1 h2 => h k (by omega) (by omega)⟩
structure ShapeOk (qs sh : Dt) : Prop where
 n : sh.length = qs.length
 row_ : ∀ i, i < qs.length -> ((row sh i).length : Int) = qBoxes qs i
 val : ∀ i j, i < qs.length -> j < (row sh i).length -> 0 <= bx (row sh i) j /\ bx (row sh i) j <= 2
structure ShOk (qs sh : Dt) : Prop extends ShapeOk qs sh where
 seven : (uns sh).length <= 7
theorem rowE_ok {qs sh : Dt} {i : Nat} (h : rowE qs sh i = 0) : ((row sh i).length : Int) = qBoxes qs i /\ ∀ j, j < (row sh i).length -> 0 <= bx (row sh i) j /\ bx (row sh i) j <= 2 := by
 unfold rowE at h
 split at h
 ·rename_i h1
  split at h
  ·omega
  ·rename_i h2;exact ⟨h1, fun j hj => outs_ff (by simpa [out] using h2) j (by omega) (by omega)⟩
 ·omega
theorem shE_iff {qs sh : Dt} : shE qs sh = 0 ↔ ShOk qs sh := by
 unfold shE;constructor
 ·intro h
  split at h
  ·rename_i h1
   split at h
   ·rename_i h2; exact absurd h (hasE_ix h2).2.2
   ·rename_i h2
    split at h
    ·omega
    ·have hr := fun i (hi : i < sh.length) => rowE_ok (hasE_no (by simpa using h2) i (by omega) (by omega));exact ⟨⟨by omega, fun i hi => (hr i (by omega)).1, fun i j hi => (hr i (by omega)).2 j⟩, by omega⟩
  ·omega
 ·intro h;have h1 := h.n;have h2 := h.seven;rw [if_pos (by omega), if_neg, if_neg (by omega)];rw [hasE_of fun i _ hi => by
   unfold rowE;rw [if_pos (h.row_ i (by omega)), if_neg];unfold out;rw [outs_of fun k _ hk => h.val i k (by omega) (by omega)];simp]
  simp
theorem ShapeOk.few {qs ps sh : Dt} {all : Int} (hk : KeyOk qs ps all) (h : ShapeOk qs sh) : Few sh := by
 have h1 := h.n;have h2 := hk.n2;refine ⟨by omega, fun i hi => ?_⟩;have h3 := h.row_ i (by omega);have h4 := hk.boxes i (by omega);omega
end Sp
def Xfb [InW] (e : List Ed) (K : Nat -> List Ed -> Prop) : Prop := match e with
 | [.ro _ sh, .i i, .i j] => Pre (0 <= i /\ i < sh.xs.length /\ 0 <= j /\ j <= (Sp.row sh.xs i.toNat).length) (Vif (Sp.outs 0 2 (Sp.row sh.xs i.toNat) j.toNat ((Sp.row sh.xs i.toNat).length - j.toNat)) (K 1 []) (K 0 [.ro _ sh, .i i]))
 | _ => False
noncomputable def Xgz : LC where
 len := 53
 T := [(1, .rs Jb), (5, .int .i64), (6, .int .i64)]
 H := []
 W := ([4] ++ rg 31 18)
 outs := [⟨.exit 2, [(1, .rs Jb), (5, .int .i64)], [], ([4, 6] ++ rg 31 18)⟩, ⟨.ret, [(4, (.lit (.int .i64 7)))], [], ([1, 5, 6] ++ rg 31 18)⟩]
 spec := Xfb
def Xee [W : InW] (sh : Ro Jb) (i j : Int) (A : List Ed -> Prop) (K : Nat -> List Ed -> Prop) : Prop :=
 Need (decide (0 <= i) && decide (i < (↑(sh.xs.length) : Int))) (Need (decide (i.toNat < sh.xs.length)) (Vif (decide (j < (↑(List.length (cel sh.xs i.toNat (0 : Nat)).lst) : Int))) (Need (decide (0 <= i) && decide (i < (↑(sh.xs.length) : Int))) (Need (decide (i.toNat < sh.xs.length)) (Need (decide (0 <= j) && decide (j < (↑(List.length (cel sh.xs i.toNat (0 : Nat)).lst) : Int))) (Need (decide (j.toNat < List.length (cel sh.xs i.toNat (0 : Nat)).lst)) (Pre True (Vif (!Sp.inr (cel (cel sh.xs i.toNat (0 : Nat)).lst j.toNat (0 : Nat)).int (0 : Int) (2 : Int)) (K (0+1) []) (Ar .i64 (j + 1) fun z => A [.ro [Ty.sl [Ty.int IntKind.i64]] sh, .i i, .i z]))))))) (K 0 [.ro [Ty.sl [Ty.int IntKind.i64]] sh, .i i])))
theorem Xla (W : InW) (sh i j A K) : Yfc { cxT Try.prog TT T2 1000 50 with fn := 50 } 1000 (Yn7 Try.prog 50 10) (Yd6 53 [(1, .rs _ sh), (5, .si .i64 i), (6, .si .i64 j)] ([4] ++ rg 31 18)) [] (Yug Xgz A K) = Xee sh i j A K := by kernel_rfl
def Xf8 : Prop := ∀ (W : InW) (body a : Code), (Try.prog.funcs[50]?).bind (·.body) = some body -> a ∈ Yy body -> Yfx a = 10 -> @Ymq W Try.prog a (@Yto W Xgz)
theorem Xms (meas : [InW] -> List Ed -> Nat) (hyp_ : ∀ (W : InW) sh i j K, Xfb [.ro _ sh, .i i, .i j] K -> ∀ A : List Ed -> Prop, (∀ e, meas e < meas [.ro _ sh, .i i, .i j] -> Xfb e K -> A e) -> Xee sh i j A K) : Xf8 :=
 LE.okOf' (fun W => @TT W) (fun W => @Xe W) Xa T2 1000 50 (by kernel_rfl) Xgz (fun W => @meas W) fun W sh i j K hs =>
  (Xla W sh i j (fun e => meas e < meas [.ro _ sh, .i i, .i j] /\ Xfb e K) K).mpr (hyp_ W sh i j K hs _ fun e h1 h2 => ⟨h1, h2⟩)
theorem Xpb : Xf8 := Xms (fun e => match e with | [.ro _ sh, .i i, .i j] => (((Sp.row sh.xs i.toNat).length : Int) - j).toNat | _ => 0) fun W sh i j K hs A hA => by
 obtain ⟨⟨h0, h1, h2, h3⟩, hk⟩ := hs;have hm := sh.len;have hr := (sh.sub [.int .i64] i.toNat 0 (sh.ok i.toNat 0)).len;simp only [maxLen] at hm;have hr : (Sp.row sh.xs i.toNat).length <= 9223372036854775807 := hr;unfold Xee;simp only [show (cel sh.xs i.toNat 0).lst = Sp.row sh.xs i.toNat from rfl];have ez : (j + 1).toNat = j.toNat + 1 := by omega
 have hlt : j < (Sp.row sh.xs i.toNat).length -> (((Sp.row sh.xs i.toNat).length : Int) - (j + 1)).toNat < (((Sp.row sh.xs i.toNat).length : Int) - j).toNat := by omega
 by_cases hj : j < (Sp.row sh.xs i.toNat).length
 ·rw [show (Sp.row sh.xs i.toNat).length - j.toNat = ((Sp.row sh.xs i.toNat).length - (j.toNat + 1)) + 1 by omega] at hk;simp only [Sp.outs] at hk
  by_cases c : Sp.inr (cel (Sp.row sh.xs i.toNat) j.toNat 0).int 0 2 = true
  ·simp only [c, Bool.not_true, Bool.false_or] at hk ⊢;have hA' := hA [.ro _ sh, .i i, .i (j + 1)] (hlt hj) ⟨⟨h0, h1, by omega, by omega⟩, by rw [ez]; exact hk⟩;clear hA hk
   repeat' (first | omega | intro _ | with_reducible first | apply vifd | apply vifn | apply vifq | apply Xd | apply Xc | apply vifb | apply vif | apply nedd | apply ned2 | apply ned | apply ar64 | apply Xb | exact True.intro | assumption | rfl | apply And.intro)
   all_goals first | contradiction | exact hA'
  ·have c : Sp.inr (cel (Sp.row sh.xs i.toNat) j.toNat 0).int 0 2 = false := by simpa using c
   simp only [c, Bool.not_false, Bool.true_or] at hk ⊢;clear hA
   repeat' (first | omega | intro _ | with_reducible first | apply vifd | apply vifn | apply vifq | apply Xd | apply Xc | apply vifb | apply vif | apply nedd | apply ned2 | apply ned | apply ar64 | apply Xb | exact True.intro | assumption | rfl | apply And.intro)
   all_goals first | contradiction | exact hk.1 rfl
 ·rw [show (Sp.row sh.xs i.toNat).length - j.toNat = 0 by omega] at hk;clear hA
  repeat' (first | omega | intro _ | with_reducible first | apply vifd | apply vifn | apply vifq | apply Xd | apply Xc | apply vifb | apply vif | apply nedd | apply ned2 | apply ned | apply ar64 | apply Xb | exact True.intro | assumption | rfl | apply And.intro)
  all_goals exact hk.2 rfl
noncomputable def Xp7 : LE Try.prog := ⟨50, 10, fun W => @Yto W Xgz, Xpb⟩
noncomputable def T13 : Tab Try.prog := ⟨[Xjr], [Xp7], []⟩
def Xfa [InW] (e : List Ed) (K : Nat -> List Ed -> Prop) : Prop := match e with
 | [.ro _ sh, .i i, .ro _ qs, .ro _ ps, .i all] => Pre (0 <= i /\ i <= sh.xs.length /\ sh.xs.length = qs.xs.length) (Vif (Sp.hasE (Sp.rowE qs.xs sh.xs) i.toNat (sh.xs.length - i.toNat)) (K 1 [.i (Sp.rowE qs.xs sh.xs (Sp.idxE (Sp.rowE qs.xs sh.xs) i.toNat (sh.xs.length - i.toNat)))]) (K 0 [.ro _ sh]))
 | _ => False
noncomputable def Xgy : LC where
 len := 53
 T := [(1, .rs Jb), (2, (.ptr 1 0)), (5, .int .i64)]
 H := [(1, .blk 25 [.rs Iv5, .rs Jc, .int .i64])]
 W := ([4, 6] ++ rg 13 36)
 outs := [⟨.exit 0, [(1, .rs Jb)], [], ([2, 4, 5, 6] ++ rg 13 36)⟩, ⟨.ret, [(4, .int .i64)], [], ([1, 2, 5, 6] ++ rg 13 36)⟩]
 spec := Xfa
def Xed [W : InW] (sh : Ro Jb) (i : Int) (qs : Ro Iv5) (ps : Ro Jc) (all : Int) (A : List Ed -> Prop) (K : Nat -> List Ed -> Prop) : Prop :=
 Vif (decide (i < (↑(sh.xs.length) : Int))) (Need (decide (0 <= i) && decide (i < (↑(sh.xs.length) : Int))) (Need (decide (i.toNat < sh.xs.length)) (Need (decide (0 <= i) && decide (i < (↑(qs.xs.length) : Int))) (Need (decide (i.toNat < qs.xs.length)) (Vif (!decide ((↑(List.length (cel sh.xs i.toNat (0 : Nat)).lst) : Int) = (cel qs.xs i.toNat (0+1)).int)) (K (0+1) [.i (3 : Int)]) (Pre (0 <= i /\ i < (↑(sh.xs.length) : Int) /\ Zb <= 0 /\ Zb <= (↑(List.length (Sp.row sh.xs i.toNat)) : Int)) (Vif (Sp.outs Zb (2 : Int) (Sp.row sh.xs i.toNat) (Int.toNat Zb) (List.length (Sp.row sh.xs i.toNat) - Int.toNat Zb)) (K (0+1) [.i (7 : Int)]) (Ar .i64 (i + 1) fun z => A [.ro [Ty.sl [Ty.int IntKind.i64]] sh, .i z, .ro _ qs, .ro _ ps, .i all])))))))) (K 0 [.ro [Ty.sl [Ty.int IntKind.i64]] sh])
theorem Xk9 (W : InW) (sh i qs ps all A K) : Yfc { cxT Try.prog TT T13 1000 50 with fn := 50 } 1000 (Yn7 Try.prog 50 5) (Yd6 53 [(1, .rs _ sh), (2, .ptr 1 0), (5, .si .i64 i)] ([4, 6] ++ rg 13 36)) [(1, .blk 25 [.rs _ qs, .rs _ ps, .si .i64 all])] (Yug Xgy A K) = Xed sh i qs ps all A K := by kernel_rfl
def Xf7 : Prop := ∀ (W : InW) (body a : Code), (Try.prog.funcs[50]?).bind (·.body) = some body -> a ∈ Yy body -> Yfx a = 5 -> @Ymq W Try.prog a (@Yto W Xgy)
theorem Xmr (meas : [InW] -> List Ed -> Nat) (hyp_ : ∀ (W : InW) sh i qs ps all K, Xfa [.ro _ sh, .i i, .ro _ qs, .ro _ ps, .i all] K -> ∀ A : List Ed -> Prop, (∀ e, meas e < meas [.ro _ sh, .i i, .ro _ qs, .ro _ ps, .i all] -> Xfa e K -> A e) -> Xed sh i qs ps all A K) : Xf7 :=
 LE.okOf' (fun W => @TT W) (fun W => @Xe W) Xa T13 1000 50 (by kernel_rfl) Xgy (fun W => @meas W) fun W sh i qs ps all K hs =>
  (Xk9 W sh i qs ps all (fun e => meas e < meas [.ro _ sh, .i i, .ro _ qs, .ro _ ps, .i all] /\ Xfa e K) K).mpr (hyp_ W sh i qs ps all K hs _ fun e h1 h2 => ⟨h1, h2⟩)
theorem Xpa : Xf7 := Xmr (fun e => match e with | [.ro _ sh, .i i, _, _, _] => ((sh.xs.length : Int) - i).toNat | _ => 0) fun W sh i qs ps all K hs A hA => by
 obtain ⟨⟨h0, h1, h2⟩, hk⟩ := hs;have hm := sh.len;simp only [maxLen] at hm;unfold Xed;delta Zb;simp only [show Int.toNat 0 = 0 from rfl, Nat.sub_zero, show (cel sh.xs i.toNat 0).lst = Sp.row sh.xs i.toNat from rfl, Nat.zero_add];have ez : (i + 1).toNat = i.toNat + 1 := by omega
 by_cases hi : i < sh.xs.length
 ·rw [show sh.xs.length - i.toNat = (sh.xs.length - (i.toNat + 1)) + 1 by omega] at hk;obtain ⟨g1, g2⟩ := Xdi (K1 := fun _ e => K 1 [.i e]) hk;have hA' : Sp.rowE qs.xs sh.xs i.toNat = 0 -> A [.ro _ sh, .i (i + 1), .ro _ qs, .ro _ ps, .i all] := fun f => hA _ (by show ((sh.xs.length : Int) - (i + 1)).toNat < ((sh.xs.length : Int) - i).toNat; omega) ⟨⟨by omega, by omega, h2⟩, by rw [ez]; exact g2 f⟩;clear hA hk g2;unfold Sp.rowE Sp.qBoxes Sp.out at hA' g1
  by_cases c : ((Sp.row sh.xs i.toNat).length : Int) = (cel qs.xs i.toNat 1).int
  ·rw [if_pos c] at hA' g1
   by_cases c2 : Sp.outs 0 2 (Sp.row sh.xs i.toNat) 0 (Sp.row sh.xs i.toNat).length = true
   ·rw [if_pos c2] at hA' g1;have g1 := g1 (by decide);simp only [c, c2]
    repeat' (first | omega | intro _ | with_reducible first | apply vifd | apply vifn | apply vifq | apply Xd | apply Xc | apply vifb | apply vif | apply nedd | apply ned2 | apply ned | apply ar64 | apply Xb | exact True.intro | assumption | rfl | apply And.intro)
    all_goals first | contradiction | exact g1 | (simp at *; done) | skip
   ·rw [if_neg c2] at hA' g1;have c2 : Sp.outs 0 2 (Sp.row sh.xs i.toNat) 0 (Sp.row sh.xs i.toNat).length = false := by simpa using c2
    have hA' := hA' rfl;simp only [c, c2]
    repeat' (first | omega | intro _ | with_reducible first | apply vifd | apply vifn | apply vifq | apply Xd | apply Xc | apply vifb | apply vif | apply nedd | apply ned2 | apply ned | apply ar64 | apply Xb | exact True.intro | assumption | rfl | apply And.intro)
    all_goals first | contradiction | exact hA' | (simp at *; done) | skip
  ·rw [if_neg c] at hA' g1;have g1 := g1 (by decide)
   repeat' (first | omega | intro _ | with_reducible first | apply vifd | apply vifn | apply vifq | apply Xd | apply Xc | apply vifb | apply vif | apply nedd | apply ned2 | apply ned | apply ar64 | apply Xb | exact True.intro | assumption | rfl | apply And.intro)
   all_goals first | contradiction | exact g1 | skip
 ·rw [show sh.xs.length - i.toNat = 0 by omega] at hk;clear hA
  repeat' (first | omega | intro _ | with_reducible first | apply vifd | apply vifn | apply vifq | apply Xd | apply Xc | apply vifb | apply vif | apply nedd | apply ned2 | apply ned | apply ar64 | apply Xb | exact True.intro | assumption | rfl | apply And.intro)
  all_goals exact hk.2 rfl
noncomputable def Xp6 : LE Try.prog := ⟨50, 5, fun W => @Yto W Xgy, Xpa⟩
noncomputable def T14 : Tab Try.prog := ⟨[Xky], [Xp6], []⟩
def Xcu [W : InW] (k_Qs : Ro Iv5) (k_Ps : Ro Jc) (k_All : Int) (sh : Ro Jb) (Q : DS -> Prop) : Prop :=
 Vif (!decide ((↑(sh.xs.length) : Int) = (↑(k_Qs.xs.length) : Int))) (Q [[Cl.i 3]]) (Pre (Zb <= 0 /\ Zb <= (↑(sh.xs.length) : Int) /\ sh.xs.length = k_Qs.xs.length) (Vif (Sp.hasE (Sp.rowE k_Qs.xs sh.xs) (Int.toNat Zb) (sh.xs.length - Int.toNat Zb)) (Q [[Cl.i (Sp.rowE k_Qs.xs sh.xs (Sp.idxE (Sp.rowE k_Qs.xs sh.xs) (Int.toNat Zb) (sh.xs.length - Int.toNat Zb)))]]) (Pre (Sp.Few sh.xs) (Vif (decide ((7 : Int) < (↑(List.length (Sp.uns sh.xs)) : Int))) (Q [[Cl.i 3]]) (Q [[Cl.i 0]])))))
theorem Xjd (W : InW) (k_Qs k_Ps k_All sh Q) : Ywr (cxT Try.prog TT T14 1000 50) 1000 50 [.agg [.rs _ k_Qs, .rs _ k_Ps, .si .i64 k_All], .rs _ sh] [] 0 (Y01 [(false, [.int .i64])] Q) (fun _ _ _ _ => Stuck 421) = Xcu k_Qs k_Ps k_All sh Q := by kernel_rfl
abbrev Xbt : List AT := [.agg [.sl Iv5, .sl Jc, .int .i64], .one (.sl Jb)]
theorem Xka {pre : DS -> Prop} {res : DS -> DS} (hyp_ : ∀ (W : InW) (k_Qs : Ro Iv5) (k_Ps : Ro Jc) (k_All : Int) (sh : Ro Jb), pre [[.l k_Qs.xs, .l k_Ps.xs, .i k_All], [.l sh.xs]] -> ∀ Q : DS -> Prop, Q (res [[.l k_Qs.xs, .l k_Ps.xs, .i k_All], [.l sh.xs]]) -> Xcu k_Qs k_Ps k_All sh Q) : PureOk Try.prog 50 Xbt [(false, [.int .i64])] pre res :=
 PureOk.of' (fun W => @TT W) (fun W => @Xe W) Xa T14 1000 50 fun W k_Qs k_Ps k_All sh hp =>
  (Xjd W k_Qs k_Ps k_All sh (fun o => o = res [[.l k_Qs.xs, .l k_Ps.xs, .i k_All], [.l sh.xs]])).mpr (hyp_ W k_Qs k_Ps k_All sh hp _ rfl)
abbrev Xbj (ds : DS) : DS := match ds with | [[.l qs, .l ps, .i all], [.l sh]] => [[.i (Sp.shE qs sh)]] | _ => []
abbrev Xhz (ds : DS) : Prop := match ds with | [.l qs, .l ps, .i all] :: _ => Sp.KeyOk qs ps all | _ => False
theorem Xmj : PureOk Try.prog 50 Xbt [(false, [.int .i64])] Xhz Xbj :=
 Xka fun W qs ps all sh hp Q h => by
  have hp : Sp.KeyOk qs.xs ps.xs all := hp;unfold Xcu;delta Zb;simp only [show Int.toNat 0 = 0 from rfl, Nat.sub_zero];simp only [Xbj, Sp.shE] at h;refine vifn (fun e => ?_) fun e => ?_
  ·rw [if_neg e] at h; exact h
  ·rw [if_pos e] at h;refine ⟨⟨by omega, by omega, by omega⟩, vif (fun e1 => ?_) fun e1 => ?_⟩
   ·rw [if_pos e1] at h; exact h
   ·rw [if_neg (by simp [e1])] at h;have hf : Sp.Few sh.xs := Sp.ShapeOk.few hp ⟨by omega, fun i hi => (Sp.rowE_ok (Sp.hasE_no e1 i (by omega) (by omega))).1, fun i j hi => (Sp.rowE_ok (Sp.hasE_no e1 i (by omega) (by omega))).2 j⟩;refine ⟨hf, vifd (fun e2 => ?_) fun e2 => ?_⟩
    ·rw [if_pos (by omega)] at h; exact h
    ·rw [if_neg (by omega)] at h; exact h
noncomputable def Xjp : PC Try.prog := ⟨50, Xbt, [(false, [.int .i64])], Xhz, Xbj, Xmj⟩
noncomputable def T15 : Tab Try.prog := ⟨[Xc7, Xjp], [], []⟩
def Xcx [W : InW] (k_Qs : Ro Iv5) (k_Ps : Ro Jc) (k_All : Int) (sh : Ro Jb) (Q : DS -> Prop) : Prop :=
 Pre True (Vif (decide (Sp.chkE k_Qs.xs k_Ps.xs k_All = 0)) (Pre (Sp.KeyOk k_Qs.xs k_Ps.xs k_All) (Q [[Cl.i (Sp.shE k_Qs.xs sh.xs)]])) (Q [[Cl.i (Sp.chkE k_Qs.xs k_Ps.xs k_All)]]))
theorem Xjh (W : InW) (k_Qs k_Ps k_All sh Q) : Ywr (cxT Try.prog TT T15 1000 50) 1000 57 [.agg [.rs _ k_Qs, .rs _ k_Ps, .si .i64 k_All], .rs _ sh] [] 0 (Y01 [(false, [.int .i64])] Q) (fun _ _ _ _ => Stuck 421) = Xcx k_Qs k_Ps k_All sh Q := by kernel_rfl
abbrev Xbv : List AT := [.agg [.sl Iv5, .sl Jc, .int .i64], .one (.sl Jb)]
theorem Xke {pre : DS -> Prop} {res : DS -> DS} (hyp_ : ∀ (W : InW) (k_Qs : Ro Iv5) (k_Ps : Ro Jc) (k_All : Int) (sh : Ro Jb), pre [[.l k_Qs.xs, .l k_Ps.xs, .i k_All], [.l sh.xs]] -> ∀ Q : DS -> Prop, Q (res [[.l k_Qs.xs, .l k_Ps.xs, .i k_All], [.l sh.xs]]) -> Xcx k_Qs k_Ps k_All sh Q) : PureOk Try.prog 57 Xbv [(false, [.int .i64])] pre res :=
 PureOk.of' (fun W => @TT W) (fun W => @Xe W) Xa T15 1000 50 fun W k_Qs k_Ps k_All sh hp =>
  (Xjh W k_Qs k_Ps k_All sh (fun o => o = res [[.l k_Qs.xs, .l k_Ps.xs, .i k_All], [.l sh.xs]])).mpr (hyp_ W k_Qs k_Ps k_All sh hp _ rfl)
abbrev Xbk (ds : DS) : DS := match ds with | [[.l qs, .l ps, .i all], [.l sh]] => [[.i (Sp.askE qs ps all sh)]] | _ => []
theorem Xnj : PureOk Try.prog 57 Xbv [(false, [.int .i64])] (fun _ => True) Xbk :=
 Xke fun W qs ps all sh hp Q h => by
  unfold Xcx;simp only [Xbk, Sp.askE] at h;refine ⟨trivial, vifd (fun e => ⟨Sp.chkE_iff.1 e, ?_⟩) fun e => ?_⟩
  ·rw [if_pos e] at h; exact h
  ·rw [if_neg e] at h; exact h
noncomputable def Xjt : PC Try.prog := ⟨57, Xbv, [(false, [.int .i64])], fun _ => True, Xbk, Xnj⟩
open Go.RowKit
set_option maxRecDepth 100000
set_option maxHeartbeats 1600000
namespace Sp
def ptsQ (qs sh : Dt) (i : Nat) : Int := ptsV (qRight qs i) (qPts qs i) (qMin qs i) (row sh i)
def addG (qs sh : Dt) : Nat -> Nat -> Dt -> Dt
 | _, 0, l => l
 | i, n + 1, l => addG qs sh (i + 1) n (l.set (qPart qs i).toNat [.i (num l (qPart qs i).toNat + ptsQ qs sh i)])
def mk (qs ps sh : Dt) : Dt := addG qs sh 0 sh.length (List.replicate ps.length [.i 0])
def partsOk (l ps : Dt) : Nat -> Nat -> Bool := allF fun p => decide (num ps p <= num l p)
def passOf (all : Int) (ps l : Dt) : Bool := decide (all <= total l) && partsOk l ps 0 l.length
theorem ptsV_in {right pts minus : Int} {d : Dt} (h : 0 <= pts /\ pts <= 20) (h2 : 0 <= minus /\ minus <= 20) : -20 <= ptsV right pts minus d /\ ptsV right pts minus d <= 20 := by
 unfold ptsV; repeat' split <;> omega
theorem num_set {l : Dt} {p : Nat} {v : Int} (hp : p < l.length) (q : Nat) : num (l.set p [.i v]) q = if p = q then v else num l q := by
 unfold num cel
 by_cases e : p = q
 ·subst e; simp [List.getD_eq_getElem?_getD, List.getElem?_set_self hp]
 ·simp [List.getD_eq_getElem?_getD, List.getElem?_set_ne e, e]
theorem addG_len (qs sh : Dt) : ∀ n i l, (addG qs sh i n l).length = l.length
 | 0, _, _ => rfl
 | n + 1, i, l => by simp [addG, addG_len qs sh n]
theorem addG_in {qs sh : Dt} (h : ∀ i, i < qs.length -> 0 <= qPts qs i /\ qPts qs i <= 20) (h2 : ∀ i, i < qs.length -> 0 <= qMin qs i /\ qMin qs i <= 20) : ∀ n i l, i + n <= qs.length -> (∀ k, k < n -> 0 <= qPart qs (i + k) /\ qPart qs (i + k) < l.length) -> (∀ p, p < l.length -> -20 * (i : Int) <= num l p /\ num l p <= 20 * (i : Int)) ->
  ∀ p, p < l.length -> -20 * ((i + n : Nat) : Int) <= num (addG qs sh i n l) p /\ num (addG qs sh i n l) p <= 20 * ((i + n : Nat) : Int)
 | 0, i, l, _, _, hl, p, hp => by simpa [addG] using hl p hp
 | n + 1, i, l, hi, hpt, hl, p, hp => by
  have h0 := hpt 0 (by omega);rw [Nat.add_zero] at h0;have hv := ptsV_in (right := qRight qs i) (d := row sh i) (h i (by omega)) (h2 i (by omega));have ih := addG_in (sh := sh) h h2 n (i + 1) (l.set (qPart qs i).toNat [.i (num l (qPart qs i).toNat + ptsQ qs sh i)]) (by omega) (fun k hk => by
   rw [List.length_set, show i + 1 + k = i + (k + 1) by omega]; exact hpt (k + 1) (by omega)) (fun q hq => by
   rw [List.length_set] at hq;rw [num_set (by omega)];have := hl q hq;have hq2 := hl (qPart qs i).toNat (by omega);unfold ptsQ
   split <;> omega) p (by rw [List.length_set]; exact hp)
  simp only [addG];rw [show i + 1 + n = i + (n + 1) by omega] at ih;exact ih
theorem num_rep (n p : Nat) : num (List.replicate n [.i 0]) p = 0 := by
 unfold num cel;simp only [List.getD_eq_getElem?_getD, List.getElem?_replicate]
 by_cases e : p < n
 ·rw [if_pos e]; rfl
 ·rw [if_neg e]; rfl
end Sp
def Xfo [InW] (e : List Ed) (K : Nat -> List Ed -> Prop) : Prop := match e with
 | [.ro _ sh, .i i, .ro _ qs, .ro _ ps, .i all, .l l] => Pre (0 <= i /\ i <= sh.xs.length /\ sh.xs.length = qs.xs.length /\ l.length = ps.xs.length /\ Sp.KeyOk qs.xs ps.xs all /\ ∀ p, p < l.length -> -20 * i <= Sp.num l p /\ Sp.num l p <= 20 * i) (K 0 [.ro _ qs, .ro _ ps, .i all, .l (Sp.addG qs.xs sh.xs i.toNat (sh.xs.length - i.toNat) l)])
 | _ => False
noncomputable def T16 : Tab Try.prog := ⟨[Xh1, Xh0], [], []⟩
noncomputable def Xhc : LC where
 len := 71
 T := [(1, .rs Jb), (2, (.ptr 1 0)), (6, (.row 3)), (7, .int .i64)]
 H := [(1, .blk 25 [.rs Iv5, .rs Jc, .int .i64]), (3, .arr 3 Jc)]
 W := ([8] ++ rg 15 30)
 outs := [⟨.exit 0, [(2, (.ptr 1 0)), (6, (.row 6))], [(1, .blk 25 [.rs Iv5, .rs Jc, .int .i64]), (6, .arr 3 Jc)], ([1, 7, 8] ++ rg 15 30)⟩]
 spec := Xfo
def Zd [W : InW] (i : Int) (qs : Ro Iv5) := cel qs.xs i.toNat (0 : Nat)
def Xer [W : InW] (sh : Ro Jb) (i : Int) (qs : Ro Iv5) (ps : Ro Jc) (all : Int) (l : Dt) (A : List Ed -> Prop) (K : Nat -> List Ed -> Prop) : Prop :=
 Vif (decide (i < (↑(sh.xs.length) : Int))) (Need (decide (0 <= i) && decide (i < (↑(qs.xs.length) : Int))) (Need (decide (i.toNat < qs.xs.length)) (Need (decide (Zb <= (Zd i qs).int) && decide ((Zd i qs).int < (↑(l.length) : Int))) (Need (decide ((Zd i qs).int.toNat < l.length)) (Need (decide (0 <= i) && decide (i < (↑(qs.xs.length) : Int))) (Need (decide (i.toNat < qs.xs.length)) (Need (decide (0 <= i) && decide (i < (↑(sh.xs.length) : Int))) (Need (decide (i.toNat < sh.xs.length)) (Pre (Zb <= (cel qs.xs i.toNat ((0 : Nat) + 1 + 1 + 1 + 1)).int /\ (cel qs.xs i.toNat ((0 : Nat) + 1 + 1 + 1 + 1)).int <= 20) (Ar .i64 ((cel l (Zd i qs).int.toNat (0 : Nat)).int + Sp.ptsV (cel qs.xs i.toNat ((0 : Nat) + 1 + 1)).int (cel qs.xs i.toNat ((0 : Nat) + 1 + 1 + 1)).int (cel qs.xs i.toNat ((0 : Nat) + 1 + 1 + 1 + 1)).int (cel sh.xs i.toNat (0 : Nat)).lst) fun z => Need (decide (Zb <= (Zd i qs).int) && decide ((Zd i qs).int < (↑(l.length) : Int))) (Need (decide ((Zd i qs).int.toNat < l.length)) (Ar .i64 (i + 1) fun z_1 => A [.ro [Ty.sl [Ty.int IntKind.i64]] sh, .i z_1, .ro _ qs, .ro _ ps, .i all, .l (List.set l (Zd i qs).int.toNat [Cl.i z])])))))))))))) (K 0 [.ro _ qs, .ro _ ps, .i all, .l l])
theorem Xln (W : InW) (sh i qs ps all l A K) : Yfc { cxT Try.prog TT T16 1000 50 with fn := 58 } 1000 (Yn7 Try.prog 58 4) (Yd6 71 [(1, .rs _ sh), (2, .ptr 1 0), (6, .rw 3), (7, .si .i64 i)] ([8] ++ rg 15 30)) [(1, .blk 25 [.rs _ qs, .rs _ ps, .si .i64 all]), (3, .arr 3 Jc l)] (Yug Xhc A K) = Xer sh i qs ps all l A K := by kernel_rfl
def Xgl : Prop := ∀ (W : InW) (body a : Code), (Try.prog.funcs[58]?).bind (·.body) = some body -> a ∈ Yy body -> Yfx a = 4 -> @Ymq W Try.prog a (@Yto W Xhc)
theorem Xm5 (meas : [InW] -> List Ed -> Nat) (hyp_ : ∀ (W : InW) sh i qs ps all l K, Xfo [.ro _ sh, .i i, .ro _ qs, .ro _ ps, .i all, .l l] K -> ∀ A : List Ed -> Prop, (∀ e, meas e < meas [.ro _ sh, .i i, .ro _ qs, .ro _ ps, .i all, .l l] -> Xfo e K -> A e) -> Xer sh i qs ps all l A K) : Xgl :=
 LE.okOf' (fun W => @TT W) (fun W => @Xe W) Xa T16 1000 50 (by kernel_rfl) Xhc (fun W => @meas W) fun W sh i qs ps all l K hs =>
  (Xln W sh i qs ps all l (fun e => meas e < meas [.ro _ sh, .i i, .ro _ qs, .ro _ ps, .i all, .l l] /\ Xfo e K) K).mpr (hyp_ W sh i qs ps all l K hs _ fun e h1 h2 => ⟨h1, h2⟩)
theorem Xpo : Xgl := Xm5 (fun e => match e with | [.ro _ sh, .i i, _, _, _, _] => ((sh.xs.length : Int) - i).toNat | _ => 0) fun W sh i qs ps all l K hs A hA => by
 obtain ⟨⟨h0, h1, h2, h3, hkey, h4⟩, hk⟩ := hs;have hm := sh.len;have k1 := hkey.n2;simp only [maxLen] at hm;unfold Xer;delta Zd Zb;simp only [Nat.zero_add, Nat.reduceAdd, show (cel sh.xs i.toNat 0).lst = Sp.row sh.xs i.toNat from rfl, show ∀ k, (cel l k 0).int = Sp.num l k from fun _ => rfl];have ez : (i + 1).toNat = i.toNat + 1 := by omega
 by_cases hi : i < sh.xs.length
 ·rw [show sh.xs.length - i.toNat = (sh.xs.length - (i.toNat + 1)) + 1 by omega] at hk;simp only [Sp.addG] at hk;have hp := hkey.part i.toNat (by omega);have hpt := hkey.pts i.toNat (by omega);have hmn := hkey.minus i.toNat (by omega);have hv := Sp.ptsV_in (right := Sp.qRight qs.xs i.toNat) (d := Sp.row sh.xs i.toNat) hpt hmn;have hq := h4 (Sp.qPart qs.xs i.toNat).toNat (by omega);have hA' := hA [.ro _ sh, .i (i + 1), .ro _ qs, .ro _ ps, .i all, .l (l.set (Sp.qPart qs.xs i.toNat).toNat [.i (Sp.num l (Sp.qPart qs.xs i.toNat).toNat + Sp.ptsQ qs.xs sh.xs i.toNat)])] (show ((sh.xs.length : Int) - (i + 1)).toNat < ((sh.xs.length : Int) - i).toNat by omega)
   ⟨⟨by omega, by omega, h2, by simpa using h3, hkey, fun p hp2 => by
    rw [List.length_set] at hp2;rw [Sp.num_set (by omega)];have := h4 p hp2;unfold Sp.ptsQ
    split <;> omega⟩, by rw [ez]; exact hk⟩
  clear hA hk;unfold Sp.ptsQ at hA';simp only [show (cel qs.xs i.toNat 0).int = Sp.qPart qs.xs i.toNat from rfl, show (cel qs.xs i.toNat 2).int = Sp.qRight qs.xs i.toNat from rfl, show (cel qs.xs i.toNat 3).int = Sp.qPts qs.xs i.toNat from rfl, show (cel qs.xs i.toNat 4).int = Sp.qMin qs.xs i.toNat from rfl];generalize Sp.ptsV (Sp.qRight qs.xs i.toNat) (Sp.qPts qs.xs i.toNat) (Sp.qMin qs.xs i.toNat) (Sp.row sh.xs i.toNat) = v at *
  repeat' (first | omega | intro _ | with_reducible first | apply vifd | apply vifn | apply vifq | apply Xd | apply Xc | apply vifb | apply vif | apply nedd | apply ned2 | apply ned | apply ar64 | apply Xb | exact True.intro | assumption | rfl | apply And.intro)
  all_goals first | exact hA' | skip
 ·rw [show sh.xs.length - i.toNat = 0 by omega] at hk;clear hA
  repeat' (first | omega | intro _ | with_reducible first | apply vifd | apply vifn | apply vifq | apply Xd | apply Xc | apply vifb | apply vif | apply nedd | apply ned2 | apply ned | apply ar64 | apply Xb | exact True.intro | assumption | rfl | apply And.intro)
  all_goals exact hk
noncomputable def Xqk : LE Try.prog := ⟨58, 4, fun W => @Yto W Xhc, Xpo⟩
def Xfn [InW] (e : List Ed) (K : Nat -> List Ed -> Prop) : Prop := match e with
 | [.b b, .i p, .ro _ qs, .ro _ ps, .i all, .l l] => Pre (0 <= p /\ p <= l.length /\ l.length = ps.xs.length) (K 0 [.b (b && Sp.partsOk l ps.xs p.toNat (l.length - p.toNat)), .l l])
 | _ => False
noncomputable def Xhb : LC where
 len := 71
 T := [(2, (.ptr 1 0)), (6, (.row 4)), (9, .bool), (10, .int .i64)]
 H := [(1, .blk 25 [.rs Iv5, .rs Jc, .int .i64]), (4, .arr 3 Jc)]
 W := (rg 50 19)
 outs := [⟨.exit 2, [(6, (.row 4)), (9, .bool)], [(4, .arr 3 Jc)], ([2, 10] ++ rg 50 19)⟩]
 spec := Xfn
def Xeq [W : InW] (b : Bool) (p : Int) (qs : Ro Iv5) (ps : Ro Jc) (all : Int) (l : Dt) (A : List Ed -> Prop) (K : Nat -> List Ed -> Prop) : Prop :=
 Vif (decide (p < (↑(l.length) : Int))) (Vif b (Need (decide (0 <= p) && decide (p < (↑(l.length) : Int))) (Need (decide (p.toNat < l.length)) (Need (decide (0 <= p) && decide (p < (↑(ps.xs.length) : Int))) (Need (decide (p.toNat < ps.xs.length)) (Ar .i64 (p + 1) fun z => A [.b (decide ((cel ps.xs p.toNat (0 : Nat)).int <= (cel l p.toNat (0 : Nat)).int)), .i z, .ro _ qs, .ro _ ps, .i all, .l l]))))) (Ar .i64 (p + 1) fun z => A [.b false, .i z, .ro _ qs, .ro _ ps, .i all, .l l])) (K 0 [.b b, .l l])
theorem Xlm (W : InW) (b p qs ps all l A K) : Yfc { cxT Try.prog TT T16 1000 50 with fn := 58 } 1000 (Yn7 Try.prog 58 10) (Yd6 71 [(2, .ptr 1 0), (6, .rw 4), (9, .sb b), (10, .si .i64 p)] (rg 50 19)) [(1, .blk 25 [.rs _ qs, .rs _ ps, .si .i64 all]), (4, .arr 3 Jc l)] (Yug Xhb A K) = Xeq b p qs ps all l A K := by kernel_rfl
def Xgk : Prop := ∀ (W : InW) (body a : Code), (Try.prog.funcs[58]?).bind (·.body) = some body -> a ∈ Yy body -> Yfx a = 10 -> @Ymq W Try.prog a (@Yto W Xhb)
theorem Xm4 (meas : [InW] -> List Ed -> Nat) (hyp_ : ∀ (W : InW) b p qs ps all l K, Xfn [.b b, .i p, .ro _ qs, .ro _ ps, .i all, .l l] K -> ∀ A : List Ed -> Prop, (∀ e, meas e < meas [.b b, .i p, .ro _ qs, .ro _ ps, .i all, .l l] -> Xfn e K -> A e) -> Xeq b p qs ps all l A K) : Xgk :=
 LE.okOf' (fun W => @TT W) (fun W => @Xe W) Xa T16 1000 50 (by kernel_rfl) Xhb (fun W => @meas W) fun W b p qs ps all l K hs =>
  (Xlm W b p qs ps all l (fun e => meas e < meas [.b b, .i p, .ro _ qs, .ro _ ps, .i all, .l l] /\ Xfn e K) K).mpr (hyp_ W b p qs ps all l K hs _ fun e h1 h2 => ⟨h1, h2⟩)
theorem Xpn : Xgk := Xm4 (fun e => match e with | [_, .i p, _, _, _, .l l] => ((l.length : Int) - p).toNat | _ => 0) fun W b p qs ps all l K hs A hA => by
 obtain ⟨⟨h0, h1, h2⟩, hk⟩ := hs;have hm := ps.len;simp only [maxLen] at hm;unfold Xeq;simp only [Nat.zero_add, Nat.reduceAdd, show ∀ k, (cel l k 0).int = Sp.num l k from fun _ => rfl, show ∀ k, (cel ps.xs k 0).int = Sp.num ps.xs k from fun _ => rfl];have ez : (p + 1).toNat = p.toNat + 1 := by omega
 by_cases hi : p < l.length
 ·rw [show l.length - p.toNat = (l.length - (p.toNat + 1)) + 1 by omega] at hk;have hA' : ∀ c, c = (b && decide (Sp.num ps.xs p.toNat <= Sp.num l p.toNat)) -> A [.b c, .i (p + 1), .ro _ qs, .ro _ ps, .i all, .l l] := fun c hc => hA _ (show ((l.length : Int) - (p + 1)).toNat < ((l.length : Int) - p).toNat by omega) ⟨⟨by omega, by omega, h2⟩, by
   rw [ez, hc, Bool.and_assoc];exact hk⟩
  clear hA hk
  repeat' (first | omega | intro _ | with_reducible first | apply vifd | apply vifn | apply vifq | apply Xd | apply Xc | apply vifb | apply vif | apply nedd | apply ned2 | apply ned | apply ar64 | apply Xb | exact True.intro | assumption | rfl | apply And.intro)
  all_goals first | (exact hA' _ (by simp [*])) | skip
 ·rw [show l.length - p.toNat = 0 by omega] at hk;simp only [Sp.partsOk, Sp.allF, Bool.and_true] at hk;clear hA
  repeat' (first | omega | intro _ | with_reducible first | apply vifd | apply vifn | apply vifq | apply Xd | apply Xc | apply vifb | apply vif | apply nedd | apply ned2 | apply ned | apply ar64 | apply Xb | exact True.intro | assumption | rfl | apply And.intro)
  all_goals exact hk
noncomputable def Xqj : LE Try.prog := ⟨58, 10, fun W => @Yto W Xhb, Xpn⟩
noncomputable def T17 : Tab Try.prog := ⟨[Xh0], [Xqk, Xqj], []⟩
def Zf [W : InW] (k_Ps : Ro Jc) := List.replicate (↑(k_Ps.xs.length) : Int).toNat (Ybr [Ty.int IntKind.i64])
def Ze [W : InW] (k_Qs : Ro Iv5) (k_Ps : Ro Jc) (sh : Ro Jb) := Sp.addG k_Qs.xs sh.xs (Int.toNat Zb) (sh.xs.length - Int.toNat Zb) (Zf k_Ps)
def Xb0 [W : InW] (k_Qs : Ro Iv5) (k_Ps : Ro Jc) (k_All : Int) (sh : Ro Jb) (Q : DS -> Prop) : Prop :=
 Need (decide ((↑(k_Ps.xs.length) : Int) = (↑(k_Ps.xs.length) : Int)) && decide (Zb <= (↑(k_Ps.xs.length) : Int)) && decide ((8 : Nat) * (↑(k_Ps.xs.length) : Int).toNat <= 281474976710656)) (Pre (Zb <= 0 /\ Zb <= (↑(sh.xs.length) : Int) /\ sh.xs.length = k_Qs.xs.length /\ (Zf k_Ps).length = k_Ps.xs.length /\ Sp.KeyOk k_Qs.xs k_Ps.xs k_All /\ ∀ (p : Nat), p < (Zf k_Ps).length -> (-20 : Int) * 0 <= Sp.num (Zf k_Ps) p /\ Sp.num (Zf k_Ps) p <= 20 * 0) (Pre (Sp.Low (Ze k_Qs k_Ps sh)) (Pre (Zb <= 0 /\ Zb <= (↑(List.length (Ze k_Qs k_Ps sh)) : Int) /\ List.length (Ze k_Qs k_Ps sh) = k_Ps.xs.length) (Q [[Cl.l (Ze k_Qs k_Ps sh)], [Cl.b (decide (k_All <= Sp.total (Ze k_Qs k_Ps sh)) && Sp.partsOk (Ze k_Qs k_Ps sh) k_Ps.xs (Int.toNat Zb) (List.length (Ze k_Qs k_Ps sh) - Int.toNat Zb))]]))))
theorem Xhr (W : InW) (k_Qs k_Ps k_All sh Q) : Ywr (cxT Try.prog TT T17 1000 50) 1000 58 [.agg [.rs _ k_Qs, .rs _ k_Ps, .si .i64 k_All], .rs _ sh] [] 0 (Y01 [(false, [.row 3 Jc]), (false, [.bool])] Q) (fun _ _ _ _ => Stuck 421) = Xb0 k_Qs k_Ps k_All sh Q := by kernel_rfl
abbrev X7 : List AT := [.agg [.sl Iv5, .sl Jc, .int .i64], .one (.sl Jb)]
theorem Xib {pre : DS -> Prop} {res : DS -> DS} (hyp_ : ∀ (W : InW) (k_Qs : Ro Iv5) (k_Ps : Ro Jc) (k_All : Int) (sh : Ro Jb), pre [[.l k_Qs.xs, .l k_Ps.xs, .i k_All], [.l sh.xs]] -> ∀ Q : DS -> Prop, Q (res [[.l k_Qs.xs, .l k_Ps.xs, .i k_All], [.l sh.xs]]) -> Xb0 k_Qs k_Ps k_All sh Q) : PureOk Try.prog 58 X7 [(false, [.row 3 Jc]), (false, [.bool])] pre res :=
 PureOk.of' (fun W => @TT W) (fun W => @Xe W) Xa T17 1000 50 fun W k_Qs k_Ps k_All sh hp =>
  (Xhr W k_Qs k_Ps k_All sh (fun o => o = res [[.l k_Qs.xs, .l k_Ps.xs, .i k_All], [.l sh.xs]])).mpr (hyp_ W k_Qs k_Ps k_All sh hp _ rfl)
abbrev X1 (ds : DS) : DS := match ds with | [[.l qs, .l ps, .i all], [.l sh]] => [[.l (Sp.mk qs ps sh)], [.b (Sp.passOf all ps (Sp.mk qs ps sh))]] | _ => []
abbrev Xb5 (ds : DS) : Prop := match ds with | [[.l qs, .l ps, .i all], [.l sh]] => Sp.KeyOk qs ps all /\ sh.length = qs.length | _ => False
theorem Xik (qs ps sh : Dt) : (Sp.mk qs ps sh).length = ps.length := by unfold Sp.mk; rw [Sp.addG_len, List.length_replicate]
theorem mk_in {qs ps sh : Dt} {all : Int} (hk : Sp.KeyOk qs ps all) (hs : sh.length = qs.length) (p : Nat) (hp : p < ps.length) : -240 <= Sp.num (Sp.mk qs ps sh) p /\ Sp.num (Sp.mk qs ps sh) p <= 240 := by
 have h1 := hk.n2;have := Sp.addG_in (qs := qs) (sh := sh) hk.pts hk.minus sh.length 0 (List.replicate ps.length [.i 0]) (by omega) (fun k hk2 => by
  have := hk.part (0 + k) (by omega);rw [List.length_replicate];exact this) (fun p _ => by rw [Sp.num_rep]; omega) p (by simpa using hp)
 unfold Sp.mk;omega
theorem Xpx {qs ps sh : Dt} {all : Int} (hk : Sp.KeyOk qs ps all) (hs : sh.length = qs.length) : Sp.Low (Sp.mk qs ps sh) := by
 have h1 := hk.p2;refine ⟨by rw [Xik]; omega, fun i hi => ?_⟩;rw [Xik] at hi;have := mk_in hk hs i hi;omega
theorem Xj0 : PureOk Try.prog 58 X7 [(false, [.row 3 Jc]), (false, [.bool])] Xb5 X1 :=
 Xib fun W qs ps all sh hp Q h => by
  obtain ⟨hkey, hs⟩ : Sp.KeyOk qs.xs ps.xs all /\ sh.xs.length = qs.xs.length := hp;have k1 := hkey.p2;unfold Xb0;delta Ze Zb Zf;simp only [show Int.toNat 0 = 0 from rfl, Nat.sub_zero, Int.toNat_natCast, show Ybr [.int .i64] = [Cl.i 0] from rfl];simp only [X1] at h;refine ned (by simp; omega) ⟨⟨by omega, by omega, hs, by simp, hkey, fun p _ => by rw [Sp.num_rep]; omega⟩, ⟨Xpx hkey hs, ?_⟩⟩;have hl := Xik qs.xs ps.xs sh.xs;unfold Sp.mk at hl h;exact ⟨⟨by omega, by omega, hl⟩, h⟩
noncomputable def Xh4 : PC Try.prog := ⟨58, X7, [(false, [.row 3 Jc]), (false, [.bool])], Xb5, X1, Xj0⟩
open Go.RowKit
attribute [local irreducible] Go.Oper.wp
end Go.Proofs.Ytifhdbgciehicaa
namespace Go.Proofs.Ytifhdbgciehicaa
open Go.RowKit
set_option maxRecDepth 100000
set_option maxHeartbeats 4000000
namespace Sp
def withR (sh : Dt) (q j : Nat) (v : Int) : Nat -> Nat -> Dt
 | _, 0 => []
 | i, n + 1 => [.l (if i = q then (row sh i).set j [.i v] else row sh i)] :: withR sh q j v (i + 1) n
def withD (sh : Dt) (q j : Nat) (v : Int) : Dt := withR sh q j v 0 sh.length
end Sp
open Go.RowKit
namespace Sp
def prow (d : Dt) (i : Nat) : Nat -> Nat -> List (Nat × Nat)
 | _, 0 => []
 | j, n + 1 => (if bx d j = 2 then [(i, j)] else []) ++ prow d i (j + 1) n
def pall (sh : Dt) : Nat -> Nat -> List (Nat × Nat)
 | _, 0 => []
 | i, n + 1 => prow (row sh i) i 0 (row sh i).length ++ pall sh (i + 1) n
def pos (sh : Dt) : List (Nat × Nat) := pall sh 0 sh.length
def prC (p : Nat × Nat) : List Cl := [.i p.1, .i p.2]
theorem unsRow_pos (d : Dt) (i : Nat) : ∀ n j, unsRow d i j n = (prow d i j n).map prC
 | 0, _ => rfl
 | n + 1, j => by
  simp only [unsRow, prow, List.map_append, unsRow_pos d i n]
  split <;> rfl
theorem unsAll_pos (sh : Dt) : ∀ n i, unsAll sh i n = (pall sh i n).map prC
 | 0, _ => rfl
 | n + 1, i => by simp only [unsAll, pall, List.map_append, unsAll_pos sh n, unsRow_pos]
theorem uns_pos (sh : Dt) : uns sh = (pos sh).map prC := unsAll_pos sh _ _
theorem uns_len (sh : Dt) : (uns sh).length = (pos sh).length := by rw [uns_pos, List.length_map]
theorem mem_prow {d : Dt} {i : Nat} {p : Nat × Nat} : ∀ {n j : Nat}, p ∈ prow d i j n ↔ p.1 = i /\ j <= p.2 /\ p.2 < j + n /\ bx d p.2 = 2
 | 0, j => by simp [prow]; omega
 | n + 1, j => by
  simp only [prow, List.mem_append, mem_prow (n := n)]
  by_cases e : bx d j = 2
  ·simp only [e, if_true, List.mem_singleton];constructor
   ·rintro (h | ⟨h1, h2, h3, h4⟩)
    ·subst h; exact ⟨rfl, Nat.le_refl _, by show j < _; omega, e⟩
    ·exact ⟨h1, by omega, by omega, h4⟩
   ·rintro ⟨h1, h2, h3, h4⟩;rcases Nat.eq_or_lt_of_le h2 with c | c
    ·exact .inl (Prod.ext h1 c.symm)
    ·exact .inr ⟨h1, by omega, by omega, h4⟩
  ·simp only [e, if_false, List.not_mem_nil, false_or];constructor
   ·rintro ⟨h1, h2, h3, h4⟩;exact ⟨h1, by omega, by omega, h4⟩
   ·rintro ⟨h1, h2, h3, h4⟩;rcases Nat.eq_or_lt_of_le h2 with c | c
    ·exact absurd (c ▸ h4) e
    ·exact ⟨h1, by omega, by omega, h4⟩
theorem mem_pall {sh : Dt} {p : Nat × Nat} : ∀ {n i : Nat}, p ∈ pall sh i n ↔ i <= p.1 /\ p.1 < i + n /\ p.2 < (row sh p.1).length /\ bx (row sh p.1) p.2 = 2
 | 0, i => by simp [pall]; omega
 | n + 1, i => by
  simp only [pall, List.mem_append, mem_pall (n := n), mem_prow];constructor
  ·rintro (⟨h1, h2, h3, h4⟩ | ⟨h1, h2, h3, h4⟩)
   ·subst h1; exact ⟨Nat.le_refl _, by omega, by omega, h4⟩
   ·exact ⟨by omega, by omega, h3, h4⟩
  ·rintro ⟨h1, h2, h3, h4⟩;rcases Nat.eq_or_lt_of_le h1 with c | c
   ·left; rw [c]; exact ⟨rfl, by omega, by omega, h4⟩
   ·right; exact ⟨by omega, by omega, h3, h4⟩
theorem mem_pos {sh : Dt} {p : Nat × Nat} : p ∈ pos sh ↔ p.1 < sh.length /\ p.2 < (row sh p.1).length /\ bx (row sh p.1) p.2 = 2 := by
 unfold pos; rw [mem_pall]; constructor
 ·rintro ⟨_, h2, h3⟩; exact ⟨by omega, h3⟩
 ·rintro ⟨h2, h3⟩; exact ⟨Nat.zero_le _, by omega, h3⟩
theorem prow_nd (d : Dt) (i : Nat) : ∀ n j, (prow d i j n).Nodup
 | 0, _ => List.nodup_nil
 | n + 1, j => by
  simp only [prow]
  split
  ·refine List.nodup_cons.2 ⟨fun h => ?_, prow_nd d i n (j + 1)⟩;have := (mem_prow.1 h).2.1;simp at this; omega
  ·exact prow_nd d i n (j + 1)
theorem pall_nd (sh : Dt) : ∀ n i, (pall sh i n).Nodup
 | 0, _ => List.nodup_nil
 | n + 1, i => by
  simp only [pall];refine List.nodup_append.2 ⟨prow_nd _ _ _ _, pall_nd sh n (i + 1), fun a ha b hb e => ?_⟩;subst e;have h1 := (mem_prow.1 ha).1;have h2 := (mem_pall.1 hb).1;omega
theorem pos_nd (sh : Dt) : (pos sh).Nodup := pall_nd _ _ _
theorem withR_len (sh : Dt) (q j : Nat) (v : Int) : ∀ n i, (withR sh q j v i n).length = n
 | 0, _ => rfl
 | n + 1, i => by simp [withR, withR_len sh q j v n]
theorem withD_len (sh : Dt) (q j : Nat) (v : Int) : (withD sh q j v).length = sh.length := withR_len _ _ _ _ _ _
theorem row_cons0 (a : Dt) (l : Dt) : row ([.l a] :: l) 0 = a := rfl
theorem row_consS (a : List Cl) (l : Dt) (k : Nat) : row (a :: l) (k + 1) = row l k := rfl
theorem withR_row (sh : Dt) (q j : Nat) (v : Int) : ∀ n i k, k < n -> row (withR sh q j v i n) k = if i + k = q then (row sh (i + k)).set j [.i v] else row sh (i + k)
 | 0, _, _, h => by omega
 | n + 1, i, 0, _ => by simp only [withR, row_cons0, Nat.add_zero]
 | n + 1, i, k + 1, h => by
  simp only [withR, row_consS];rw [withR_row sh q j v n (i + 1) k (by omega), show i + 1 + k = i + (k + 1) by omega]
theorem row_out {sh : Dt} {k : Nat} (h : sh.length <= k) : row sh k = [] := by
 unfold row cel;rw [List.getD_eq_getElem?_getD (l := sh), List.getElem?_eq_none h]; rfl
theorem withD_row (sh : Dt) (q j : Nat) (v : Int) (k : Nat) (hk : k < sh.length) : row (withD sh q j v) k = if k = q then (row sh k).set j [.i v] else row sh k := by
 unfold withD; rw [withR_row _ _ _ _ _ _ _ hk]; simp
theorem withD_rlen (sh : Dt) (q j : Nat) (v : Int) (k : Nat) : (row (withD sh q j v) k).length = (row sh k).length := by
 rcases Nat.lt_or_ge k sh.length with h | h
 ·rw [withD_row _ _ _ _ _ h]; split <;> simp
 ·rw [row_out h, row_out (by rw [withD_len]; exact h)]
theorem bx_set (d : Dt) (j k : Nat) (v : Int) (h : k < d.length) : bx (d.set j [.i v]) k = if k = j then v else bx d k := by
 unfold bx cel;rw [List.getD_eq_getElem?_getD (l := d.set j [.i v]), List.getElem?_set]
 by_cases e : j = k
 ·subst e; simp [h, Cl.int]
 ·simp [e, Ne.symm e]
theorem withD_bx (sh : Dt) (q j : Nat) (v : Int) (k b : Nat) (hk : k < sh.length) (hb : b < (row sh k).length) : bx (row (withD sh q j v) k) b = if (k, b) = (q, j) then v else bx (row sh k) b := by
 rw [withD_row _ _ _ _ _ hk]
 by_cases e : k = q
 ·subst e; rw [if_pos rfl, bx_set _ _ _ _ hb]; simp
 ·rw [if_neg e, if_neg (by simp [e])]
theorem prow_f {d d' : Dt} {i : Nat} {p : Nat × Nat} (h : ∀ j, j < d.length -> (bx d' j = 2 ↔ bx d j = 2 /\ (i, j) ≠ p)) : ∀ n j, j + n <= d.length -> prow d' i j n = (prow d i j n).filter (fun x => decide (x ≠ p))
 | 0, _, _ => rfl
 | n + 1, j, hj => by
  simp only [prow, List.filter_append, prow_f h n (j + 1) (by omega)];have := h j (by omega)
  by_cases e : bx d j = 2
  ·by_cases e2 : (i, j) = p
   ·rw [if_neg (fun c => (this.1 c).2 e2)]; simp [e, e2]
   ·rw [if_pos (this.2 ⟨e, e2⟩)]; simp [e, e2]
  ·rw [if_neg (fun c => e (this.1 c).1)]; simp [e]
theorem pos_with {sh : Dt} {q j : Nat} {v : Int} (hv : v ≠ 2) : pos (withD sh q j v) = (pos sh).filter (fun x => decide (x ≠ (q, j))) := by
 unfold pos;rw [withD_len]
 suffices h : ∀ n i, i + n <= sh.length -> pall (withD sh q j v) i n = (pall sh i n).filter (fun x => decide (x ≠ (q, j))) from h _ _ (by omega)
 intro n
 induction n with
 | zero => intro i _; rfl
 | succ n ih =>
  intro i hi;simp only [pall, List.filter_append, ih (i + 1) (by omega), withD_rlen];rw [prow_f (d := row sh i) (p := (q, j)) (fun b hb => ?_) _ _ (by omega)];rw [withD_bx _ _ _ _ _ _ (by omega) hb]
  by_cases e : (i, b) = (q, j)
  ·rw [if_pos e]; simp [e, hv]
  ·rw [if_neg e]; simp [e]
theorem filter_ne_tl {p : Nat × Nat} : ∀ {l : List (Nat × Nat)}, p ∉ l -> l.filter (fun x => decide (x ≠ p)) = l
 | [], _ => rfl
 | a :: l, h => by
  have h1 : a ≠ p := fun e => h (e ▸ List.mem_cons_self);have h2 : p ∉ l := fun e => h (List.mem_cons_of_mem _ e);simp [h1];intro a b c d;exact h2 (d ▸ c)
theorem filter_ne_len {p : Nat × Nat} : ∀ {l : List (Nat × Nat)}, l.Nodup -> p ∈ l -> (l.filter (fun x => decide (x ≠ p))).length + 1 = l.length
 | [], _, h => by simp at h
 | a :: l, hn, h => by
  have hn := List.nodup_cons.1 hn
  by_cases e : a = p
  ·subst e;rw [List.filter_cons_of_neg (by simp), filter_ne_tl hn.1, List.length_cons]
  ·rw [List.filter_cons_of_pos (by simpa using e), List.length_cons, filter_ne_len hn.2 ((List.mem_cons.1 h).resolve_left fun c => e c.symm), List.length_cons]
theorem pos_with_len {sh : Dt} {q j : Nat} {v : Int} (hv : v ≠ 2) (h : (q, j) ∈ pos sh) : (pos (withD sh q j v)).length + 1 = (pos sh).length := by
 rw [pos_with hv, filter_ne_len (pos_nd sh) h]
theorem pos_with_tl {sh : Dt} {p : Nat × Nat} {ps : List (Nat × Nat)} {v : Int} (hv : v ≠ 2) (h : pos sh = p :: ps) : pos (withD sh p.1 p.2 v) = ps := by
 have hn := pos_nd sh;rw [h] at hn;rw [pos_with hv, h, List.filter_cons_of_neg (by simp), filter_ne_tl (List.nodup_cons.1 hn).1]
theorem Few.withD {sh : Dt} (h : Few sh) (q j : Nat) (v : Int) : Few (withD sh q j v) := by
 refine ⟨by rw [withD_len]; exact h.1, fun i hi => ?_⟩;rw [withD_rlen];rw [withD_len] at hi;exact h.2 i hi
theorem ShapeOk.withD {qs sh : Dt} (h : ShapeOk qs sh) {q j : Nat} {v : Int} (hv : 0 <= v /\ v <= 2) : ShapeOk qs (withD sh q j v) := by
 have hl := h.n;refine ⟨by rw [withD_len]; exact hl, fun i hi => by rw [withD_rlen]; exact h.row_ i hi, fun i b hi hb => ?_⟩;rw [withD_rlen] at hb;rw [withD_bx _ _ _ _ _ _ (by omega) hb]
 split
 ·exact hv
 ·exact h.val i b hi hb
def rdL : Nat -> Dt -> List Dt
 | 0, sh => [sh]
 | n + 1, sh => match pos sh with
  | [] => [sh]
  | p :: _ => rdL n (withD sh p.1 p.2 0) ++ rdL n (withD sh p.1 p.2 1)
def rds (sh : Dt) : List Dt := rdL (pos sh).length sh
def shC (sh : Dt) : List Cl := [.l sh]
def rdD (sh : Dt) : Dt := (rds sh).map shC
theorem rds_nil {sh : Dt} (h : pos sh = []) : rds sh = [sh] := by unfold rds; rw [h]; rfl
theorem rds_cons {sh : Dt} {p : Nat × Nat} {ps : List (Nat × Nat)} (h : pos sh = p :: ps) : rds sh = rds (withD sh p.1 p.2 0) ++ rds (withD sh p.1 p.2 1) := by
 unfold rds;rw [pos_with_tl (by decide) h, pos_with_tl (by decide) h, h];simp only [List.length_cons, rdL, h]
theorem rdL_len : ∀ n sh, (pos sh).length = n -> (rdL n sh).length = 2 ^ n
 | 0, _, _ => rfl
 | n + 1, sh, h => by
  obtain ⟨p, ps, e⟩ : ∃ p ps, pos sh = p :: ps := by
   cases hp : pos sh with
   | nil => rw [hp] at h; simp at h
   | cons p ps => exact ⟨p, ps, rfl⟩
  rw [e] at h;simp only [rdL, e];rw [List.length_append, rdL_len n _ (by rw [pos_with_tl (by decide) e]; simpa using h), rdL_len n _ (by rw [pos_with_tl (by decide) e]; simpa using h), Nat.pow_succ];omega
theorem rds_len (sh : Dt) : (rds sh).length = 2 ^ (pos sh).length := rdL_len _ sh rfl
end Sp
open Go.RowKit
set_option maxRecDepth 100000
set_option maxHeartbeats 1600000
open Go.RowKit
set_option maxRecDepth 100000
set_option maxHeartbeats 1600000
namespace Sp
def psS (qs ps : Dt) (all : Int) (sh : Dt) : Bool := passOf all ps (mk qs ps sh)
def psI (qs ps : Dt) (all : Int) (rs : Dt) (i : Nat) : Bool := psS qs ps all (row rs i)
def anyP (qs ps : Dt) (all : Int) (rs : Dt) : Bool := anyF (psI qs ps all rs) 0 rs.length
def allP (qs ps : Dt) (all : Int) (rs : Dt) : Bool := allF (psI qs ps all rs) 0 rs.length
theorem rdD_len (sh : Dt) : (rdD sh).length = 2 ^ (pos sh).length := by unfold rdD; rw [List.length_map, rds_len]
theorem rdD_row {sh : Dt} {k : Nat} (h : k < (rdD sh).length) : ∃ h2 : k < (rds sh).length, row (rdD sh) k = (rds sh)[k] := by
 have h2 : k < (rds sh).length := by unfold rdD at h; simpa using h
 refine ⟨h2, ?_⟩;unfold row cel rdD;rw [List.getD_eq_getElem?_getD (l := (rds sh).map shC), List.getElem?_map, List.getElem?_eq_getElem h2];rfl
def ocV (qs ps : Dt) (all : Int) (sh : Dt) : Int := if allP qs ps all (rdD sh) = true then 1 else if anyP qs ps all (rdD sh) = true then 2 else 0
end Sp
namespace Sp
def ocA (qs ps : Dt) (all : Int) (sh : Dt) : Int := if askE qs ps all sh = 0 then ocV qs ps all sh else 0
theorem askE_ok {qs ps sh : Dt} {all : Int} (h : askE qs ps all sh = 0) : KeyOk qs ps all /\ ShOk qs sh := by
 unfold askE at h
 split at h
 ·rename_i e; exact ⟨chkE_iff.1 e, shE_iff.1 h⟩
 ·rename_i e; exact absurd h e
end Sp
abbrev Xdo (ds : DS) : DS := match ds with | [[.l qs, .l ps, .i all], [.l sh]] => [[.i (Sp.ocA qs ps all sh)], [.i (Sp.askE qs ps all sh)]] | _ => []
open Go.RowKit
set_option maxRecDepth 100000
set_option maxHeartbeats 1600000
namespace Sp
def geI (l : Dt) (x : Int) (k : Nat) : Bool := !decide (num l k < x)
def whr (l : Dt) (x : Int) : Nat := fstF (geI l x) 0 l.length
def ins (l : Dt) (x : Int) : Dt := if whr l x = l.length \/ num l (whr l x) ≠ x then l.take (whr l x) ++ [[.i x]] ++ l.drop (whr l x) else l
def insA (f : Nat -> Int) : Nat -> Nat -> Dt -> Dt
 | _, 0, l => l
 | i, n + 1, l => insA f (i + 1) n (ins l (f i))
def ttl (qs ps rs : Dt) (i : Nat) : Int := total (mk qs ps (row rs i))
def scV (qs ps sh : Dt) : Dt := insA (ttl qs ps (rdD sh)) 0 (rdD sh).length []
theorem fstF_le {f : Nat -> Bool} : ∀ n i, fstF f i n <= i + n
 | 0, i => Nat.le_refl _
 | n + 1, i => by
  unfold fstF
  split
  ·omega
  ·have := fstF_le (f := f) n (i + 1); omega
theorem whr_le (l : Dt) (x : Int) : whr l x <= l.length := by have := fstF_le (f := geI l x) l.length 0; unfold whr; omega
end Sp
namespace Sp
def scA (qs ps : Dt) (all : Int) (sh : Dt) : Dt := if askE qs ps all sh = 0 then scV qs ps sh else []
end Sp
abbrev Xdm (ds : DS) : DS := match ds with | [[.l qs, .l ps, .i all], [.l sh]] => [[.l (Sp.scA qs ps all sh)], [.i (Sp.askE qs ps all sh)]] | _ => []
open Go.RowKit
set_option maxRecDepth 100000
set_option maxHeartbeats 1600000
namespace Sp
def dcI (qs ps : Dt) (all : Int) (rs : Dt) (a b : Nat) (k : Nat) : Bool := !(psS qs ps all (row rs k) == psS qs ps all (withD (row rs k) a b 1))
def dcV (qs ps : Dt) (all : Int) (sh : Dt) (a b : Nat) : Bool := anyF (dcI qs ps all (rdD (withD sh a b 0)) a b) 0 (rdD (withD sh a b 0)).length
def dcL (qs ps : Dt) (all : Int) (sh u : Dt) : Nat -> Nat -> Dt
 | _, 0 => []
 | i, n + 1 => (if dcV qs ps all sh (cel u i 0).int.toNat (cel u i 1).int.toNat = true then [[.i (cel u i 0).int, .i (cel u i 1).int]] else []) ++ dcL qs ps all sh u (i + 1) n
structure BxOk (sh u : Dt) : Prop where
 few : u.length <= 7
 in_ : ∀ i, i < u.length -> 0 <= (cel u i 0).int /\ (cel u i 0).int < sh.length /\ 0 <= (cel u i 1).int /\ (cel u i 1).int < (row sh (cel u i 0).int.toNat).length
theorem uns_cel {sh : Dt} {i : Nat} (h : i < (uns sh).length) : ∃ p ∈ pos sh, (cel (uns sh) i 0).int = p.1 /\ (cel (uns sh) i 1).int = p.2 := by
 have h2 : i < (pos sh).length := by rw [<- uns_len]; exact h
 refine ⟨(pos sh)[i], List.getElem_mem h2, ?_, ?_⟩
 ·rw [uns_pos]; unfold cel; rw [List.getD_eq_getElem?_getD (l := (pos sh).map prC), List.getElem?_map, List.getElem?_eq_getElem h2]; rfl
 ·rw [uns_pos]; unfold cel; rw [List.getD_eq_getElem?_getD (l := (pos sh).map prC), List.getElem?_map, List.getElem?_eq_getElem h2]; rfl
theorem ShOk.bx {qs sh : Dt} (h : ShOk qs sh) : BxOk sh (uns sh) := by
 refine ⟨h.seven, fun i hi => ?_⟩;obtain ⟨p, hp, e1, e2⟩ := uns_cel hi;have := mem_pos.1 hp;rw [e1, e2, Int.toNat_natCast];omega
end Sp
namespace Sp
def dcA (qs ps : Dt) (all : Int) (sh : Dt) : Dt := if askE qs ps all sh = 0 then dcL qs ps all sh (uns sh) 0 (uns sh).length else []
end Sp
abbrev Xdq (ds : DS) : DS := match ds with | [[.l qs, .l ps, .i all], [.l sh]] => [[.l (Sp.dcA qs ps all sh)], [.i (Sp.askE qs ps all sh)]] | _ => []
open Go.RowKit
set_option maxRecDepth 100000
set_option maxHeartbeats 1600000
namespace Sp
structure LkR where
 n : Int
 a : Int
 b : Int
def cA (u : Dt) (i : Nat) : Int := (cel u i 0).int
def cB (u : Dt) (i : Nat) : Int := (cel u i 1).int
def lkF (c : Nat -> Int) (u : Dt) : Nat -> Nat -> LkR -> LkR
 | _, 0, r => r
 | i, n + 1, r => lkF c u (i + 1) n (if r.n < 0 \/ c i < r.n then ⟨c i, cA u i, cB u i⟩ else r)
def lkN (qs ps : Dt) (all : Int) : Nat -> Dt -> LkR
 | 0, sh => ⟨0, 0, 0⟩
 | n + 1, sh => if ocV qs ps all sh = 2 then lkF (fun i => 1 + max (lkN qs ps all n (withD sh (cA (uns sh) i).toNat (cB (uns sh) i).toNat 0)).n (lkN qs ps all n (withD sh (cA (uns sh) i).toNat (cB (uns sh) i).toNat 1)).n) (uns sh) 0 (uns sh).length ⟨-1, 0, 0⟩ else ⟨0, 0, 0⟩
theorem lkF_in {c : Nat -> Int} {u : Dt} {m : Int} : ∀ n i r, (-1 <= r.n /\ r.n <= m) -> (∀ k, i <= k -> k < i + n -> -1 <= c k /\ c k <= m) -> -1 <= (lkF c u i n r).n /\ (lkF c u i n r).n <= m
 | 0, _, _, h, _ => h
 | n + 1, i, r, h, hc => by
  simp only [lkF];refine lkF_in n (i + 1) _ ?_ fun k a b => hc k (by omega) (by omega)
  split
  ·exact hc i (by omega) (by omega)
  ·exact h
theorem lkN_in (qs ps : Dt) (all : Int) : ∀ n sh, -1 <= (lkN qs ps all n sh).n /\ (lkN qs ps all n sh).n <= n
 | 0, sh => by simp [lkN]
 | n + 1, sh => by
  unfold lkN
  split
  ·refine lkF_in _ _ _ (by simp; omega) fun k _ _ => ?_;have h0 := lkN_in qs ps all n (withD sh (cA (uns sh) k).toNat (cB (uns sh) k).toNat 0);have h1 := lkN_in qs ps all n (withD sh (cA (uns sh) k).toNat (cB (uns sh) k).toNat 1);omega
  ·simp; omega
theorem ShOk.withD {qs sh : Dt} (h : ShOk qs sh) {q j : Nat} {v : Int} (hv : v = 0 \/ v = 1) : ShOk qs (withD sh q j v) := by
 refine ⟨h.toShapeOk.withD (by omega), ?_⟩;have := h.seven;rw [uns_len] at this ⊢;rw [pos_with (by omega)];exact Nat.le_trans (List.length_filter_le _ _) this
end Sp
namespace Sp
def lookE (qs ps : Dt) (all : Int) (sh : Dt) : Int := if askE qs ps all sh = 0 then (if ocV qs ps all sh = 2 then 0 else 4) else askE qs ps all sh
def lookR (qs ps : Dt) (all : Int) (sh : Dt) : LkR := if lookE qs ps all sh = 0 then lkN qs ps all 8 sh else ⟨0, 0, 0⟩
end Sp
abbrev Xcc (ds : DS) : DS := match ds with | [[.l qs, .l ps, .i all], [.l sh]] => [[.i (Sp.lookR qs ps all sh).a, .i (Sp.lookR qs ps all sh).b], [.i (Sp.lookR qs ps all sh).n], [.i (Sp.lookE qs ps all sh)]] | _ => []
open Go.RowKit
set_option maxRecDepth 100000
set_option maxHeartbeats 1600000
noncomputable def T30 : Tab Try.prog := ⟨[Xjt, Xky, Xh4], [], []⟩
def Zg [W : InW] (k_Qs : Ro Iv5) (k_Ps : Ro Jc) (k_All : Int) (sh : Ro Jb) (Q : DS -> Prop) := Vif (!decide (Sp.askE k_Qs.xs k_Ps.xs k_All sh.xs = 0)) (Q [[Cl.l []], [Cl.b false], [Cl.i (Sp.askE k_Qs.xs k_Ps.xs k_All sh.xs)]]) (Pre (Sp.KeyOk k_Qs.xs k_Ps.xs k_All /\ sh.xs.length = k_Qs.xs.length) (Q [[Cl.l (Sp.mk k_Qs.xs k_Ps.xs sh.xs)], [Cl.b (Sp.passOf k_All k_Ps.xs (Sp.mk k_Qs.xs k_Ps.xs sh.xs))], [Cl.i 0]]))
def Xix [W : InW] (k_Qs : Ro Iv5) (k_Ps : Ro Jc) (k_All : Int) (sh : Ro Jb) (Q : DS -> Prop) : Prop :=
 Pre True (Vif (decide (Sp.askE k_Qs.xs k_Ps.xs k_All sh.xs = 0)) (Pre (Sp.Few sh.xs) (Vif (decide ((0 : Int) < (↑(List.length (Sp.uns sh.xs)) : Int))) (Q [[Cl.l []], [Cl.b false], [Cl.i 2]]) (Zg k_Qs k_Ps k_All sh Q))) (Zg k_Qs k_Ps k_All sh Q))
theorem Xof (W : InW) (k_Qs k_Ps k_All sh Q) : Ywr (cxT Try.prog TT T30 1000 50) 1000 20 [.agg [.rs _ k_Qs, .rs _ k_Ps, .si .i64 k_All], .rs _ sh] [] 0 (Y01 [(false, [.row 3 Jc]), (false, [.bool]), (false, [.int .i64])] Q) (fun _ _ _ _ => Stuck 421) = Xix k_Qs k_Ps k_All sh Q := by kernel_rfl
abbrev Xdv : List AT := [.agg [.sl Iv5, .sl Jc, .int .i64], .one (.sl Jb)]
theorem Xo2 {pre : DS -> Prop} {res : DS -> DS} (hyp_ : ∀ (W : InW) (k_Qs : Ro Iv5) (k_Ps : Ro Jc) (k_All : Int) (sh : Ro Jb), pre [[.l k_Qs.xs, .l k_Ps.xs, .i k_All], [.l sh.xs]] -> ∀ Q : DS -> Prop, Q (res [[.l k_Qs.xs, .l k_Ps.xs, .i k_All], [.l sh.xs]]) -> Xix k_Qs k_Ps k_All sh Q) : PureOk Try.prog 20 Xdv [(false, [.row 3 Jc]), (false, [.bool]), (false, [.int .i64])] pre res :=
 PureOk.of' (fun W => @TT W) (fun W => @Xe W) Xa T30 1000 50 fun W k_Qs k_Ps k_All sh hp =>
  (Xof W k_Qs k_Ps k_All sh (fun o => o = res [[.l k_Qs.xs, .l k_Ps.xs, .i k_All], [.l sh.xs]])).mpr (hyp_ W k_Qs k_Ps k_All sh hp _ rfl)
namespace Sp
def markE (qs ps : Dt) (all : Int) (sh : Dt) : Int := if askE qs ps all sh = 0 then (if (uns sh).length = 0 then 0 else 2) else askE qs ps all sh
def markR (qs ps : Dt) (all : Int) (sh : Dt) : Dt := if markE qs ps all sh = 0 then mk qs ps sh else []
def markB (qs ps : Dt) (all : Int) (sh : Dt) : Bool := if markE qs ps all sh = 0 then psS qs ps all sh else false
end Sp
abbrev X0 (ds : DS) : DS := match ds with | [[.l qs, .l ps, .i all], [.l sh]] => [[.l (Sp.markR qs ps all sh)], [.b (Sp.markB qs ps all sh)], [.i (Sp.markE qs ps all sh)]] | _ => []
theorem okmrk : PureOk Try.prog 20 Xdv [(false, [.row 3 Jc]), (false, [.bool]), (false, [.int .i64])] (fun _ => True) X0 :=
 Xo2 fun W qs ps all sh hp Q h => by
  unfold Xix;delta Zg;simp only [X0, Sp.markR, Sp.markB] at h
  by_cases e : Sp.askE qs.xs ps.xs all sh.xs = 0
  ·obtain ⟨hk, hs⟩ := Sp.askE_ok e
   by_cases e2 : (Sp.uns sh.xs).length = 0
   ·have e3 : Sp.markE qs.xs ps.xs all sh.xs = 0 := by unfold Sp.markE; rw [if_pos e, if_pos e2]
    rw [if_pos e3, if_pos e3, e3] at h;refine ⟨trivial, vifd (fun _ => ⟨hs.toShapeOk.few hk, vifd (fun c => by omega) fun _ => vifn (fun c => absurd e c) fun _ => ⟨⟨hk, hs.n⟩, h⟩⟩) fun c => absurd e c⟩
   ·have e3 : Sp.markE qs.xs ps.xs all sh.xs = 2 := by unfold Sp.markE; rw [if_pos e, if_neg e2]
    rw [if_neg (by omega), if_neg (by omega), e3] at h;refine ⟨trivial, vifd (fun _ => ⟨hs.toShapeOk.few hk, vifd (fun c => h) fun c => by omega⟩) fun c => absurd e c⟩
  ·have e3 : Sp.markE qs.xs ps.xs all sh.xs = Sp.askE qs.xs ps.xs all sh.xs := by unfold Sp.markE; rw [if_neg e]
   rw [if_neg (by omega), if_neg (by omega), e3] at h;exact ⟨trivial, vifd (fun c => absurd c e) fun _ => vifn (fun _ => h) fun c => absurd c e⟩
noncomputable def Xoi : PC Try.prog := ⟨20, Xdv, [(false, [.row 3 Jc]), (false, [.bool]), (false, [.int .i64])], fun _ => True, X0, okmrk⟩
namespace Sp
def strA (qs : Dt) (all : Int) (i : Nat) : Int := all - qPts qs i
def strP (qs ps : Dt) (i : Nat) : Dt := ps.set (qPart qs i).toNat [.i (num ps (qPart qs i).toNat - qPts qs i)]
def strQ (qs : Dt) (i : Nat) : Dt := qs.take i ++ qs.drop (i + 1)
def strE (qs ps : Dt) (all i : Int) : Int := if chkE qs ps all = 0 then (if inr i 0 (qs.length - 1) = true then (if qs.length = 1 then 3 else if inr (strA qs all i.toNat) (-240) 240 = true then (if inr (num (strP qs ps i.toNat) (qPart qs i.toNat).toNat) (-240) 240 = true then 0 else 7) else 7) else 4) else chkE qs ps all
def strK (qs ps : Dt) (all i : Int) : List Cl := if strE qs ps all i = 0 then [.l (strQ qs i.toNat), .l (strP qs ps i.toNat), .i (strA qs all i.toNat)] else [.l [], .l [], .i 0]
end Sp
abbrev Xfv : RTs := [(true, [.row 71 Iv5, .row 3 Jc, .int .i64]), (false, [.int .i64])]
abbrev Xdl (ds : DS) : DS := match ds with | [[.l qs, .l ps, .i all], [.i i]] => [Sp.strK qs ps all i, [.i (Sp.strE qs ps all i)]] | _ => []
open Go.RowKit
set_option maxRecDepth 100000
set_option maxHeartbeats 1600000
namespace Sp
def mis1 (right : Int) (rs : Dt) (k : Nat) : Bool := !decide (ansOf (row (row rs k) 0) = right)
def one (b : Dt) : Dt := [[.l b]]
def mAny (right : Int) (b : Dt) : Bool := anyF (mis1 right (rdD (one b))) 0 (rdD (one b)).length
def mAll (right : Int) (b : Dt) : Bool := allF (mis1 right (rdD (one b))) 0 (rdD (one b)).length
end Sp
namespace Sp
def errL (f : Nat -> Int) : Nat -> Nat -> Int -> Int
 | _, 0, e => e
 | i, n + 1, e => if e = 0 then errL f (i + 1) n (f i) else e
theorem errL_ne {f : Nat -> Int} {e : Int} (h : e ≠ 0) : ∀ n i, errL f i n e = e
 | 0, _ => rfl
 | n + 1, i => by unfold errL; rw [if_neg h]
theorem errL_0 {f : Nat -> Int} : ∀ n i e, errL f i n e = 0 -> e = 0 /\ ∀ k, i <= k -> k < i + n -> f k = 0
 | 0, i, e, h => ⟨h, fun k a b => by omega⟩
 | n + 1, i, e, h => by
  unfold errL at h
  by_cases c : e = 0
  ·rw [if_pos c] at h;have := errL_0 n (i + 1) _ h;refine ⟨c, fun k a b => ?_⟩;rcases Nat.eq_or_lt_of_le a with d | d
   ·exact d ▸ this.1
   ·exact this.2 k (by omega) (by omega)
  ·rw [if_neg c] at h; exact absurd h c
def shI (qs pp : Dt) (i : Nat) : Int := shE qs (row pp i)
end Sp
namespace Sp
def mAdd (qs sh l : Dt) (j : Nat) : Dt := l.set j [.i ((cel l j 0).int + if mAll (qRight qs j) (row sh j) = true then 1 else 0), .i ((cel l j 1).int + if mAny (qRight qs j) (row sh j) = true then 1 else 0)]
def addQ (qs sh : Dt) : Nat -> Nat -> Dt -> Dt
 | _, 0, l => l
 | j, n + 1, l => addQ qs sh (j + 1) n (mAdd qs sh l j)
def addP (qs pp : Dt) : Nat -> Nat -> Dt -> Dt
 | _, 0, l => l
 | i, n + 1, l => addP qs pp (i + 1) n (addQ qs (row pp i) 0 l.length l)
structure CntAt (l : Dt) (m : Int) (q : Int) : Prop where
 ok : ∀ j : Nat, j < l.length -> ∃ x y : Int, l.getD j [] = [.i x, .i y] /\ 0 <= x /\ x <= (if (j : Int) < q then m + 1 else m) /\ 0 <= y /\ y <= (if (j : Int) < q then m + 1 else m)
theorem set_getD {l : Dt} {j : Nat} {c : List Cl} (h : j < l.length) : (l.set j c).getD j [] = c := by
 rw [List.getD_eq_getElem?_getD, List.getElem?_set_self h]; rfl
theorem set_getN {l : Dt} {j k : Nat} {c : List Cl} (h : j ≠ k) : (l.set j c).getD k [] = l.getD k [] := by
 rw [List.getD_eq_getElem?_getD, List.getElem?_set_ne h, <- List.getD_eq_getElem?_getD]
theorem cel_set {l : Dt} {j k : Nat} {c : List Cl} (h : j < l.length) : cel (l.set j c) j k = c.getD k .z := by
 unfold cel; rw [set_getD h]
theorem CntAt.next {l : Dt} {m : Int} {j : Nat} (h : CntAt l m j) (hj : j < l.length) {x y dx dy : Int} (e : l.getD j [] = [.i x, .i y]) (hx : dx = 0 \/ dx = 1) (hy : dy = 0 \/ dy = 1) : CntAt (l.set j [.i (x + dx), .i (y + dy)]) m (j + 1 : Int) := by
 refine ⟨fun k hk => ?_⟩;rw [List.length_set] at hk;obtain ⟨a, b, h1, h2, h3, h4, h5⟩ := h.ok k hk
 by_cases c : j = k
 ·subst c;rw [e] at h1;injection h1 with h6 h7
  injection h6 with h6
  injection h7 with h7 _
  injection h7 with h7
  subst h6; subst h7;refine ⟨x + dx, y + dy, set_getD hj, ?_⟩;rw [if_neg (by omega)] at h3 h5;rw [if_pos (by omega)];omega
 ·refine ⟨a, b, by rw [set_getN c]; exact h1, h2, ?_, h4, ?_⟩
  ·split at h3 <;> split <;> omega
  ·split at h5 <;> split <;> omega
end Sp
namespace Sp
theorem addQ_len (qs sh : Dt) : ∀ n j l, (addQ qs sh j n l).length = l.length
 | 0, _, _ => rfl
 | n + 1, j, l => by simp [addQ, addQ_len qs sh n, mAdd]
theorem CntAt.go {qs sh : Dt} {m : Int} : ∀ n j l, CntAt l m (j : Nat) -> j + n = l.length -> CntAt (addQ qs sh j n l) m (l.length : Nat)
 | 0, j, l, h, e => by rw [<- e]; exact h
 | n + 1, j, l, h, e => by
  obtain ⟨x, y, hg, _⟩ := h.ok j (by omega);have c0 : cel l j 0 = .i x := by unfold cel; rw [hg]; rfl
  have c1 : cel l j 1 = .i y := by unfold cel; rw [hg]; rfl
  have := CntAt.go (qs := qs) (sh := sh) n (j + 1) (mAdd qs sh l j) (by
   unfold mAdd;rw [c0, c1];exact h.next (by omega) hg (by split <;> simp) (by split <;> simp)) (by unfold mAdd; rw [List.length_set]; omega)
  rw [show (mAdd qs sh l j).length = l.length by unfold mAdd; rw [List.length_set]] at this;exact this
theorem CntAt.up {l : Dt} {m : Int} (h : CntAt l m (l.length : Nat)) : CntAt l (m + 1) 0 := ⟨fun j hj => by
 obtain ⟨x, y, hg, h1, h2, h3, h4⟩ := h.ok j hj;rw [if_pos (by omega)] at h2 h4;exact ⟨x, y, hg, h1, by rw [if_neg (by omega)]; exact h2, h3, by rw [if_neg (by omega)]; exact h4⟩⟩
end Sp
namespace Sp
def misE (qs ps : Dt) (all : Int) (pp : Dt) : Int := errL (shI qs pp) 0 pp.length (if chkE qs ps all = 0 then (if 20 < pp.length then 3 else 0) else chkE qs ps all)
def misV (qs ps : Dt) (all : Int) (pp : Dt) : Dt := if misE qs ps all pp = 0 then addP qs pp 0 pp.length (List.replicate qs.length [.i 0, .i 0]) else []
theorem misE_ok {qs ps pp : Dt} {all : Int} (h : misE qs ps all pp = 0) : KeyOk qs ps all /\ pp.length <= 20 /\ ∀ i, i < pp.length -> ShOk qs (row pp i) := by
 obtain ⟨h1, h2⟩ := errL_0 _ _ _ h
 split at h1
 ·rename_i e
  split at h1
  ·omega
  ·exact ⟨chkE_iff.1 e, by omega, fun i hi => shE_iff.1 (h2 i (by omega) (by omega))⟩
 ·rename_i e; exact absurd h1 e
end Sp
abbrev Xdp (ds : DS) : DS := match ds with | [[.l qs, .l ps, .i all], [.l pp]] => [[.l (Sp.misV qs ps all pp)], [.i (Sp.misE qs ps all pp)]] | _ => []
open Go.RowKit
set_option maxRecDepth 100000
set_option maxHeartbeats 1600000
namespace Sp
def eqI (xs : Dt) (x : Int) (k : Nat) : Bool := decide (x = num xs k)
def idxOf (xs : Dt) (x : Int) : Int := if anyF (eqI xs x) 0 xs.length = true then (fstF (eqI xs x) 0 xs.length : Nat) else -1
end Sp
def Xjl [InW] (e : List Ed) (K : Nat -> List Ed -> Prop) : Prop := match e with
 | [.ro _ xs, .i x, .i n, .i i] => Pre (n = xs.xs.length /\ 0 <= i /\ i <= n) (Vif (Sp.anyF (Sp.eqI xs.xs x) i.toNat (xs.xs.length - i.toNat)) (K 1 [.i ((Sp.fstF (Sp.eqI xs.xs x) i.toNat (xs.xs.length - i.toNat) : Nat) : Int)]) (K 0 []))
 | _ => False
noncomputable def Xkm : LC where
 len := 19
 T := [(0, .rs Jc), (1, .int .i64), (7, .int .i64), (8, .int .i64)]
 H := []
 W := ([4, 5] ++ rg 9 10)
 outs := [⟨.exit 0, [], [], ([0, 1, 4, 5] ++ rg 7 12)⟩, ⟨.ret, [(4, .int .i64)], [], ([0, 1, 5] ++ rg 7 12)⟩]
 spec := Xjl
def Xi2 [W : InW] (xs : Ro Jc) (x n i : Int) (A : List Ed -> Prop) (K : Nat -> List Ed -> Prop) : Prop :=
 Vif (decide (i < n)) (Need (decide (0 <= i) && decide (i < (↑(xs.xs.length) : Int))) (Need (decide (i.toNat < xs.xs.length)) (Vif (decide (x = (cel xs.xs i.toNat (0 : Nat)).int)) (K (0+1) [.i i]) (Ar .i64 (i + 1) fun z => A [.ro _ xs, .i x, .i n, .i z])))) (K 0 [])
theorem Xob (W : InW) (xs x n i A K) : Yfc { cxT Try.prog TT T0 1000 50 with fn := 86 } 1000 (Yn7 Try.prog 86 3) (Yd6 19 [(0, .rs _ xs), (1, .si .i64 x), (7, .si .i64 n), (8, .si .i64 i)] ([4, 5] ++ rg 9 10)) [] (Yug Xkm A K) = Xi2 xs x n i A K := by kernel_rfl
def Xif : Prop := ∀ (W : InW) (body a : Code), (Try.prog.funcs[86]?).bind (·.body) = some body -> a ∈ Yy body -> Yfx a = 3 -> @Ymq W Try.prog a (@Yto W Xkm)
theorem Xow (meas : [InW] -> List Ed -> Nat) (hyp_ : ∀ (W : InW) xs x n i K, Xjl [.ro _ xs, .i x, .i n, .i i] K -> ∀ A : List Ed -> Prop, (∀ e, meas e < meas [.ro _ xs, .i x, .i n, .i i] -> Xjl e K -> A e) -> Xi2 xs x n i A K) : Xif :=
 LE.okOf' (fun W => @TT W) (fun W => @Xe W) Xa T0 1000 50 (by kernel_rfl) Xkm (fun W => @meas W) fun W xs x n i K hs =>
  (Xob W xs x n i (fun e => meas e < meas [.ro _ xs, .i x, .i n, .i i] /\ Xjl e K) K).mpr (hyp_ W xs x n i K hs _ fun e h1 h2 => ⟨h1, h2⟩)
theorem okLix : Xif := Xow (fun e => match e with | [_, _, .i n, .i i] => (n - i).toNat | _ => 0) fun W xs x n i K hs A hA => by
 obtain ⟨⟨rfl, h0, h1⟩, hk⟩ := hs;unfold Xi2;have hm := xs.len;simp only [maxLen] at hm;have ez : (i + 1).toNat = i.toNat + 1 := by omega
 have ei : ((i.toNat : Nat) : Int) = i := Int.toNat_of_nonneg h0
 by_cases hi : i < xs.xs.length
 ·rw [show xs.xs.length - i.toNat = (xs.xs.length - (i.toNat + 1)) + 1 by omega] at hk;simp only [Sp.anyF, Sp.fstF] at hk;simp only [show ∀ k, (cel xs.xs k 0).int = Sp.num xs.xs k from fun _ => rfl]
  by_cases c : x = Sp.num xs.xs i.toNat
  ·have c2 : Sp.eqI xs.xs x i.toNat = true := decide_eq_true c;rw [c2, Bool.true_or, if_pos rfl, ei] at hk;have hk := hk.1 rfl;clear hA
   repeat' (first | omega | intro _ | with_reducible first | apply vifd | apply vifn | apply vifq | apply Xd | apply Xc | apply vifb | apply vif | apply nedd | apply ned2 | apply ned | apply ar64 | apply Xb | exact True.intro | assumption | rfl | apply And.intro)
   all_goals first | contradiction | exact hk | skip
  ·have c2 : Sp.eqI xs.xs x i.toNat = false := decide_eq_false c;rw [c2, Bool.false_or, if_neg (by decide)] at hk;have hA' := hA [.ro _ xs, .i x, .i xs.xs.length, .i (i + 1)] (show ((xs.xs.length : Int) - (i + 1)).toNat < ((xs.xs.length : Int) - i).toNat by omega) ⟨⟨rfl, by omega, by omega⟩, by rw [ez]; exact hk⟩;clear hA hk
   repeat' (first | omega | intro _ | with_reducible first | apply vifd | apply vifn | apply vifq | apply Xd | apply Xc | apply vifb | apply vif | apply nedd | apply ned2 | apply ned | apply ar64 | apply Xb | exact True.intro | assumption | rfl | apply And.intro)
   all_goals first | contradiction | exact hA' | skip
 ·rw [show xs.xs.length - i.toNat = 0 by omega] at hk;clear hA
  repeat' (first | omega | intro _ | with_reducible first | apply vifd | apply vifn | apply vifq | apply Xd | apply Xc | apply vifb | apply vif | apply nedd | apply ned2 | apply ned | apply ar64 | apply Xb | exact True.intro | assumption | rfl | apply And.intro)
  all_goals exact hk.2 rfl
noncomputable def le_ix : LE Try.prog := ⟨86, 3, fun W => @Yto W Xkm, okLix⟩
noncomputable def T40 : Tab Try.prog := ⟨[], [le_ix], []⟩
def Xn6 [W : InW] (xs : Ro Jc) (x : Int) (Q : DS -> Prop) : Prop :=
 Pre ((↑(xs.xs.length) : Int) = (↑(xs.xs.length) : Int) /\ Zb <= 0 /\ Zb <= (↑(xs.xs.length) : Int)) (Vif (Sp.anyF (Sp.eqI xs.xs x) (Int.toNat Zb) (xs.xs.length - Int.toNat Zb)) (Q [[Cl.i (↑(Sp.fstF (Sp.eqI xs.xs x) (Int.toNat Zb) (xs.xs.length - Int.toNat Zb)) : Int)]]) (Q [[Cl.i (-1 : Int)]]))
theorem vc_ix (W : InW) (xs x Q) : Ywr (cxT Try.prog TT T40 1000 50) 1000 86 [.rs _ xs, .si .i64 x] [] 0 (Y01 [(false, [.int .i64])] Q) (fun _ _ _ _ => Stuck 421) = Xn6 xs x Q := by kernel_rfl
abbrev Xir : List AT := [.one (.sl Jc), .one (.int .i64)]
theorem ok_ix {pre : DS -> Prop} {res : DS -> DS} (hyp_ : ∀ (W : InW) (xs : Ro Jc) (x : Int), pre [[.l xs.xs], [.i x]] -> ∀ Q : DS -> Prop, Q (res [[.l xs.xs], [.i x]]) -> Xn6 xs x Q) : PureOk Try.prog 86 Xir [(false, [.int .i64])] pre res :=
 PureOk.of' (fun W => @TT W) (fun W => @Xe W) Xa T40 1000 50 fun W xs x hp =>
  (vc_ix W xs x (fun o => o = res [[.l xs.xs], [.i x]])).mpr (hyp_ W xs x hp _ rfl)
abbrev Xhx (ds : DS) : DS := match ds with | [[.l xs], [.i x]] => [[.i (Sp.idxOf xs x)]] | _ => []
theorem okix : PureOk Try.prog 86 Xir [(false, [.int .i64])] (fun _ => True) Xhx :=
 ok_ix fun W xs x hp Q h => by
  unfold Xn6;delta Zb;simp only [Xhx, Sp.idxOf] at h;simp only [show Int.toNat 0 = 0 from rfl, Nat.sub_zero];refine ⟨⟨trivial, by omega, by omega⟩, vif (fun e => ?_) fun e => ?_⟩
  ·rw [if_pos e] at h; exact h
  ·rw [if_neg (by simp [e])] at h; exact h
noncomputable def Xoj : PC Try.prog := ⟨86, Xir, [(false, [.int .i64])], fun _ => True, Xhx, okix⟩
noncomputable def T41 : Tab Try.prog := ⟨[Xoj], [], []⟩
def Xn7 [W : InW] (xs : Ro Jc) (x : Int) (Q : DS -> Prop) : Prop :=
 Pre True (Q [[Cl.b (decide ((0 : Int) <= Sp.idxOf xs.xs x))]])
theorem vc_cn (W : InW) (xs x Q) : Ywr (cxT Try.prog TT T41 1000 50) 1000 87 [.rs _ xs, .si .i64 x] [] 0 (Y01 [(false, [.bool])] Q) (fun _ _ _ _ => Stuck 421) = Xn7 xs x Q := by kernel_rfl
abbrev Xit : List AT := [.one (.sl Jc), .one (.int .i64)]
theorem ok_cn {pre : DS -> Prop} {res : DS -> DS} (hyp_ : ∀ (W : InW) (xs : Ro Jc) (x : Int), pre [[.l xs.xs], [.i x]] -> ∀ Q : DS -> Prop, Q (res [[.l xs.xs], [.i x]]) -> Xn7 xs x Q) : PureOk Try.prog 87 Xit [(false, [.bool])] pre res :=
 PureOk.of' (fun W => @TT W) (fun W => @Xe W) Xa T41 1000 50 fun W xs x hp =>
  (vc_cn W xs x (fun o => o = res [[.l xs.xs], [.i x]])).mpr (hyp_ W xs x hp _ rfl)
abbrev Xkx (ds : DS) : DS := match ds with | [[.l xs], [.i x]] => [[.b (decide (0 <= Sp.idxOf xs x))]] | _ => []
theorem okcn : PureOk Try.prog 87 Xit [(false, [.bool])] (fun _ => True) Xkx :=
 ok_cn fun W xs x hp Q h => by
  unfold Xn7;exact ⟨trivial, h⟩
noncomputable def pc_cn : PC Try.prog := ⟨87, Xit, [(false, [.bool])], fun _ => True, Xkx, okcn⟩
def Xji [InW] (e : List Ed) (K : Nat -> List Ed -> Prop) : Prop := match e with
 | [.i a, .ro _ d, .i n, .i i] => Pre (n = d.xs.length /\ 0 <= i /\ i <= d.xs.length /\ Sp.Low d.xs /\ -1000 * i <= a /\ a <= 1000 * i) (K 0 [.i (Sp.sumF (Sp.num d.xs) i.toNat (d.xs.length - i.toNat) a)])
 | _ => False
noncomputable def Xkj : LC where
 len := 16
 T := [(2, .int .i64), (5, .rs Jc), (6, .int .i64), (7, .int .i64)]
 H := []
 W := ([4] ++ rg 8 7)
 outs := [⟨.exit 0, [(2, .int .i64)], [], (rg 4 11)⟩]
 spec := Xji
def Xiz [W : InW] (a : Int) (d : Ro Jc) (n i : Int) (A : List Ed -> Prop) (K : Nat -> List Ed -> Prop) : Prop :=
 Vif (decide (i < n)) (Need (decide (0 <= i) && decide (i < (↑(d.xs.length) : Int))) (Need (decide (i.toNat < d.xs.length)) (Ar .i64 (a + (cel d.xs i.toNat (0 : Nat)).int) fun z => Ar .i64 (i + 1) fun z_1 => A [.i z, .ro _ d, .i n, .i z_1]))) (K 0 [.i a])
theorem Xn8 (W : InW) (a d n i A K) : Yfc { cxT Try.prog TT T0 1000 50 with fn := 63 } 1000 (Yn7 Try.prog 63 3) (Yd6 16 [(2, .si .i64 a), (5, .rs _ d), (6, .si .i64 n), (7, .si .i64 i)] ([4] ++ rg 8 7)) [] (Yug Xkj A K) = Xiz a d n i A K := by kernel_rfl
def Xic : Prop := ∀ (W : InW) (body a : Code), (Try.prog.funcs[63]?).bind (·.body) = some body -> a ∈ Yy body -> Yfx a = 3 -> @Ymq W Try.prog a (@Yto W Xkj)
theorem Xot (meas : [InW] -> List Ed -> Nat) (hyp_ : ∀ (W : InW) a d n i K, Xji [.i a, .ro _ d, .i n, .i i] K -> ∀ A : List Ed -> Prop, (∀ e, meas e < meas [.i a, .ro _ d, .i n, .i i] -> Xji e K -> A e) -> Xiz a d n i A K) : Xic :=
 LE.okOf' (fun W => @TT W) (fun W => @Xe W) Xa T0 1000 50 (by kernel_rfl) Xkj (fun W => @meas W) fun W a d n i K hs =>
  (Xn8 W a d n i (fun e => meas e < meas [.i a, .ro _ d, .i n, .i i] /\ Xji e K) K).mpr (hyp_ W a d n i K hs _ fun e h1 h2 => ⟨h1, h2⟩)
theorem okLsu : Xic := Xot (fun e => match e with | [_, _, .i n, .i i] => (n - i).toNat | _ => 0) fun W a d n i K hs A hA => by
 obtain ⟨⟨rfl, h0, h1, hl, h2, h3⟩, hk⟩ := hs;unfold Xiz;have hm := d.len;have hl1 := hl.1;simp only [maxLen] at hm;have ez : (i + 1).toNat = i.toNat + 1 := by omega
 by_cases hi : i < d.xs.length
 ·rw [show d.xs.length - i.toNat = (d.xs.length - (i.toNat + 1)) + 1 by omega] at hk;simp only [Sp.sumF] at hk;have hv := hl.2 i.toNat (by omega);have hA' := hA [.i (a + Sp.num d.xs i.toNat), .ro _ d, .i d.xs.length, .i (i + 1)] (show ((d.xs.length : Int) - (i + 1)).toNat < ((d.xs.length : Int) - i).toNat by omega) ⟨⟨rfl, by omega, by omega, hl, by omega, by omega⟩, by rw [ez]; exact hk⟩;clear hA hk;simp only [show ∀ k, (cel d.xs k 0).int = Sp.num d.xs k from fun _ => rfl]
  repeat' (first | omega | intro _ | with_reducible first | apply vifd | apply vifn | apply vifq | apply Xd | apply Xc | apply vifb | apply vif | apply nedd | apply ned2 | apply ned | apply ar64 | apply Xb | exact True.intro | assumption | rfl | apply And.intro)
  all_goals first | contradiction | exact hA' | skip
 ·rw [show d.xs.length - i.toNat = 0 by omega] at hk;simp only [Sp.sumF] at hk;clear hA
  repeat' (first | omega | intro _ | with_reducible first | apply vifd | apply vifn | apply vifq | apply Xd | apply Xc | apply vifb | apply vif | apply nedd | apply ned2 | apply ned | apply ar64 | apply Xb | exact True.intro | assumption | rfl | apply And.intro)
  all_goals exact hk
noncomputable def le_su : LE Try.prog := ⟨63, 3, fun W => @Yto W Xkj, okLsu⟩
noncomputable def T42 : Tab Try.prog := ⟨[], [le_su], []⟩
def Xn5 [W : InW] (d : Ro Jc) (Q : DS -> Prop) : Prop :=
 Pre ((↑(d.xs.length) : Int) = (↑(d.xs.length) : Int) /\ (0 : Int) <= 0 /\ (0 : Int) <= (↑(d.xs.length) : Int) /\ Sp.Low d.xs /\ (-1000 : Int) * 0 <= 0 /\ (0 : Int) <= 1000 * 0) (Q [[Cl.i (Sp.sumF (Sp.num d.xs) (Int.toNat (0 : Int)) (d.xs.length - Int.toNat (0 : Int)) (0 : Int))]])
theorem vc_su (W : InW) (d Q) : Ywr (cxT Try.prog TT T42 1000 50) 1000 63 [.rs _ d] [] 0 (Y01 [(false, [.int .i64])] Q) (fun _ _ _ _ => Stuck 421) = Xn5 d Q := by kernel_rfl
abbrev Xiq : List AT := [.one (.sl Jc)]
theorem ok_su {pre : DS -> Prop} {res : DS -> DS} (hyp_ : ∀ (W : InW) (d : Ro Jc), pre [[.l d.xs]] -> ∀ Q : DS -> Prop, Q (res [[.l d.xs]]) -> Xn5 d Q) : PureOk Try.prog 63 Xiq [(false, [.int .i64])] pre res :=
 PureOk.of' (fun W => @TT W) (fun W => @Xe W) Xa T42 1000 50 fun W d hp =>
  (vc_su W d (fun o => o = res [[.l d.xs]])).mpr (hyp_ W d hp _ rfl)
theorem oksu : PureOk Try.prog 63 Xiq [(false, [.int .i64])] Xcd Xbi :=
 ok_su fun W d hp Q h => by
  have hp : Sp.Low d.xs := hp;unfold Xn5;simp only [show Int.toNat 0 = 0 from rfl, Nat.sub_zero];exact ⟨⟨trivial, by omega, by omega, hp, by omega, by omega⟩, h⟩
noncomputable def Xoh : PC Try.prog := ⟨63, Xiq, [(false, [.int .i64])], Xcd, Xbi, oksu⟩
def Xd4 [W : InW] (a b : Bool) (Q : DS -> Prop) : Prop :=
 Vif b (Q [[Cl.i 1]]) (Vif a (Q [[Cl.i 2]]) (Q [[Cl.i 0]]))
theorem Xl7 (W : InW) (a b Q) : Ywr (cxT Try.prog TT T0 1000 50) 1000 59 [.sb a, .sb b] [] 0 (Y01 [(false, [.int .i64])] Q) (fun _ _ _ _ => Stuck 421) = Xd4 a b Q := by kernel_rfl
abbrev Xcq : List AT := [.one (.bool), .one (.bool)]
theorem Xnr {pre : DS -> Prop} {res : DS -> DS} (hyp_ : ∀ (W : InW) (a b : Bool), pre [[.b a], [.b b]] -> ∀ Q : DS -> Prop, Q (res [[.b a], [.b b]]) -> Xd4 a b Q) : PureOk Try.prog 59 Xcq [(false, [.int .i64])] pre res :=
 PureOk.of' (fun W => @TT W) (fun W => @Xe W) Xa T0 1000 50 fun W a b hp =>
  (Xl7 W a b (fun o => o = res [[.b a], [.b b]])).mpr (hyp_ W a b hp _ rfl)
namespace Sp
def ocB (a b : Bool) : Int := if b = true then 1 else if a = true then 2 else 0
end Sp
abbrev Xfx (ds : DS) : DS := match ds with | [[.b a], [.b b]] => [[.i (Sp.ocB a b)]] | _ => []
theorem Xos : PureOk Try.prog 59 Xcq [(false, [.int .i64])] (fun _ => True) Xfx :=
 Xnr fun W a b hp Q h => by
  unfold Xd4;cases a <;> cases b <;> (repeat' (first | omega | intro _ | with_reducible first | apply vifd | apply vifn | apply vifq | apply Xd | apply Xc | apply vifb | apply vif | apply nedd | apply ned2 | apply ned | apply ar64 | apply Xb | exact True.intro | assumption | rfl | apply And.intro)) <;> first | exact h | contradiction | skip
noncomputable def Xh3 : PC Try.prog := ⟨59, Xcq, [(false, [.int .i64])], fun _ => True, Xfx, Xos⟩
open Go.RowKit
set_option maxRecDepth 100000
set_option maxHeartbeats 1600000
namespace Sp
def bitV (b : Int) (i : Int) : Int := andI .i64 (b.fdiv (2 ^ min i.toNat 64)) 1
def ansW (u : Dt) (q b : Int) : Nat -> Nat -> Dt -> Dt
 | _, 0, l => l
 | i, n + 1, l => ansW u q b (i + 1) n (if cA u i = q then l.set (cB u i).toNat [.i (bitV b i)] else l)
structure UqOk (u : Dt) (q : Int) (l : Nat) : Prop where
 few : u.length <= 64
 low : l <= 1000
 in_ : ∀ i, i < u.length -> cA u i = q -> 0 <= cB u i /\ cB u i < l
end Sp
def Xjm [InW] (e : List Ed) (K : Nat -> List Ed -> Prop) : Prop := match e with
 | [.i q, .i b, .i n, .i i, .ro _ qs, .ro _ ps, .i all, .ro _ sh, .l u, .l l] => Pre (n = u.length /\ 0 <= i /\ i <= u.length /\ 0 <= b /\ Sp.UqOk u q l.length) (K 0 [.i q, .i b, .ro _ qs, .ro _ ps, .i all, .ro _ sh, .l u, .l (Sp.ansW u q b i.toNat (u.length - i.toNat) l)])
 | _ => False
noncomputable def Xkn : LC where
 len := 64
 T := [(0, (.ptr 1 0)), (1, .int .i64), (2, .int .i64), (7, (.row 3)), (32, (.row 4)), (33, .int .i64), (34, .int .i64)]
 H := [(1, .blk 89 [.rs Iv5, .rs Jc, .int .i64, .rs Jb, (.row 4)]), (4, .arr 44 Ja), (3, .arr 3 Jc)]
 W := ([8, 9] ++ rg 35 17)
 outs := [⟨.exit 0, [(0, (.ptr 1 0)), (1, .int .i64), (2, .int .i64), (7, (.row 6))], [(1, .blk 89 [.rs Iv5, .rs Jc, .int .i64, .rs Jb, (.row 4)]), (4, .arr 44 Ja), (6, .arr 3 Jc)], ([8, 9] ++ rg 32 20)⟩]
 spec := Xjm
def Xi3 [W : InW] (q b n i : Int) (qs : Ro Iv5) (ps : Ro Jc) (all : Int) (sh : Ro Jb) (u l : Dt) (A : List Ed -> Prop) (K : Nat -> List Ed -> Prop) : Prop :=
 Vif (decide (i < n)) (Need (decide (0 <= i) && decide (i < (↑(u.length) : Int))) (Need (decide (i.toNat < u.length)) (Vif (decide ((cel u i.toNat (0 : Nat)).int = q)) (Need (decide (0 <= i)) (Need (decide ((0 : Int) <= (cel u i.toNat (0+1)).int) && decide ((cel u i.toNat (0+1)).int < (↑(l.length) : Int))) (Need (decide ((cel u i.toNat (0+1)).int.toNat < l.length)) (Ar .i64 (i + 1) fun z => A [.i q, .i b, .i n, .i z, .ro _ qs, .ro _ ps, .i all, .ro [Ty.sl [Ty.int IntKind.i64]] sh, .l u, .l (List.set l (cel u i.toNat (0+1)).int.toNat [Cl.i (andI IntKind.i64 (b.fdiv ((2 : Int) ^ min i.toNat (64 : Nat))) (1 : Int))])])))) (Ar .i64 (i + 1) fun z => A [.i q, .i b, .i n, .i z, .ro _ qs, .ro _ ps, .i all, .ro [Ty.sl [Ty.int IntKind.i64]] sh, .l u, .l l])))) (K 0 [.i q, .i b, .ro _ qs, .ro _ ps, .i all, .ro [Ty.sl [Ty.int IntKind.i64]] sh, .l u, .l l])
theorem Xoc (W : InW) (q b n i qs ps all sh u l A K) : Yfc { cxT Try.prog TT T0 1000 50 with fn := 78 } 1000 (Yn7 Try.prog 78 5) (Yd6 64 [(0, .ptr 1 0), (1, .si .i64 q), (2, .si .i64 b), (7, .rw 3), (32, .rw 4), (33, .si .i64 n), (34, .si .i64 i)] ([8, 9] ++ rg 35 17)) [(1, .blk 89 [.rs _ qs, .rs _ ps, .si .i64 all, .rs _ sh, .rw 4]), (4, .arr 44 Ja u), (3, .arr 3 Jc l)] (Yug Xkn A K) = Xi3 q b n i qs ps all sh u l A K := by kernel_rfl
def Xig : Prop := ∀ (W : InW) (body a : Code), (Try.prog.funcs[78]?).bind (·.body) = some body -> a ∈ Yy body -> Yfx a = 5 -> @Ymq W Try.prog a (@Yto W Xkn)
theorem Xox (meas : [InW] -> List Ed -> Nat) (hyp_ : ∀ (W : InW) q b n i qs ps all sh u l K, Xjm [.i q, .i b, .i n, .i i, .ro _ qs, .ro _ ps, .i all, .ro _ sh, .l u, .l l] K -> ∀ A : List Ed -> Prop, (∀ e, meas e < meas [.i q, .i b, .i n, .i i, .ro _ qs, .ro _ ps, .i all, .ro _ sh, .l u, .l l] -> Xjm e K -> A e) -> Xi3 q b n i qs ps all sh u l A K) : Xig :=
 LE.okOf' (fun W => @TT W) (fun W => @Xe W) Xa T0 1000 50 (by kernel_rfl) Xkn (fun W => @meas W) fun W q b n i qs ps all sh u l K hs =>
  (Xoc W q b n i qs ps all sh u l (fun e => meas e < meas [.i q, .i b, .i n, .i i, .ro _ qs, .ro _ ps, .i all, .ro _ sh, .l u, .l l] /\ Xjm e K) K).mpr (hyp_ W q b n i qs ps all sh u l K hs _ fun e h1 h2 => ⟨h1, h2⟩)
theorem okLan : Xig := Xox (fun e => match e with | [_, _, .i n, .i i, _, _, _, _, _, _] => (n - i).toNat | _ => 0) fun W q b n i qs ps all sh u l K hs A hA => by
 obtain ⟨⟨rfl, h0, h1, hb, hu⟩, hk⟩ := hs;have h64 := hu.few;unfold Xi3;simp only [Nat.zero_add, show ∀ k, (cel u k 0).int = Sp.cA u k from fun _ => rfl, show ∀ k, (cel u k 1).int = Sp.cB u k from fun _ => rfl];have ez : (i + 1).toNat = i.toNat + 1 := by omega
 by_cases hi : i < u.length
 ·rw [show u.length - i.toNat = (u.length - (i.toNat + 1)) + 1 by omega] at hk;simp only [Sp.ansW, Sp.bitV, Int.toNat_natCast] at hk
  by_cases c : Sp.cA u i.toNat = q
  ·have h3 := hu.in_ i.toNat (by omega) c;rw [if_pos c] at hk;have hA' := hA [.i q, .i b, .i u.length, .i (i + 1), .ro _ qs, .ro _ ps, .i all, .ro _ sh, .l u, .l (l.set (Sp.cB u i.toNat).toNat [.i (andI .i64 (b.fdiv (2 ^ min i.toNat 64)) 1)])] (show ((u.length : Int) - (i + 1)).toNat < ((u.length : Int) - i).toNat by omega) ⟨⟨rfl, by omega, by omega, hb, ⟨hu.few, by rw [List.length_set]; exact hu.low, fun k hk he => by rw [List.length_set]; exact hu.in_ k hk he⟩⟩, by rw [ez]; exact hk⟩;clear hA hk
   repeat' (first | omega | intro _ | with_reducible first | apply vifd | apply vifn | apply vifq | apply Xd | apply Xc | apply vifb | apply vif | apply nedd | apply ned2 | apply ned | apply ar64 | apply Xb | exact True.intro | assumption | rfl | apply And.intro)
   all_goals first | contradiction | exact hA' | skip
  ·rw [if_neg c] at hk;have hA' := hA [.i q, .i b, .i u.length, .i (i + 1), .ro _ qs, .ro _ ps, .i all, .ro _ sh, .l u, .l l] (show ((u.length : Int) - (i + 1)).toNat < ((u.length : Int) - i).toNat by omega) ⟨⟨rfl, by omega, by omega, hb, hu⟩, by rw [ez]; exact hk⟩;clear hA hk
   repeat' (first | omega | intro _ | with_reducible first | apply vifd | apply vifn | apply vifq | apply Xd | apply Xc | apply vifb | apply vif | apply nedd | apply ned2 | apply ned | apply ar64 | apply Xb | exact True.intro | assumption | rfl | apply And.intro)
   all_goals first | contradiction | exact hA' | skip
 ·rw [show u.length - i.toNat = 0 by omega] at hk;simp only [Sp.ansW] at hk;clear hA
  repeat' (first | omega | intro _ | with_reducible first | apply vifd | apply vifn | apply vifq | apply Xd | apply Xc | apply vifb | apply vif | apply nedd | apply ned2 | apply ned | apply ar64 | apply Xb | exact True.intro | assumption | rfl | apply And.intro)
  all_goals exact hk
noncomputable def le_an : LE Try.prog := ⟨78, 5, fun W => @Yto W Xkn, okLan⟩
namespace Sp
def ansX (l : Dt) : Int := if 0 <= idxOf l 1 /\ 0 <= idxOf (l.drop (idxOf l 1 + 1).toNat) 1 then -1 else idxOf l 1
def rowW (sh u : Dt) (q b : Int) : Dt := ansW u q b 0 u.length (row sh q.toNat)
end Sp
noncomputable def T43 : Tab Try.prog := ⟨[Xoj, pc_cn], [le_an], []⟩
def Xkw [InW] (e : List Ed) (K : Nat -> List Ed -> Prop) : Prop := match e with
 | [.i q, .i b, .ro _ qs, .ro _ ps, .i all, .ro _ sh, .l u] => Pre (0 <= q /\ q < sh.xs.length /\ 0 <= b /\ Sp.UqOk u q (Sp.row sh.xs q.toNat).length) (K 0 [.i (Sp.ansX (Sp.rowW sh.xs u q b)), .ro _ qs, .ro _ ps, .i all, .ro _ sh, .l u])
 | _ => False
noncomputable def Xq : CC where
 g := 78
 args := [(.ptr 1 0), .int .i64, .int .i64]
 H := [(1, .blk 89 [.rs Iv5, .rs Jc, .int .i64, .rs Jb, (.row 4)]), (4, .arr 44 Ja)]
 outs := [⟨false, .int .i64, [(1, .blk 89 [.rs Iv5, .rs Jc, .int .i64, .rs Jb, (.row 4)]), (4, .arr 44 Ja)], false⟩]
 spec := Xkw
def Zj [W : InW] (q : Int) (sh : Ro Jb) := List.length (cel sh.xs q.toNat (0 : Nat)).lst
def Zk [W : InW] (q : Int) (sh : Ro Jb) := List.replicate (↑(Zj q sh) : Int).toNat (Ybr [Ty.int IntKind.i64])
def Zi [W : InW] (q : Int) (sh : Ro Jb) := List.take (min (Zj q sh) (Zk q sh).length) (cel sh.xs q.toNat (0 : Nat)).lst ++ List.drop (min (Zj q sh) (Zk q sh).length) (Zk q sh)
def Zh [W : InW] (q b : Int) (sh : Ro Jb) (u : Dt) := Sp.ansW u q b (Int.toNat Zb) (u.length - Int.toNat Zb) (Zi q sh)
def Xe3 [W : InW] (q b : Int) (qs : Ro Iv5) (ps : Ro Jc) (all : Int) (sh : Ro Jb) (u : Dt) (K : Nat -> List Ed -> Prop) : Prop :=
 Need (decide (0 <= q) && decide (q < (↑(sh.xs.length) : Int))) (Need (decide (q.toNat < sh.xs.length)) (Need (decide ((↑(Zj q sh) : Int) = (↑(Zj q sh) : Int)) && decide (Zb <= (↑(Zj q sh) : Int)) && decide ((8 : Nat) * (↑(Zj q sh) : Int).toNat <= 281474976710656)) (Need (decide (0 <= q) && decide (q < (↑(sh.xs.length) : Int))) (Need (decide (q.toNat < sh.xs.length)) (Pre ((↑(u.length) : Int) = (↑(u.length) : Int) /\ Zb <= 0 /\ Zb <= (↑(u.length) : Int) /\ 0 <= b /\ Sp.UqOk u q (Zi q sh).length) (Pre True (Vif (decide (Zb <= Sp.idxOf (Zh q b sh u) (1 : Int))) (Ar .i64 (Sp.idxOf (Zh q b sh u) (1 : Int) + 1) fun z => Need (decide (0 <= z)) (Need (decide (z.toNat <= List.length (Zh q b sh u)) && decide (List.length (Zh q b sh u) <= List.length (Zh q b sh u))) (Need (decide (z.toNat + (List.length (Zh q b sh u) - z.toNat) <= List.length (Zh q b sh u))) (Pre True (Vif (decide (Zb <= Sp.idxOf (List.take (List.length (Zh q b sh u) - z.toNat) (List.drop z.toNat (Zh q b sh u))) (1 : Int))) (K 0 [.i (-1 : Int), .ro _ qs, .ro _ ps, .i all, .ro [Ty.sl [Ty.int IntKind.i64]] sh, .l u]) (K 0 [.i (Sp.idxOf (Zh q b sh u) (1 : Int)), .ro _ qs, .ro _ ps, .i all, .ro [Ty.sl [Ty.int IntKind.i64]] sh, .l u])))))) (K 0 [.i (Sp.idxOf (Zh q b sh u) (1 : Int)), .ro _ qs, .ro _ ps, .i all, .ro [Ty.sl [Ty.int IntKind.i64]] sh, .l u]))))))))
theorem Xlz (W : InW) (q b qs ps all sh u K) : Ywo (cxT Try.prog TT T43 1000 50) 1000 78 [.ptr 1 0, .si .i64 q, .si .i64 b] [(1, .blk 89 [.rs _ qs, .rs _ ps, .si .i64 all, .rs _ sh, .rw 4]), (4, .arr 44 Ja u)] (fun v h => outC Xq.H [.ro _ qs, .ro _ ps, .i all, .ro _ sh, .l u] Xq.outs 0 false v h K) (fun v h => outC Xq.H [.ro _ qs, .ro _ ps, .i all, .ro _ sh, .l u] Xq.outs 0 true v h K) = Xe3 q b qs ps all sh u K := by kernel_rfl
theorem Xnh (hyp_ : ∀ (W : InW) q b qs ps all sh u K, Xkw [.i q, .i b, .ro _ qs, .ro _ ps, .i all, .ro _ sh, .l u] K -> Xe3 q b qs ps all sh u K) : ∀ W : InW, @CallC W Try.prog Xq :=
 CC.okOf (fun W => @TT W) (fun W => @Xe W) Xa T43 1000 50 Xq fun W q b qs ps all sh u K hs => (Xlz W q b qs ps all sh u K).mpr (hyp_ W q b qs ps all sh u K hs)
theorem Xhj (u : Dt) (q b : Int) : ∀ n i l, (Sp.ansW u q b i n l).length = l.length
 | 0, _, _ => rfl
 | n + 1, i, l => by
  simp only [Sp.ansW];rw [Xhj u q b n (i + 1)]
  split <;> simp
theorem Xhh (xs : Dt) (x : Int) : -1 <= Sp.idxOf xs x /\ Sp.idxOf xs x < xs.length := by
 unfold Sp.idxOf
 split
 ·rename_i h;have := Sp.fstF_spec h;omega
 ·omega
theorem Xij : ∀ W : InW, @CallC W Try.prog Xq := Xnh fun W q b qs ps all sh u K hs => by
 obtain ⟨⟨h0, h1, h2, h3⟩, hk⟩ := hs;unfold Xe3;delta Zh Zi Zk Zj Zb;have hlow := h3.low;simp only [show Int.toNat 0 = 0 from rfl, Nat.sub_zero, Int.toNat_natCast, List.length_replicate, Nat.min_self, List.take_length, List.drop_replicate, Nat.sub_self, List.replicate_zero, List.append_nil, show (cel sh.xs q.toNat 0).lst = Sp.row sh.xs q.toNat from rfl, show Sp.ansW u q b 0 u.length (Sp.row sh.xs q.toNat) = Sp.rowW sh.xs u q b from rfl];have hl : (Sp.rowW sh.xs u q b).length = (Sp.row sh.xs q.toNat).length := Xhj _ _ _ _ _ _;have hz : ∀ z : Nat, List.take ((Sp.rowW sh.xs u q b).length - z) (List.drop z (Sp.rowW sh.xs u q b)) = List.drop z (Sp.rowW sh.xs u q b) := fun z => List.take_of_length_le (by simp);simp only [hz];clear hz;unfold Sp.ansX at hk;generalize Sp.rowW sh.xs u q b = l at *;have hi := Xhh l 1
 by_cases c : 0 <= Sp.idxOf l 1
 ·by_cases c2 : 0 <= Sp.idxOf (l.drop (Sp.idxOf l 1 + 1).toNat) 1
  ·rw [if_pos ⟨c, c2⟩] at hk
   repeat' (first | (with_reducible refine Xb ⟨rfl, by omega, by omega, h2, h3⟩ ?_) | (with_reducible refine Xb trivial ?_) | (with_reducible refine ned ?_ ?_; simp; omega) | omega | intro _ | with_reducible first | apply vifd | apply vifn | apply vifq | apply Xd | apply Xc | apply vifb | apply vif | apply nedd | apply ned2 | apply ned | apply ar64 | apply Xb | exact True.intro | assumption | rfl | apply And.intro)
   all_goals first | contradiction | exact hk | skip
  ·rw [if_neg (fun x => c2 x.2)] at hk
   repeat' (first | (with_reducible refine Xb ⟨rfl, by omega, by omega, h2, h3⟩ ?_) | (with_reducible refine Xb trivial ?_) | (with_reducible refine ned ?_ ?_; simp; omega) | omega | intro _ | with_reducible first | apply vifd | apply vifn | apply vifq | apply Xd | apply Xc | apply vifb | apply vif | apply nedd | apply ned2 | apply ned | apply ar64 | apply Xb | exact True.intro | assumption | rfl | apply And.intro)
   all_goals first | contradiction | exact hk | skip
 ·rw [if_neg (fun x => c x.1)] at hk
  repeat' (first | (with_reducible refine Xb ⟨rfl, by omega, by omega, h2, h3⟩ ?_) | (with_reducible refine Xb trivial ?_) | (with_reducible refine ned ?_ ?_; simp; omega) | omega | intro _ | with_reducible first | apply vifd | apply vifn | apply vifq | apply Xd | apply Xc | apply vifb | apply vif | apply nedd | apply ned2 | apply ned | apply ar64 | apply Xb | exact True.intro | assumption | rfl | apply And.intro)
  all_goals first | contradiction | exact hk | skip
open Go.RowKit
set_option maxRecDepth 100000
set_option maxHeartbeats 1600000
namespace Sp
def anW (sh u : Dt) (b : Int) (i : Nat) : Int := ansX (rowW sh u i b)
def stW (qs sh u : Dt) (b : Int) (i : Nat) (l : Dt) : Dt :=
 if anW sh u b i = qRight qs i then l.set (qPart qs i).toNat [.i (num l (qPart qs i).toNat + qPts qs i)] else if anW sh u b i = -1 then l else l.set (qPart qs i).toNat [.i (num l (qPart qs i).toNat - qMin qs i)]
def addW (qs sh u : Dt) (b : Int) : Nat -> Nat -> Dt -> Dt
 | _, 0, l => l
 | i, n + 1, l => addW qs sh u b (i + 1) n (stW qs sh u b i l)
def mkW (qs ps sh u : Dt) (b : Int) : Dt := addW qs sh u b 0 qs.length (List.replicate ps.length [.i 0])
structure SeOk (qs sh u : Dt) : Prop where
 n : sh.length = qs.length
 few : u.length <= 64
 uq : ∀ q, q < sh.length -> UqOk u q (row sh q).length
theorem stW_len (qs sh u : Dt) (b : Int) (i : Nat) (l : Dt) : (stW qs sh u b i l).length = l.length := by
 unfold stW; split
 ·simp
 ·split <;> simp
theorem addW_len (qs sh u : Dt) (b : Int) : ∀ n i l, (addW qs sh u b i n l).length = l.length
 | 0, _, _ => rfl
 | n + 1, i, l => by simp only [addW, addW_len qs sh u b n, stW_len]
theorem stW_in {qs sh u l : Dt} {b m : Int} {i : Nat} (hp : 0 <= qPart qs i /\ qPart qs i < l.length) (h1 : 0 <= qPts qs i /\ qPts qs i <= 20) (h2 : 0 <= qMin qs i /\ qMin qs i <= 20) (h : ∀ p, p < l.length -> -m <= num l p /\ num l p <= m) : ∀ p, p < (stW qs sh u b i l).length -> -(m + 20) <= num (stW qs sh u b i l) p /\ num (stW qs sh u b i l) p <= m + 20 := fun p hpl => by
 rw [stW_len] at hpl;have a := h p hpl;have c := h (qPart qs i).toNat (by omega);unfold stW
 split
 ·rw [num_set (by omega)]; split <;> omega
 ·split
  ·omega
  ·rw [num_set (by omega)]; split <;> omega
theorem addW_in {qs sh u : Dt} {b : Int} {np : Nat} (hp : ∀ i, i < qs.length -> 0 <= qPart qs i /\ qPart qs i < np) (h1 : ∀ i, i < qs.length -> 0 <= qPts qs i /\ qPts qs i <= 20) (h2 : ∀ i, i < qs.length -> 0 <= qMin qs i /\ qMin qs i <= 20) : ∀ n i l (m : Int), i + n <= qs.length -> l.length = np -> (∀ p, p < l.length -> -m <= num l p /\ num l p <= m) -> ∀ p, p < np -> -(m + 20 * n) <= num (addW qs sh u b i n l) p /\ num (addW qs sh u b i n l) p <= m + 20 * n
 | 0, i, l, m, hi, hl, h, p, hpn => by
  have := h p (by omega);simp only [addW];omega
 | n + 1, i, l, m, hi, hl, h, p, hpn => by
  have := addW_in (sh := sh) (u := u) (b := b) hp h1 h2 n (i + 1) (stW qs sh u b i l) (m + 20) (by omega) (by rw [stW_len]; exact hl) (stW_in (by rw [hl]; exact hp i (by omega)) (h1 i (by omega)) (h2 i (by omega)) h) p hpn;simp only [addW];omega
end Sp
def Xjj [InW] (e : List Ed) (K : Nat -> List Ed -> Prop) : Prop := match e with
 | [.i b, .ro _ qs', .i n, .i i, .ro _ qs, .ro _ ps, .i all, .ro _ sh, .l u, .l l] => Pre (qs'.xs = qs.xs /\ n = qs.xs.length /\ 0 <= i /\ i <= qs.xs.length /\ 0 <= b /\ Sp.KeyOk qs.xs ps.xs all /\ Sp.SeOk qs.xs sh.xs u /\ l.length = ps.xs.length /\ ∀ p, p < l.length -> -(20 * i) <= Sp.num l p /\ Sp.num l p <= 20 * i) (K 0 [.i b, .ro _ qs, .ro _ ps, .i all, .ro _ sh, .l u, .l (Sp.addW qs.xs sh.xs u b i.toNat (qs.xs.length - i.toNat) l)])
 | _ => False
noncomputable def T44 : Tab Try.prog := ⟨[], [], [ceOf Xq Xij]⟩
noncomputable def Xkk : LC where
 len := 56
 T := [(0, (.ptr 1 0)), (1, .int .i64), (5, (.row 3)), (19, .rs Iv5), (20, .int .i64), (21, .int .i64)]
 H := [(1, .blk 89 [.rs Iv5, .rs Jc, .int .i64, .rs Jb, (.row 4)]), (4, .arr 44 Ja), (3, .arr 3 Jc)]
 W := ([6, 7] ++ rg 22 33)
 outs := [⟨.exit 0, [(0, (.ptr 1 0)), (1, .int .i64), (5, (.row 6))], [(1, .blk 89 [.rs Iv5, .rs Jc, .int .i64, .rs Jb, (.row 4)]), (4, .arr 44 Ja), (6, .arr 3 Jc)], ([6, 7] ++ rg 19 36)⟩]
 spec := Xjj
def Zm [W : InW] (qz : Ro Iv5) (i : Int) := cel qz.xs i.toNat (0 : Nat)
def Zl [W : InW] (qz : Ro Iv5) (i : Int) (l : Dt) := decide ((0 : Int) <= (Zm qz i).int) && decide ((Zm qz i).int < (↑(l.length) : Int))
def Zn := [Ty.sl [Ty.int IntKind.i64]]
def Xi0 [W : InW] (b : Int) (qz : Ro Iv5) (n i : Int) (qs : Ro Iv5) (ps : Ro Jc) (all : Int) (sh : Ro Jb) (u l : Dt) (A : List Ed -> Prop) (K : Nat -> List Ed -> Prop) : Prop :=
 Vif (decide (i < n)) (Need (decide (0 <= i) && decide (i < (↑(qz.xs.length) : Int))) (Need (decide (i.toNat < qz.xs.length)) (Pre (0 <= i /\ i < (↑(sh.xs.length) : Int) /\ 0 <= b /\ Sp.UqOk u i (List.length (Sp.row sh.xs i.toNat))) (Vif (decide (Sp.ansX (Sp.rowW sh.xs u i b) = (cel qz.xs i.toNat ((0 : Nat) + 1 + 1)).int)) (Need (Zl qz i l) (Need (decide ((Zm qz i).int.toNat < l.length)) (Ar .i64 ((cel l (Zm qz i).int.toNat (0 : Nat)).int + (cel qz.xs i.toNat ((0 : Nat) + 1 + 1 + 1)).int) fun z => Need (Zl qz i l) (Need (decide ((Zm qz i).int.toNat < l.length)) (Ar .i64 (i + 1) fun z_1 => A [.i b, .ro _ qz, .i n, .i z_1, .ro _ qs, .ro _ ps, .i all, .ro Zn sh, .l u, .l (List.set l (Zm qz i).int.toNat [Cl.i z])]))))) (Vif (decide (Sp.ansX (Sp.rowW sh.xs u i b) = (-1 : Int))) (Ar .i64 (i + 1) fun z => A [.i b, .ro _ qz, .i n, .i z, .ro _ qs, .ro _ ps, .i all, .ro Zn sh, .l u, .l l]) (Need (Zl qz i l) (Need (decide ((Zm qz i).int.toNat < l.length)) (Ar .i64 ((cel l (Zm qz i).int.toNat (0 : Nat)).int - (cel qz.xs i.toNat ((0 : Nat) + 1 + 1 + 1 + 1)).int) fun z => Need (Zl qz i l) (Need (decide ((Zm qz i).int.toNat < l.length)) (Ar .i64 (i + 1) fun z_1 => A [.i b, .ro _ qz, .i n, .i z_1, .ro _ qs, .ro _ ps, .i all, .ro Zn sh, .l u, .l (List.set l (Zm qz i).int.toNat [Cl.i z])])))))))))) (K 0 [.i b, .ro _ qs, .ro _ ps, .i all, .ro Zn sh, .l u, .l l])
theorem Xn9 (W : InW) (b qz n i qs ps all sh u l A K) : Yfc { cxT Try.prog TT T44 1000 50 with fn := 55 } 1000 (Yn7 Try.prog 55 4) (Yd6 56 [(0, .ptr 1 0), (1, .si .i64 b), (5, .rw 3), (19, .rs _ qz), (20, .si .i64 n), (21, .si .i64 i)] ([6, 7] ++ rg 22 33)) [(1, .blk 89 [.rs _ qs, .rs _ ps, .si .i64 all, .rs _ sh, .rw 4]), (4, .arr 44 Ja u), (3, .arr 3 Jc l)] (Yug Xkk A K) = Xi0 b qz n i qs ps all sh u l A K := by kernel_rfl
def Xid : Prop := ∀ (W : InW) (body a : Code), (Try.prog.funcs[55]?).bind (·.body) = some body -> a ∈ Yy body -> Yfx a = 4 -> @Ymq W Try.prog a (@Yto W Xkk)
theorem Xou (meas : [InW] -> List Ed -> Nat) (hyp_ : ∀ (W : InW) b qz n i qs ps all sh u l K, Xjj [.i b, .ro _ qz, .i n, .i i, .ro _ qs, .ro _ ps, .i all, .ro _ sh, .l u, .l l] K -> ∀ A : List Ed -> Prop, (∀ e, meas e < meas [.i b, .ro _ qz, .i n, .i i, .ro _ qs, .ro _ ps, .i all, .ro _ sh, .l u, .l l] -> Xjj e K -> A e) -> Xi0 b qz n i qs ps all sh u l A K) : Xid :=
 LE.okOf' (fun W => @TT W) (fun W => @Xe W) Xa T44 1000 50 (by kernel_rfl) Xkk (fun W => @meas W) fun W b qz n i qs ps all sh u l K hs =>
  (Xn9 W b qz n i qs ps all sh u l (fun e => meas e < meas [.i b, .ro _ qz, .i n, .i i, .ro _ qs, .ro _ ps, .i all, .ro _ sh, .l u, .l l] /\ Xjj e K) K).mpr (hyp_ W b qz n i qs ps all sh u l K hs _ fun e h1 h2 => ⟨h1, h2⟩)
theorem okLpw : Xid := Xou (fun e => match e with | [_, _, .i n, .i i, _, _, _, _, _, _] => (n - i).toNat | _ => 0) fun W b qz n i qs ps all sh u l K hs A hA => by
 obtain ⟨⟨hq, rfl, h0, h1, hb, hkey, hse, hl, hin⟩, hk⟩ := hs;unfold Xi0;delta Zl Zn Zm;simp only [hq];have n2 := hkey.n2;have ez : (i + 1).toNat = i.toNat + 1 := by omega
 have ei : ((i.toNat : Nat) : Int) = i := Int.toNat_of_nonneg h0
 by_cases hi : i < qs.xs.length
 ·have hn := hse.n;have huq := hse.uq i.toNat (by omega);rw [ei] at huq;have hp := hkey.part i.toNat (by omega);have hpt := hkey.pts i.toNat (by omega);have hmn := hkey.minus i.toNat (by omega);have hv := hin (Sp.qPart qs.xs i.toNat).toNat (by omega);rw [show qs.xs.length - i.toNat = (qs.xs.length - (i.toNat + 1)) + 1 by omega] at hk;simp only [Sp.addW] at hk;have hA' := hA [.i b, .ro _ qz, .i qs.xs.length, .i (i + 1), .ro _ qs, .ro _ ps, .i all, .ro _ sh, .l u, .l (Sp.stW qs.xs sh.xs u b i.toNat l)] (show ((qs.xs.length : Int) - (i + 1)).toNat < ((qs.xs.length : Int) - i).toNat by omega) ⟨⟨hq, rfl, by omega, by omega, hb, hkey, hse, by rw [Sp.stW_len]; exact hl, fun p hp2 => by
   have := Sp.stW_in (qs := qs.xs) (sh := sh.xs) (u := u) (b := b) (m := 20 * i) (i := i.toNat) (by omega) hpt hmn hin p hp2;omega⟩, by rw [ez]; exact hk⟩
  clear hA hk;unfold Sp.stW Sp.anW at hA';rw [ei] at hA';simp only [Nat.zero_add, Nat.reduceAdd, show (cel qs.xs i.toNat 0).int = Sp.qPart qs.xs i.toNat from rfl, show (cel qs.xs i.toNat 2).int = Sp.qRight qs.xs i.toNat from rfl, show (cel qs.xs i.toNat 3).int = Sp.qPts qs.xs i.toNat from rfl, show (cel qs.xs i.toNat 4).int = Sp.qMin qs.xs i.toNat from rfl, show ∀ k, (cel l k 0).int = Sp.num l k from fun _ => rfl];generalize Sp.ansX (Sp.rowW sh.xs u i b) = r at *
  by_cases c : r = Sp.qRight qs.xs i.toNat
  ·rw [if_pos c] at hA'
   repeat' (first | (with_reducible refine Xb ⟨by omega, by omega, hb, huq⟩ ?_) | omega | intro _ | with_reducible first | apply vifd | apply vifn | apply vifq | apply Xd | apply Xc | apply vifb | apply vif | apply nedd | apply ned2 | apply ned | apply ar64 | apply Xb | exact True.intro | assumption | rfl | apply And.intro)
   all_goals first | contradiction | exact hA' | skip
  ·rw [if_neg c] at hA'
   by_cases c2 : r = -1
   ·rw [if_pos c2] at hA'
    repeat' (first | (with_reducible refine Xb ⟨by omega, by omega, hb, huq⟩ ?_) | omega | intro _ | with_reducible first | apply vifd | apply vifn | apply vifq | apply Xd | apply Xc | apply vifb | apply vif | apply nedd | apply ned2 | apply ned | apply ar64 | apply Xb | exact True.intro | assumption | rfl | apply And.intro)
    all_goals first | contradiction | exact hA' | skip
   ·rw [if_neg c2] at hA'
    repeat' (first | (with_reducible refine Xb ⟨by omega, by omega, hb, huq⟩ ?_) | omega | intro _ | with_reducible first | apply vifd | apply vifn | apply vifq | apply Xd | apply Xc | apply vifb | apply vif | apply nedd | apply ned2 | apply ned | apply ar64 | apply Xb | exact True.intro | assumption | rfl | apply And.intro)
    all_goals first | contradiction | exact hA' | skip
 ·rw [show qs.xs.length - i.toNat = 0 by omega] at hk;simp only [Sp.addW] at hk;clear hA
  repeat' (first | omega | intro _ | with_reducible first | apply vifd | apply vifn | apply vifq | apply Xd | apply Xc | apply vifb | apply vif | apply nedd | apply ned2 | apply ned | apply ar64 | apply Xb | exact True.intro | assumption | rfl | apply And.intro)
  all_goals exact hk
noncomputable def le_pw : LE Try.prog := ⟨55, 4, fun W => @Yto W Xkk, okLpw⟩
noncomputable def T45 : Tab Try.prog := ⟨[], [le_pw], [ceOf Xq Xij]⟩
def Xkr [InW] (e : List Ed) (K : Nat -> List Ed -> Prop) : Prop := match e with
 | [.i b, .ro _ qs, .ro _ ps, .i all, .ro _ sh, .l u] => Pre (0 <= b /\ Sp.KeyOk qs.xs ps.xs all /\ Sp.SeOk qs.xs sh.xs u) (K 0 [.ro _ qs, .ro _ ps, .i all, .ro _ sh, .l u, .l (Sp.mkW qs.xs ps.xs sh.xs u b)])
 | _ => False
noncomputable def Xp : CC where
 g := 55
 args := [(.ptr 1 0), .int .i64]
 H := [(1, .blk 89 [.rs Iv5, .rs Jc, .int .i64, .rs Jb, (.row 4)]), (4, .arr 44 Ja)]
 outs := [⟨false, (.row 6), [(1, .blk 89 [.rs Iv5, .rs Jc, .int .i64, .rs Jb, (.row 4)]), (4, .arr 44 Ja), (6, .arr 3 Jc)], false⟩]
 spec := Xkr
def Zo [W : InW] (ps : Ro Jc) := List.replicate (↑(ps.xs.length) : Int).toNat (Ybr [Ty.int IntKind.i64])
def Xey [W : InW] (b : Int) (qs : Ro Iv5) (ps : Ro Jc) (all : Int) (sh : Ro Jb) (u : Dt) (K : Nat -> List Ed -> Prop) : Prop :=
 Need (decide ((↑(ps.xs.length) : Int) = (↑(ps.xs.length) : Int)) && decide (Zb <= (↑(ps.xs.length) : Int)) && decide ((8 : Nat) * (↑(ps.xs.length) : Int).toNat <= 281474976710656)) (Pre (qs.xs = qs.xs /\ (↑(qs.xs.length) : Int) = (↑(qs.xs.length) : Int) /\ Zb <= 0 /\ Zb <= (↑(qs.xs.length) : Int) /\ 0 <= b /\ Sp.KeyOk qs.xs ps.xs all /\ Sp.SeOk qs.xs sh.xs u /\ (Zo ps).length = ps.xs.length /\ ∀ (p : Nat), p < (Zo ps).length -> -((20 : Int) * 0) <= Sp.num (Zo ps) p /\ Sp.num (Zo ps) p <= 20 * 0) (K 0 [.ro _ qs, .ro _ ps, .i all, .ro Zn sh, .l u, .l (Sp.addW qs.xs sh.xs u b (Int.toNat Zb) (qs.xs.length - Int.toNat Zb) (Zo ps))]))
theorem Xlu (W : InW) (b qs ps all sh u K) : Ywo (cxT Try.prog TT T45 1000 50) 1000 55 [.ptr 1 0, .si .i64 b] [(1, .blk 89 [.rs _ qs, .rs _ ps, .si .i64 all, .rs _ sh, .rw 4]), (4, .arr 44 Ja u)] (fun v h => outC Xp.H [.ro _ qs, .ro _ ps, .i all, .ro _ sh, .l u] Xp.outs 0 false v h K) (fun v h => outC Xp.H [.ro _ qs, .ro _ ps, .i all, .ro _ sh, .l u] Xp.outs 0 true v h K) = Xey b qs ps all sh u K := by kernel_rfl
theorem Xnc (hyp_ : ∀ (W : InW) b qs ps all sh u K, Xkr [.i b, .ro _ qs, .ro _ ps, .i all, .ro _ sh, .l u] K -> Xey b qs ps all sh u K) : ∀ W : InW, @CallC W Try.prog Xp :=
 CC.okOf (fun W => @TT W) (fun W => @Xe W) Xa T45 1000 50 Xp fun W b qs ps all sh u K hs => (Xlu W b qs ps all sh u K).mpr (hyp_ W b qs ps all sh u K hs)
theorem Xii : ∀ W : InW, @CallC W Try.prog Xp := Xnc fun W b qs ps all sh u K hs => by
 obtain ⟨⟨hb, hkey, hse⟩, hk⟩ := hs;have p2 := hkey.p2;unfold Xey;delta Zo Zb Zn;simp only [show Int.toNat 0 = 0 from rfl, Nat.sub_zero, Int.toNat_natCast, show Ybr [.int .i64] = [Cl.i 0] from rfl];unfold Sp.mkW at hk;refine ned (by simp; omega) ⟨⟨trivial, trivial, by omega, by omega, hb, hkey, hse, by simp, fun p _ => by rw [Sp.num_rep]; omega⟩, ?_⟩;exact hk
def Xjk [InW] (e : List Ed) (K : Nat -> List Ed -> Prop) : Prop := match e with
 | [.i n, .i i, .ro _ qs, .ro _ ps, .i all, .ro _ sh, .l u, .l l] => Pre (n = l.length /\ 0 <= i /\ i <= l.length /\ l.length = ps.xs.length /\ l.length <= 4) (Vif (Sp.partsOk l ps.xs i.toNat (l.length - i.toNat)) (K 0 [.ro _ qs, .ro _ ps, .i all, .ro _ sh, .l u, .l l]) (K 1 [.ro _ qs, .ro _ ps, .i all, .ro _ sh, .l u]))
 | _ => False
noncomputable def Xkl : LC where
 len := 37
 T := [(0, (.ptr 1 0)), (5, (.row 7)), (11, (.row 7)), (12, .int .i64), (13, .int .i64)]
 H := [(1, .blk 89 [.rs Iv5, .rs Jc, .int .i64, .rs Jb, (.row 4)]), (4, .arr 44 Ja), (7, .arr 3 Jc)]
 W := ([4, 6, 7] ++ rg 14 15)
 outs := [⟨.exit 0, [(0, (.ptr 1 0)), (5, (.row 7))], [(1, .blk 89 [.rs Iv5, .rs Jc, .int .i64, .rs Jb, (.row 4)]), (4, .arr 44 Ja), (7, .arr 3 Jc)], ([4, 6, 7] ++ rg 11 18)⟩, ⟨.ret, [(0, (.ptr 1 0)), (4, (.lit (.bool false)))], [(1, .blk 89 [.rs Iv5, .rs Jc, .int .i64, .rs Jb, (.row 4)]), (4, .arr 44 Ja)], ([5, 6, 7] ++ rg 11 18)⟩]
 spec := Xjk
def Xi1 [W : InW] (n i : Int) (qs : Ro Iv5) (ps : Ro Jc) (all : Int) (sh : Ro Jb) (u l : Dt) (A : List Ed -> Prop) (K : Nat -> List Ed -> Prop) : Prop :=
 Vif (decide (i < n)) (Need (decide (0 <= i) && decide (i < (↑(l.length) : Int))) (Need (decide (i.toNat < l.length)) (Need (decide (0 <= i) && decide (i < (↑(ps.xs.length) : Int))) (Need (decide (i.toNat < ps.xs.length)) (Vif (decide ((cel l i.toNat (0 : Nat)).int < (cel ps.xs i.toNat (0 : Nat)).int)) (K (0+1) [.ro _ qs, .ro _ ps, .i all, .ro Zn sh, .l u]) (Ar .i64 (i + 1) fun z => A [.i n, .i z, .ro _ qs, .ro _ ps, .i all, .ro Zn sh, .l u, .l l])))))) (K 0 [.ro _ qs, .ro _ ps, .i all, .ro Zn sh, .l u, .l l])
theorem Xoa (W : InW) (n i qs ps all sh u l A K) : Yfc { cxT Try.prog TT T0 1000 50 with fn := 56 } 1000 (Yn7 Try.prog 56 4) (Yd6 37 [(0, .ptr 1 0), (5, .rw 7), (11, .rw 7), (12, .si .i64 n), (13, .si .i64 i)] ([4, 6, 7] ++ rg 14 15)) [(1, .blk 89 [.rs _ qs, .rs _ ps, .si .i64 all, .rs _ sh, .rw 4]), (4, .arr 44 Ja u), (7, .arr 3 Jc l)] (Yug Xkl A K) = Xi1 n i qs ps all sh u l A K := by kernel_rfl
def Xie : Prop := ∀ (W : InW) (body a : Code), (Try.prog.funcs[56]?).bind (·.body) = some body -> a ∈ Yy body -> Yfx a = 4 -> @Ymq W Try.prog a (@Yto W Xkl)
theorem Xov (meas : [InW] -> List Ed -> Nat) (hyp_ : ∀ (W : InW) n i qs ps all sh u l K, Xjk [.i n, .i i, .ro _ qs, .ro _ ps, .i all, .ro _ sh, .l u, .l l] K -> ∀ A : List Ed -> Prop, (∀ e, meas e < meas [.i n, .i i, .ro _ qs, .ro _ ps, .i all, .ro _ sh, .l u, .l l] -> Xjk e K -> A e) -> Xi1 n i qs ps all sh u l A K) : Xie :=
 LE.okOf' (fun W => @TT W) (fun W => @Xe W) Xa T0 1000 50 (by kernel_rfl) Xkl (fun W => @meas W) fun W n i qs ps all sh u l K hs =>
  (Xoa W n i qs ps all sh u l (fun e => meas e < meas [.i n, .i i, .ro _ qs, .ro _ ps, .i all, .ro _ sh, .l u, .l l] /\ Xjk e K) K).mpr (hyp_ W n i qs ps all sh u l K hs _ fun e h1 h2 => ⟨h1, h2⟩)
theorem okLpl : Xie := Xov (fun e => match e with | [.i n, .i i, _, _, _, _, _, _] => (n - i).toNat | _ => 0) fun W n i qs ps all sh u l K hs A hA => by
 obtain ⟨⟨rfl, h0, h1, hl, h4⟩, hk⟩ := hs;unfold Xi1;delta Zn;simp only [show ∀ k, (cel l k 0).int = Sp.num l k from fun _ => rfl, show ∀ k, (cel ps.xs k 0).int = Sp.num ps.xs k from fun _ => rfl];have ez : (i + 1).toNat = i.toNat + 1 := by omega
 by_cases hi : i < l.length
 ·rw [show l.length - i.toNat = (l.length - (i.toNat + 1)) + 1 by omega] at hk;simp only [Sp.partsOk, Sp.allF] at hk
  by_cases c : Sp.num ps.xs i.toNat <= Sp.num l i.toNat
  ·rw [decide_eq_true c, Bool.true_and] at hk;have hA' := hA [.i l.length, .i (i + 1), .ro _ qs, .ro _ ps, .i all, .ro _ sh, .l u, .l l] (show ((l.length : Int) - (i + 1)).toNat < ((l.length : Int) - i).toNat by omega) ⟨⟨rfl, by omega, by omega, hl, h4⟩, by rw [ez]; exact hk⟩;clear hA hk
   repeat' (first | omega | intro _ | with_reducible first | apply vifd | apply vifn | apply vifq | apply Xd | apply Xc | apply vifb | apply vif | apply nedd | apply ned2 | apply ned | apply ar64 | apply Xb | exact True.intro | assumption | rfl | apply And.intro)
   all_goals first | contradiction | exact hA' | skip
  ·rw [decide_eq_false c, Bool.false_and] at hk;have hk := hk.2 rfl;clear hA
   repeat' (first | omega | intro _ | with_reducible first | apply vifd | apply vifn | apply vifq | apply Xd | apply Xc | apply vifb | apply vif | apply nedd | apply ned2 | apply ned | apply ar64 | apply Xb | exact True.intro | assumption | rfl | apply And.intro)
   all_goals first | contradiction | exact hk | skip
 ·rw [show l.length - i.toNat = 0 by omega] at hk;simp only [Sp.partsOk, Sp.allF] at hk;have hk := hk.1 rfl;clear hA
  repeat' (first | omega | intro _ | with_reducible first | apply vifd | apply vifn | apply vifq | apply Xd | apply Xc | apply vifb | apply vif | apply nedd | apply ned2 | apply ned | apply ar64 | apply Xb | exact True.intro | assumption | rfl | apply And.intro)
  all_goals exact hk
noncomputable def le_pl : LE Try.prog := ⟨56, 4, fun W => @Yto W Xkl, okLpl⟩
namespace Sp
def psW (qs ps : Dt) (all : Int) (sh u : Dt) (b : Int) : Bool := passOf all ps (mkW qs ps sh u b)
theorem mkW_len (qs ps sh u : Dt) (b : Int) : (mkW qs ps sh u b).length = ps.length := by unfold mkW; rw [addW_len, List.length_replicate]
theorem mkW_low {qs ps sh u : Dt} {all b : Int} (hk : KeyOk qs ps all) : Low (mkW qs ps sh u b) := by
 have h1 := hk.p2;have h2 := hk.n2;refine ⟨by rw [mkW_len]; omega, fun i hi => ?_⟩;rw [mkW_len] at hi;have := addW_in (sh := sh) (u := u) (b := b) hk.part hk.pts hk.minus qs.length 0 (List.replicate ps.length [.i 0]) 0 (by omega) (by simp) (fun p _ => by rw [num_rep]; omega) i hi;unfold mkW;omega
end Sp
noncomputable def T46 : Tab Try.prog := ⟨[Xoh], [le_pl], [ceOf Xp Xii]⟩
def Xks [InW] (e : List Ed) (K : Nat -> List Ed -> Prop) : Prop := match e with
 | [.i b, .ro _ qs, .ro _ ps, .i all, .ro _ sh, .l u] => Pre (0 <= b /\ Sp.KeyOk qs.xs ps.xs all /\ Sp.SeOk qs.xs sh.xs u) (K 0 [.b (Sp.psW qs.xs ps.xs all sh.xs u b), .ro _ qs, .ro _ ps, .i all, .ro _ sh, .l u])
 | _ => False
noncomputable def Xx : CC where
 g := 56
 args := [(.ptr 1 0), .int .i64]
 H := [(1, .blk 89 [.rs Iv5, .rs Jc, .int .i64, .rs Jb, (.row 4)]), (4, .arr 44 Ja)]
 outs := [⟨false, .bool, [(1, .blk 89 [.rs Iv5, .rs Jc, .int .i64, .rs Jb, (.row 4)]), (4, .arr 44 Ja)], false⟩]
 spec := Xks
def Xez [W : InW] (b : Int) (qs : Ro Iv5) (ps : Ro Jc) (all : Int) (sh : Ro Jb) (u : Dt) (K : Nat -> List Ed -> Prop) : Prop :=
 Pre (0 <= b /\ Sp.KeyOk qs.xs ps.xs all /\ Sp.SeOk qs.xs sh.xs u) (Pre ((↑(List.length (Sp.mkW qs.xs ps.xs sh.xs u b)) : Int) = (↑(List.length (Sp.mkW qs.xs ps.xs sh.xs u b)) : Int) /\ Zb <= 0 /\ Zb <= (↑(List.length (Sp.mkW qs.xs ps.xs sh.xs u b)) : Int) /\ List.length (Sp.mkW qs.xs ps.xs sh.xs u b) = ps.xs.length /\ List.length (Sp.mkW qs.xs ps.xs sh.xs u b) <= 4) (Vif (Sp.partsOk (Sp.mkW qs.xs ps.xs sh.xs u b) ps.xs (Int.toNat Zb) (List.length (Sp.mkW qs.xs ps.xs sh.xs u b) - Int.toNat Zb)) (Pre (Sp.Low (Sp.mkW qs.xs ps.xs sh.xs u b)) (K 0 [.b (decide (all <= Sp.total (Sp.mkW qs.xs ps.xs sh.xs u b))), .ro _ qs, .ro _ ps, .i all, .ro Zn sh, .l u])) (K 0 [.b false, .ro _ qs, .ro _ ps, .i all, .ro Zn sh, .l u])))
theorem Xlv (W : InW) (b qs ps all sh u K) : Ywo (cxT Try.prog TT T46 1000 50) 1000 56 [.ptr 1 0, .si .i64 b] [(1, .blk 89 [.rs _ qs, .rs _ ps, .si .i64 all, .rs _ sh, .rw 4]), (4, .arr 44 Ja u)] (fun v h => outC Xx.H [.ro _ qs, .ro _ ps, .i all, .ro _ sh, .l u] Xx.outs 0 false v h K) (fun v h => outC Xx.H [.ro _ qs, .ro _ ps, .i all, .ro _ sh, .l u] Xx.outs 0 true v h K) = Xez b qs ps all sh u K := by kernel_rfl
theorem Xnd (hyp_ : ∀ (W : InW) b qs ps all sh u K, Xks [.i b, .ro _ qs, .ro _ ps, .i all, .ro _ sh, .l u] K -> Xez b qs ps all sh u K) : ∀ W : InW, @CallC W Try.prog Xx :=
 CC.okOf (fun W => @TT W) (fun W => @Xe W) Xa T46 1000 50 Xx fun W b qs ps all sh u K hs => (Xlv W b qs ps all sh u K).mpr (hyp_ W b qs ps all sh u K hs)
theorem Xk0 : ∀ W : InW, @CallC W Try.prog Xx := Xnd fun W b qs ps all sh u K hs => by
 obtain ⟨⟨hb, hkey, hse⟩, hk⟩ := hs;have p2 := hkey.p2;have hl := Sp.mkW_len qs.xs ps.xs sh.xs u b;unfold Xez;delta Zn Zb;unfold Sp.psW Sp.passOf at hk;simp only [show Int.toNat 0 = 0 from rfl, Nat.sub_zero];refine ⟨⟨hb, hkey, hse⟩, ⟨⟨trivial, by omega, by omega, hl, by omega⟩, vif (fun e => ?_) fun e => ?_⟩⟩
 ·rw [e, Bool.and_true] at hk;exact ⟨Sp.mkW_low hkey, hk⟩
 ·rw [e, Bool.and_false] at hk;exact hk
end Go.Proofs.Ytifhdbgciehicaa
