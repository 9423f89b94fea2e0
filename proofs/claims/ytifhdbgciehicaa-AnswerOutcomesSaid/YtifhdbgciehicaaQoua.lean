/-
  'AnswerOutcomes': for every input the law returns true, and what is handed in reads as before. No condition.
-/
import Derived.Test.YtifhdbgciehicaaQd
import Derived.IntWalk
import Derived.Test.YtifhdbgciehicaaProg
set_option linter.unusedVariables false
set_option linter.unusedSectionVars false
set_option linter.unusedSimpArgs false
namespace Go.Proofs.Ytifhdbgciehicaa
abbrev Ja : List Ty := [.int .i64, .int .i64]
abbrev Jb : List Ty := [.sl [.int .i64]]
abbrev Jc : List Ty := [.int .i64]
abbrev Iv11 : List Ty := [.int .i64, .int .i64, .int .i64, .int .i64, .int .i64, .int .i64, .int .i64, .int .i64, .int .i64, .int .i64, .int .i64]
abbrev Iv5 : List Ty := [.int .i64, .int .i64, .int .i64, .int .i64, .int .i64]
abbrev Iv4 : List Ty := [.int .i64, .int .i64, .int .i64, .int .i64]
abbrev Ivs : List Ty := [.str, .int .i64, .int .i64, .int .i64]
open Go.RowKit
theorem vif [InW] {b : Bool} {A B : Prop} (h : b = true -> A) (h2 : b = false -> B) : Vif b A B := ⟨h, h2⟩
theorem vifd [InW] {p : Prop} {_ : Decidable p} {A B : Prop} (h : p -> A) (h2 : ¬ p -> B) : Vif (decide p) A B := ⟨fun e => h (of_decide_eq_true e), fun e => h2 (of_decide_eq_false e)⟩
theorem ned [InW] {b : Bool} {A : Prop} (h : b = true) (h2 : A) : Need b A := ⟨h, h2⟩
theorem nedd [InW] {p : Prop} {_ : Decidable p} {A : Prop} (h : p) (h2 : A) : Need (decide p) A := ⟨decide_eq_true h, h2⟩
theorem ar64 [InW] {n : Int} {K : Int -> Prop} (h : -9223372036854775808 <= n /\ n <= 9223372036854775807) (k : K n) : Ar .i64 n K := ⟨by rw [IntWalk.i64_in n h]; exact k⟩
open Go.RowKit
theorem notT {b : Bool} (h : (!b) = true) : b = false := by cases b <;> simp_all
theorem notF {b : Bool} (h : (!b) = false) : b = true := by cases b <;> simp_all
theorem vifn [InW] {p : Prop} {_ : Decidable p} {A B : Prop} (h : ¬ p -> A) (h2 : p -> B) : Vif (!decide p) A B := ⟨fun e => h (of_decide_eq_false (notT e)), fun e => h2 (of_decide_eq_true (notF e))⟩
theorem vifb [InW] {b : Bool} {A B : Prop} (h : b = false -> A) (h2 : b = true -> B) : Vif (!b) A B := ⟨fun e => h (notT e), fun e => h2 (notF e)⟩
theorem Xb {p A : Prop} (h : p) (h2 : A) : Pre p A := ⟨h, h2⟩
theorem ned2 [InW] {p q : Prop} {_ : Decidable p} {_ : Decidable q} {K : Prop} (h : p /\ q) (hK : K) : Need (decide p && decide q) K := ⟨by simp [h], hK⟩
open Go.RowKit
namespace Sp
def inr (n lo hi : Int) : Bool := decide (lo <= n) && decide (n <= hi)
def outs (lo hi : Int) (xs : Dt) : Nat -> Nat -> Bool
 | _, 0 => false
 | i, n + 1 => !inr (cel xs i 0).int lo hi || outs lo hi xs (i + 1) n
def out (lo hi : Int) (xs : Dt) : Bool := outs lo hi xs 0 xs.length
def outI (lo hi : Int) (xs : Dt) : Nat -> Nat -> Nat
 | i, 0 => i
 | i, n + 1 => if inr (cel xs i 0).int lo hi = true then outI lo hi xs (i + 1) n else i
def hasE (f : Nat -> Int) : Nat -> Nat -> Bool
 | _, 0 => false
 | i, n + 1 => !decide (f i = 0) || hasE f (i + 1) n
def idxE (f : Nat -> Int) : Nat -> Nat -> Nat
 | i, 0 => i
 | i, n + 1 => if f i = 0 then idxE f (i + 1) n else i
def allF (f : Nat -> Bool) : Nat -> Nat -> Bool
 | _, 0 => true
 | i, n + 1 => f i && allF f (i + 1) n
theorem allF_iff {f : Nat -> Bool} : ∀ {n i : Nat}, allF f i n = true ↔ ∀ k, i <= k -> k < i + n -> f k = true
 | 0, i => by simp [allF]; omega
 | n + 1, i => by
  simp only [allF, Bool.and_eq_true, allF_iff (n := n)];constructor
  ·rintro ⟨h1, h2⟩ k a b;rcases Nat.eq_or_lt_of_le a with e | e
   ·exact e ▸ h1
   ·exact h2 k (by omega) (by omega)
  ·exact fun h => ⟨h i (by omega) (by omega), fun k a b => h k (by omega) (by omega)⟩
def anyF (f : Nat -> Bool) : Nat -> Nat -> Bool
 | _, 0 => false
 | i, n + 1 => f i || anyF f (i + 1) n
theorem anyF_iff {f : Nat -> Bool} : ∀ {n i : Nat}, anyF f i n = true ↔ ∃ k, i <= k /\ k < i + n /\ f k = true
 | 0, i => by simp [anyF]; omega
 | n + 1, i => by
  simp only [anyF, Bool.or_eq_true, anyF_iff (n := n)];constructor
  ·rintro (h | ⟨k, a, b, c⟩)
   ·exact ⟨i, by omega, by omega, h⟩
   ·exact ⟨k, by omega, by omega, c⟩
  ·rintro ⟨k, a, b, c⟩;rcases Nat.eq_or_lt_of_le a with e | e
   ·exact .inl (e ▸ c)
   ·exact .inr ⟨k, by omega, by omega, c⟩
def fstF (f : Nat -> Bool) : Nat -> Nat -> Nat
 | i, 0 => i
 | i, n + 1 => if f i then i else fstF f (i + 1) n
theorem fstF_spec {f : Nat -> Bool} : ∀ {n i : Nat}, anyF f i n = true -> i <= fstF f i n /\ fstF f i n < i + n /\ f (fstF f i n) = true /\ ∀ k, i <= k -> k < fstF f i n -> f k = false
 | 0, i, h => by simp [anyF] at h
 | n + 1, i, h => by
  unfold fstF
  by_cases e : f i = true
  ·rw [if_pos e];exact ⟨by omega, by omega, e, fun k a b => by omega⟩
  ·rw [if_neg e];simp only [anyF, e, Bool.false_or, Bool.or_eq_true, Bool.false_eq_true, false_or] at h;obtain ⟨h1, h2, h3, h4⟩ := fstF_spec h;refine ⟨by omega, by omega, h3, fun k a b => ?_⟩;rcases Nat.eq_or_lt_of_le a with e2 | e2
   ·subst e2; simpa using e
   ·exact h4 k (by omega) b
def sumF (f : Nat -> Int) : Nat -> Nat -> Int -> Int
 | _, 0, a => a
 | i, n + 1, a => sumF f (i + 1) n (a + f i)
theorem hasE_ix {f : Nat -> Int} : ∀ {n i : Nat}, hasE f i n = true -> i <= idxE f i n /\ idxE f i n < i + n /\ f (idxE f i n) ≠ 0
 | 0, i, h => by simp [hasE] at h
 | n + 1, i, h => by
  unfold idxE
  by_cases e : f i = 0
  ·rw [if_pos e];simp only [hasE, e, decide_true, Bool.not_true, Bool.false_or] at h;have := hasE_ix h;exact ⟨by omega, by omega, this.2.2⟩
  ·rw [if_neg e]; exact ⟨by omega, by omega, e⟩
theorem hasE_no {f : Nat -> Int} : ∀ {n i : Nat}, hasE f i n = false -> ∀ k, i <= k -> k < i + n -> f k = 0
 | 0, i, _, k, a, b => by omega
 | n + 1, i, h, k, a, b => by
  simp only [hasE, Bool.or_eq_false_iff, Bool.not_eq_false', decide_eq_true_eq] at h;rcases Nat.eq_or_lt_of_le a with e | e
  ·exact e ▸ h.1
  ·exact hasE_no h.2 k (by omega) (by omega)
theorem hasE_of {f : Nat -> Int} : ∀ {n i : Nat}, (∀ k, i <= k -> k < i + n -> f k = 0) -> hasE f i n = false
 | 0, i, _ => rfl
 | n + 1, i, h => by
  simp only [hasE, h i (by omega) (by omega), decide_true, Bool.not_true, Bool.false_or];exact hasE_of fun k a b => h k (by omega) (by omega)
theorem inr_iff {n lo hi : Int} : inr n lo hi = true ↔ lo <= n /\ n <= hi := by simp [inr]
end Sp
theorem Xdo [InW] {f : Nat -> Int} {i n : Nat} {K1 : Nat -> Int -> Prop} {K0 : Prop} (h : Vif (Sp.hasE f i (n + 1)) (K1 (Sp.idxE f i (n + 1)) (f (Sp.idxE f i (n + 1)))) K0) :
  (f i ≠ 0 -> K1 i (f i)) /\ (f i = 0 -> Vif (Sp.hasE f (i + 1) n) (K1 (Sp.idxE f (i + 1) n) (f (Sp.idxE f (i + 1) n))) K0) := by
 simp only [Sp.hasE, Sp.idxE] at h;refine ⟨fun e => ?_, fun e => ?_⟩
 ·have := h.1 (by simp [e]);simpa [e] using this
 ·simpa [e] using h
theorem vifq [InW] {p q : Prop} {_ : Decidable p} {_ : Decidable q} {A B : Prop} (h : ¬ (p ↔ q) -> A) (h2 : (p ↔ q) -> B) : Vif (!(decide p == decide q)) A B :=
 ⟨fun e => h (by simpa using notT e), fun e => h2 (by simpa using notF e)⟩
theorem Xd [InW] {p : Prop} {_ : Decidable p} {A B : Prop} (h : p -> A) (h2 : ¬ p -> B) : Vif (!(decide p == false)) A B :=
 ⟨fun e => h (by simpa using e), fun e => h2 (by simpa using e)⟩
theorem Xc [InW] {p : Prop} {_ : Decidable p} {A B : Prop} (h : p -> A) (h2 : ¬ p -> B) : Vif (!(false == decide p)) A B :=
 ⟨fun e => h (by simpa using e), fun e => h2 (by simpa using e)⟩
theorem out1 (lo hi n : Int) : Sp.out lo hi [[Cl.i n]] = !Sp.inr n lo hi := by simp [Sp.out, Sp.outs, cel, Cl.int]
theorem out2 (lo hi n m : Int) : Sp.out lo hi [[Cl.i n], [Cl.i m]] = (!Sp.inr n lo hi || !Sp.inr m lo hi) := by simp [Sp.out, Sp.outs, cel, Cl.int]
set_option maxRecDepth 100000
def tTab [InW] : TI := ⟨some false, some 1, some [.v (.nilFunc)], [], none, none⟩
def tTaw [InW] : Tr TI := .node .nil tTab .nil
def tTaa [InW] : Tr TI := .node .nil ⟨none, none, none, [], none, none⟩ .nil
def tTag [InW] : Tr TI := .node tTaw tTab tTaa
def tTac [InW] : Tr TI := .node tTag tTab (.node (.node .nil ⟨some true, some 11, some [.v (.int .u64 0), .v (.int .u64 0), .v (.int .u32 0), .v (.int .u8 0), .v (.int .u8 0), .v (.int .u8 0), .v (.int .u8 0), .v (.nilFunc), .v (.pointer none), .v (.int .i32 0), .v (.int .i32 0)], [(some (0, 1)), (some (1, 1)), (some (2, 1)), (some (3, 1)), (some (4, 1)), (some (5, 1)), (some (6, 1)), (some (7, 1)), (some (8, 1)), (some (9, 1)), (some (10, 1))], none, none⟩ .nil) tTab tTaa)
def tTad [InW] : TI := ⟨some false, some 1, some [.v (.pointer none)], [], none, none⟩
def tTbb [InW] : Tr TI := .node .nil tTad .nil
def tTav [InW] : List AV := [.v (.int .i64 0), .v (.int .i64 0)]
def tTaf [InW] : TI := ⟨some true, some 2, some tTav, [(some (0, 1)), (some (1, 1))], none, none⟩
def tTao [InW] : List AV := [.v (.slice none 0 0)]
def tTae [InW] : Tr TI := .node tTaa tTab tTaa
def tTba [InW] : List (Option (Nat × Nat)) := [(some (0, 1)), (some (1, 1)), (some (2, 1)), (some (3, 1))]
def tTap [InW] : TI := ⟨some true, some 4, some [.v (.int .i64 0), .v (.int .i64 0), .v (.bool false), .v (.int .u8 0)], tTba, none, none⟩
def tTax [InW] : List AV := [.v (.int .i64 0), .v (.int .i64 0), .v (.int .i64 0), .v (.int .i64 0), .v (.int .i64 0)]
def tTai [InW] : TI := ⟨some true, some 5, some tTax, [(some (0, 1)), (some (1, 1)), (some (2, 1)), (some (3, 1)), (some (4, 1))], none, none⟩
def tTay [InW] : Tr TI := .node .nil ⟨some true, some 0, some [], [(some (0, 0))], none, none⟩ .nil
def tTak [InW] : TI := ⟨some false, some 1, some [.v (.int .i64 0)], [], none, none⟩
def tTaq [InW] : TI := ⟨some false, some 1, (some [.v (.tuple #[.int .i64 0, .int .i64 0])]), [], none, none⟩
def tTaz [InW] : TI := ⟨some true, some 1, some [.v (.pointer none)], [(some (0, 1))], none, none⟩
def tTah [InW] : Tr TI := .node (.node .nil ⟨some true, some 4, some [.v (.pointer none), .v (.pointer none), .v (.pointer none), .v (.string ByteArray.empty)], tTba, none, none⟩ .nil) tTab tTaa
def tTas [InW] : TI := ⟨some false, some 1, some [.v (.string ByteArray.empty)], [], none, none⟩
def tTbc [InW] : Tr TI := .node tTag tTab tTae
def tTal [InW] : TI := ⟨some false, some 1, some [.v (.int .u64 0)], [], none, none⟩
def tTar [InW] : TI := ⟨some true, some 3, some [.v (.slice none 0 0), .v (.slice none 0 0), .v (.int .i64 0)], [(some (0, 1)), (some (1, 1)), (some (2, 1))], none, none⟩
def tTan [InW] : TI := ⟨some false, some 1, some [.v (.int .u8 0)], [], none, none⟩
def tTaj [InW] : TI := ⟨some true, some 5, some [.v (.slice none 0 0), .v (.slice none 0 0), .v (.int .i64 0), .v (.slice none 0 0), .v (.slice none 0 0)], [(some (0, 3)), (some (3, 1)), (some (4, 1))], none, none⟩
def tTam [InW] : TI := ⟨some false, some 1, (some [.v (.tuple #[.slice none 0 0, .int .i64 0])]), [], none, none⟩
def tTat [InW] : TI := ⟨some false, some 1, some [.v (.int .i32 0)], [], none, none⟩
def tTau [InW] : TI := ⟨some true, some 2, some [.v (.string ByteArray.empty), .v (.int .u64 0)], [(some (0, 1)), (some (1, 1))], none, none⟩
def TT [InW] : Tr TI :=
 (.node (.node (.node (.node (.node tTac tTad (.node (.node tTbb tTaf tTaa) ⟨some false, some 1, some tTao, [], (some (26, 1, 24, tTao)), none⟩ tTae)) tTap (.node (.node (.node tTaw tTai tTaa) ⟨some false, some 1, some tTao, [], (some (44, 2, 16, tTav)), none⟩ (.node tTaa ⟨some false, some 1, some [.v (.map none)], [], none, none⟩ tTaa)) ⟨some false, some 1, some tTao, [], (some (3, 1, 8, [.v (.int .i64 0)])), none⟩ (.node (.node tTay tTab tTaa) tTab tTae))) tTak (.node (.node (.node (.node (.node .nil ⟨some false, some 1, (some [.v (.tuple #[.int .i64 0, .bool false])]), [], none, none⟩ .nil) tTab tTaa) tTaq tTae) tTaz (.node tTah ⟨some false, some 1, some tTao, [], (some (80, 2, 16, tTav)), none⟩ tTae)) tTas (.node (.node (.node tTaw ⟨some true, some 4, some [.v (.int .u8 0), .v (.int .u8 0), .v (.int .u8 0), .v (.int .u8 0)], [], none, (some (4, 1, false))⟩ tTaa) tTaf tTae) tTak (.node (.node tTaw ⟨some false, some 1, (some [.v (.tuple #[.slice none 0 0, .bool false])]), [], none, none⟩ tTaa) tTab tTae)))) tTab (.node (.node (.node (.node tTag tTab (.node tTbb tTab tTaa)) tTad tTbc) tTas (.node (.node (.node (.node .nil tTal .nil) ⟨some false, some 1, some tTao, [], (some (5, 1, 1, [.v (.int .u8 0)])), none⟩ tTaa) tTab (.node tTaa ⟨some true, some 2, some tTav, [], none, (some (2, 1, false))⟩ tTaa)) tTar (.node (.node (.node .nil tTan .nil) tTaj tTaa) tTab tTae))) tTan (.node (.node (.node (.node tTaw ⟨some true, some 2, some [.v (.int .u16 0), .v (.int .u16 0)], [], none, (some (2, 1, false))⟩ tTaa) tTam tTae) tTat (.node (.node (.node .nil ⟨some true, some 0, some [], [], none, (some (0, 1, false))⟩ .nil) tTad tTaa) tTab tTae)) tTau (.node (.node (.node tTbb ⟨some false, some 1, some tTao, [], (some (58, 1, 2, [.v (.int .u16 0)])), none⟩ tTaa) ⟨some false, some 1, (some [.v (.tuple #[.agg #[.int .i64 0, .int .i64 0], .int .i64 0, .int .i64 0])]), [], none, none⟩ tTae) tTab (.node (.node (.node .nil tTat .nil) tTab tTaa) tTab (.node tTaa tTak tTaa)))))) ⟨some false, some 1, (some [.v (.tuple #[])]), [], none, none⟩ (.node (.node (.node (.node tTac tTad (.node (.node (.node .nil tTaq .nil) tTaf tTaa) ⟨some false, some 1, (some [.v (.tuple #[.agg #[.slice none 0 0, .slice none 0 0, .int .i64 0], .int .i64 0])]), [], none, none⟩ tTae)) tTap (.node (.node (.node (.node .nil tTal .nil) tTab tTaa) tTam tTae) tTar (.node (.node tTaw tTaj tTaa) tTab (.node tTaa tTal tTaa)))) ⟨some false, some 1, some [.v (.bool false)], [], none, none⟩ (.node (.node tTbc ⟨some false, some 1, some [.v (.nilIface)], [], none, none⟩ (.node tTah tTam tTae)) tTal (.node (.node tTag tTaf tTae) ⟨some false, some 1, (some [.v (.tuple #[.int .i64 0, .int .i64 0, .int .i64 0])]), [], none, none⟩ (.node (.node tTbb tTab tTaa) tTab tTae)))) tTak (.node (.node (.node tTbc tTaz tTbc) tTas (.node (.node tTag tTab (.node tTaa ⟨some false, some 1, (some [.v (.tuple #[.agg #[.int .i64 0, .int .i64 0], .bool false])]), [], none, none⟩ tTaa)) ⟨some false, some 1, some tTao, [], (some (23, 1, 24, tTao)), none⟩ (.node (.node (.node .nil tTan .nil) tTab tTaa) ⟨some false, some 1, some [.v (.int .u16 0)], [], none, none⟩ tTae))) tTan (.node (.node (.node (.node (.node .nil ⟨some false, some 1, some [.v (.int .u32 0)], [], none, none⟩ .nil) tTai tTaa) tTab (.node tTaa ⟨some false, some 1, some tTao, [], (some (4, 1, 1, [.v (.bool false)])), none⟩ tTaa)) ⟨some false, some 1, some tTao, [], (some (71, 5, 40, tTax)), none⟩ (.node (.node tTay ⟨some false, some 1, (some [.v (.tuple #[.pointer none, .int .i64 0])]), [], none, none⟩ tTaa) tTab tTae)) tTau (.node (.node tTag tTab (.node tTaa ⟨some false, some 1, (some [.v (.tuple #[.int .i64 0, .agg #[.int .i64 0, .int .i64 0]])]), [], none, none⟩ tTaa)) ⟨some false, some 1, (some [.v (.tuple #[.slice none 0 0, .bool false, .int .i64 0])]), [], none, none⟩ (.node (.node (.node .nil tTat .nil) ⟨some false, some 1, (some [.v (.tuple #[.bool false, .bool false])]), [], none, none⟩ tTaa) tTab (.node tTaa tTaq tTaa)))))))
theorem Xe [InW] : TabOk Try.prog TT := TabOk.of 8 (by kernel_rfl)
theorem Xa : Try.prog.follows .mixedOrders = true := by kernel_rfl
open Go.RowKit
attribute [local irreducible] Go.Oper.wp
section
variable [W : InW]
def nthQ : List AV -> Nat -> AV
 | [], _ => .junk
 | x :: xs, n => match n with | 0 => x | n + 1 => nthQ xs n
def likeQ : Pt -> AV -> Bool
 | .lit v, x => (match x with | .v u => Ycn u v | _ => false)
 | .row _, x => (match x with | .rw _ => true | .sl _ 0 0 _ => true | _ => false)
 | _, _ => true
def Xrh : List (Nat × Pt) -> List AV -> Bool
 | [], _ => true
 | p :: ps, tm => match likeQ p.2 (nthQ tm p.1) with | true => Xrh ps tm | false => false
end
noncomputable def LE.pick {P : Program} (T : List (Nat × Pt)) (a b : LE P) (hg : b.g = a.g) (hk : b.key = a.key) : LE P where
 g := a.g
 key := a.key
 f := fun W tm hp K => match @Xrh W T tm with | true => a.f W tm hp K | false => b.f W tm hp K
 ok := fun W body c h1 h2 h3 tm hp K h => by
  dsimp only at h
  split at h
  ·exact a.ok W body c h1 h2 h3 tm hp K h
  ·exact b.ok W body c (by rw [hg]; exact h1) h2 (by rw [hk]; exact h3) tm hp K h
end Go.Proofs.Ytifhdbgciehicaa
namespace Go.Proofs.Ytifhdbgciehicaa
open Go.RowKit
attribute [local irreducible] Go.Oper.wp
section
variable [W : InW]
end
end Go.Proofs.Ytifhdbgciehicaa
namespace Go.Proofs.Ytifhdbgciehicaa
open Go.RowKit
set_option maxRecDepth 100000
noncomputable def T0 : Tab Try.prog := ⟨[], [], []⟩
abbrev Xgc (ds : DS) : DS := match ds with | [[.i n], [.i lo], [.i hi]] => [[.b (Sp.inr n lo hi)]] | _ => []
abbrev Xb6 (ds : DS) : DS := match ds with | [[.i n]] => [[.b (Sp.inr n (-240) 240)]] | _ => []
abbrev Xdt (ds : DS) : DS := match ds with | [[.i lo], [.i hi], [.l xs]] => [[.b (Sp.out lo hi xs)]] | _ => []
def Xr9 [W : InW] (n lo hi : Int) (Q : DS -> Prop) : Prop :=
 Vif (decide (lo <= n)) (Q [[Cl.b (decide (n <= hi))]]) (Q [[Cl.b false]])
theorem vc_in (W : InW) (n lo hi Q) : Ywr (cxT Try.prog TT T0 1000 50) 1000 52 [.si .i64 n, .si .i64 lo, .si .i64 hi] [] 0 (Y01 [(false, [.bool])] Q) (fun _ _ _ _ => Stuck 421) = Xr9 n lo hi Q := by kernel_rfl
abbrev Xjh : List AT := [.one (.int .i64), .one (.int .i64), .one (.int .i64)]
theorem ok_in {pre : DS -> Prop} {res : DS -> DS} (hyp_ : ∀ (W : InW) (n lo hi : Int), pre [[.i n], [.i lo], [.i hi]] -> ∀ Q : DS -> Prop, Q (res [[.i n], [.i lo], [.i hi]]) -> Xr9 n lo hi Q) : PureOk Try.prog 52 Xjh [(false, [.bool])] pre res :=
 PureOk.of' (fun W => @TT W) (fun W => @Xe W) Xa T0 1000 50 fun W n lo hi hp =>
  (vc_in W n lo hi (fun o => o = res [[.i n], [.i lo], [.i hi]])).mpr (hyp_ W n lo hi hp _ rfl)
theorem okin : PureOk Try.prog 52 Xjh [(false, [.bool])] (fun _ => True) Xgc :=
 ok_in fun W n lo hi _ Q h => vif (fun e => by simpa [Xgc, Sp.inr, e] using h) fun e => by simpa [Xgc, Sp.inr, e] using h
noncomputable def Xkn : PC Try.prog := ⟨52, Xjh, [(false, [.bool])], fun _ => True, Xgc, okin⟩
noncomputable def T0a : Tab Try.prog := ⟨[Xkn], [], []⟩
def Xdn [W : InW] (n : Int) (Q : DS -> Prop) : Prop :=
 Pre True (Q [[Cl.b (Sp.inr n (-240 : Int) (240 : Int))]])
theorem Xib (W : InW) (n Q) : Ywr (cxT Try.prog TT T0a 1000 50) 1000 53 [.si .i64 n] [] 0 (Y01 [(false, [.bool])] Q) (fun _ _ _ _ => Stuck 421) = Xdn n Q := by kernel_rfl
abbrev X7 : List AT := [.one (.int .i64)]
theorem Xiy {pre : DS -> Prop} {res : DS -> DS} (hyp_ : ∀ (W : InW) (n : Int), pre [[.i n]] -> ∀ Q : DS -> Prop, Q (res [[.i n]]) -> Xdn n Q) : PureOk Try.prog 53 X7 [(false, [.bool])] pre res :=
 PureOk.of' (fun W => @TT W) (fun W => @Xe W) Xa T0a 1000 50 fun W n hp =>
  (Xib W n (fun o => o = res [[.i n]])).mpr (hyp_ W n hp _ rfl)
theorem Xku : PureOk Try.prog 53 X7 [(false, [.bool])] (fun _ => True) Xb6 :=
 Xiy fun W n _ Q h => ⟨trivial, h⟩
noncomputable def Xdg : PC Try.prog := ⟨53, X7, [(false, [.bool])], fun _ => True, Xb6, Xku⟩
def Xfz [InW] (e : List Ed) (K : Nat -> List Ed -> Prop) : Prop := match e with
 | [.ro _ xs, .i n, .i i, .i lo, .i hi] => Pre (n = xs.xs.length /\ 0 <= i /\ i <= n) (Vif (Sp.outs lo hi xs.xs i.toNat (xs.xs.length - i.toNat)) (K 1 [.i (Sp.outI lo hi xs.xs i.toNat (xs.xs.length - i.toNat)), .i lo, .i hi]) (K 0 [.i lo, .i hi]))
 | _ => False
noncomputable def Xhu : LC where
 len := 19
 T := [(0, .rs Jc), (1, (.fn (.func 81) [] [(.ptr 1 0), (.ptr 4 0)])), (7, .int .i64), (8, .int .i64)]
 H := [(1, .blk 3 [.int .i64]), (4, .blk 3 [.int .i64])]
 W := ([4, 5] ++ rg 9 10)
 outs := [⟨.exit 0, [(1, (.fn (.func 81) [] [(.ptr 1 0), (.ptr 4 0)]))], [(1, .blk 3 [.int .i64]), (4, .blk 3 [.int .i64])], ([0, 4, 5] ++ rg 7 12)⟩, ⟨.ret, [(1, (.fn (.func 81) [] [(.ptr 1 0), (.ptr 4 0)])), (4, .int .i64)], [(1, .blk 3 [.int .i64]), (4, .blk 3 [.int .i64])], ([0, 5] ++ rg 7 12)⟩]
 spec := Xfz
def Xe0 [W : InW] (xs : Ro Jc) (n i lo hi : Int) (A : List Ed -> Prop) (K : Nat -> List Ed -> Prop) : Prop :=
 Vif (decide (i < n)) (Need (decide (0 <= i) && decide (i < (↑(xs.xs.length) : Int))) (Need (decide (i.toNat < xs.xs.length)) (Vif (decide ((cel xs.xs i.toNat (0 : Nat)).int < lo)) (K (0+1) [.i i, .i lo, .i hi]) (Vif (decide (hi < (cel xs.xs i.toNat (0 : Nat)).int)) (K (0+1) [.i i, .i lo, .i hi]) (Ar .i64 (i + 1) fun z => A [.ro _ xs, .i n, .i z, .i lo, .i hi]))))) (K 0 [.i lo, .i hi])
theorem Xml (W : InW) (xs n i lo hi A K) : Yfc { cxT Try.prog TT T0 1000 50 with fn := 88 } 1000 (Yn7 Try.prog 88 3) (Yd6 19 [(0, .rs _ xs), (1, .fn (.func 81) [] [.ptr 1 0, .ptr 4 0]), (7, .si .i64 n), (8, .si .i64 i)] ([4, 5] ++ rg 9 10)) [(1, .blk 3 [.si .i64 lo]), (4, .blk 3 [.si .i64 hi])] (Yug Xhu A K) = Xe0 xs n i lo hi A K := by kernel_rfl
def Xg1 : Prop := ∀ (W : InW) (body a : Code), (Try.prog.funcs[88]?).bind (·.body) = some body -> a ∈ Yy body -> Yfx a = 3 -> @Ymq W Try.prog a (@Yto W Xhu)
theorem Xn7 (meas : [InW] -> List Ed -> Nat) (hyp_ : ∀ (W : InW) xs n i lo hi K, Xfz [.ro _ xs, .i n, .i i, .i lo, .i hi] K -> ∀ A : List Ed -> Prop, (∀ e, meas e < meas [.ro _ xs, .i n, .i i, .i lo, .i hi] -> Xfz e K -> A e) -> Xe0 xs n i lo hi A K) : Xg1 :=
 LE.okOf' (fun W => @TT W) (fun W => @Xe W) Xa T0 1000 50 (by kernel_rfl) Xhu (fun W => @meas W) fun W xs n i lo hi K hs =>
  (Xml W xs n i lo hi (fun e => meas e < meas [.ro _ xs, .i n, .i i, .i lo, .i hi] /\ Xfz e K) K).mpr (hyp_ W xs n i lo hi K hs _ fun e h1 h2 => ⟨h1, h2⟩)
theorem Xq5 : Xg1 := Xn7 (fun e => match e with | .ro _ xs :: .i n :: .i i :: _ => (n - i).toNat | _ => 0) fun W xs n i lo hi K hs A hA => by
 obtain ⟨⟨rfl, h0, h1⟩, hk⟩ := hs;unfold Xe0;have hm := xs.len;simp only [maxLen] at hm;refine vifd (fun e => ?_) fun e => ?_
 ·rw [show xs.xs.length - i.toNat = (xs.xs.length - (i.toNat + 1)) + 1 by omega] at hk;have hc : (cel xs.xs i.toNat 0).int < lo \/ hi < (cel xs.xs i.toNat 0).int -> K 1 [.i i, .i lo, .i hi] := fun h => by
   have hf : Sp.inr (cel xs.xs i.toNat 0).int lo hi = false := by simp only [Sp.inr, Bool.and_eq_false_iff, decide_eq_false_iff_not]; omega
   have := hk.1 (by simp [Sp.outs, hf]);unfold Sp.outI at this;rw [if_neg (by simp [hf]), Int.toNat_of_nonneg h0] at this;exact this
  refine ned (by simp; omega) (nedd (by omega) (vifd (fun e2 => hc (.inl e2)) fun e2 => vifd (fun e3 => hc (.inr e3)) fun e3 => ar64 (by omega) (hA _ ?_ ?_)))
  ·show ((xs.xs.length : Int) - (i + 1)).toNat < ((xs.xs.length : Int) - i).toNat
   omega
  ·have hf : Sp.inr (cel xs.xs i.toNat 0).int lo hi = true := by simp only [Sp.inr, Bool.and_eq_true, decide_eq_true_eq]; omega
   refine ⟨⟨rfl, by omega, by omega⟩, ?_⟩;rw [show (i + 1).toNat = i.toNat + 1 by omega];simp only [Sp.outs, hf, Bool.not_true, Bool.false_or, Sp.outI, if_true] at hk;exact hk
 ·rw [show xs.xs.length - i.toNat = 0 by omega] at hk;exact hk.2 rfl
noncomputable def Xr2 : LE Try.prog := ⟨88, 3, fun W => @Yto W Xhu, Xq5⟩
noncomputable def T1 : Tab Try.prog := ⟨[], [Xr2], []⟩
def Xjn [W : InW] (lo hi : Int) (xs : Ro Jc) (Q : DS -> Prop) : Prop :=
 Pre ((↑(xs.xs.length) : Int) = (↑(xs.xs.length) : Int) /\ (0 : Int) <= 0 /\ (0 : Int) <= (↑(xs.xs.length) : Int)) (Vif (Sp.outs lo hi xs.xs (Int.toNat (0 : Int)) (xs.xs.length - Int.toNat (0 : Int))) (Q [[Cl.b (decide ((0 : Int) <= (↑(Sp.outI lo hi xs.xs (Int.toNat (0 : Int)) (xs.xs.length - Int.toNat (0 : Int))) : Int)))]]) (Q [[Cl.b false]]))
theorem Xpn (W : InW) (lo hi xs Q) : Ywr (cxT Try.prog TT T1 1000 50) 1000 51 [.si .i64 lo, .si .i64 hi, .rs _ xs] [] 0 (Y01 [(false, [.bool])] Q) (fun _ _ _ _ => Stuck 421) = Xjn lo hi xs Q := by kernel_rfl
abbrev Xd1 : List AT := [.one (.int .i64), .one (.int .i64), .one (.sl Jc)]
theorem Xqh {pre : DS -> Prop} {res : DS -> DS} (hyp_ : ∀ (W : InW) (lo hi : Int) (xs : Ro Jc), pre [[.i lo], [.i hi], [.l xs.xs]] -> ∀ Q : DS -> Prop, Q (res [[.i lo], [.i hi], [.l xs.xs]]) -> Xjn lo hi xs Q) : PureOk Try.prog 51 Xd1 [(false, [.bool])] pre res :=
 PureOk.of' (fun W => @TT W) (fun W => @Xe W) Xa T1 1000 50 fun W lo hi xs hp =>
  (Xpn W lo hi xs (fun o => o = res [[.i lo], [.i hi], [.l xs.xs]])).mpr (hyp_ W lo hi xs hp _ rfl)
theorem okout : PureOk Try.prog 51 Xd1 [(false, [.bool])] (fun _ => True) Xdt :=
 Xqh fun W lo hi xs _ Q h => by
  unfold Xjn;simp only [Xdt, Sp.out] at h;rw [show Int.toNat 0 = 0 from rfl, Nat.sub_zero];refine ⟨⟨rfl, by omega, by omega⟩, vif (fun e => ?_) fun e => ?_⟩
  ·rw [e] at h;rw [decide_eq_true (by omega)];exact h
  ·rw [e] at h;exact h
noncomputable def Xdf : PC Try.prog := ⟨51, Xd1, [(false, [.bool])], fun _ => True, Xdt, okout⟩
open Go.RowKit
set_option maxRecDepth 100000
set_option maxHeartbeats 1600000
abbrev tyQ : List Ty := [.int .i64, .int .i64, .int .i64, .int .i64, .int .i64]
namespace Sp
def qPart (qs : Dt) (i : Nat) : Int := (cel qs i 0).int
def qBoxes (qs : Dt) (i : Nat) : Int := (cel qs i 1).int
def qRight (qs : Dt) (i : Nat) : Int := (cel qs i 2).int
def qPts (qs : Dt) (i : Nat) : Int := (cel qs i 3).int
def qMin (qs : Dt) (i : Nat) : Int := (cel qs i 4).int
def qErr (np : Nat) (qs : Dt) (i : Nat) : Int :=
 if inr (qPart qs i) 0 ((np : Int) - 1) then (if inr (qBoxes qs i) 2 4 then (if inr (qRight qs i) 0 (qBoxes qs i - 1) then (if inr (qPts qs i) 0 20 && inr (qMin qs i) 0 20 then 0 else 7) else 4) else 7) else 4
def pErr (ps : Dt) (i : Nat) : Int := if inr (cel ps i 0).int (-240) 240 then 0 else 7
def chk (qs ps : Dt) (all : Int) : Int × Int × Int :=
  if inr qs.length 1 12 && inr ps.length 1 4 then
    (if hasE (qErr ps.length qs) 0 qs.length then (2, idxE (qErr ps.length qs) 0 qs.length, qErr ps.length qs (idxE (qErr ps.length qs) 0 qs.length))
     else if hasE (pErr ps) 0 ps.length then (3, idxE (pErr ps) 0 ps.length, pErr ps (idxE (pErr ps) 0 ps.length))
     else if inr all (-240) 240 then (0, 0, 0) else (4, 0, 7))
  else (1, 0, 3)
def chkP (qs ps : Dt) (all : Int) : Int := (chk qs ps all).1
def chkI (qs ps : Dt) (all : Int) : Int := (chk qs ps all).2.1
def chkE (qs ps : Dt) (all : Int) : Int := (chk qs ps all).2.2
end Sp
abbrev Xt (ds : DS) : DS := match ds with | [[.l qs, .l ps, .i all]] => [[.i (Sp.chkP qs ps all)], [.i (Sp.chkI qs ps all)], [.i (Sp.chkE qs ps all)]] | _ => []
noncomputable def T2 : Tab Try.prog := ⟨[Xkn, Xdg, Xdf], [], []⟩
def Xfs [InW] (e : List Ed) (K : Nat -> List Ed -> Prop) : Prop := match e with
 | [.i i, .ro _ qs, .ro _ ps, .i all] => Pre (0 <= i /\ i <= qs.xs.length) (Vif (Sp.hasE (Sp.qErr ps.xs.length qs.xs) i.toNat (qs.xs.length - i.toNat))
   (K 1 [.i (Sp.idxE (Sp.qErr ps.xs.length qs.xs) i.toNat (qs.xs.length - i.toNat)), .i (Sp.qErr ps.xs.length qs.xs (Sp.idxE (Sp.qErr ps.xs.length qs.xs) i.toNat (qs.xs.length - i.toNat)))]) (K 0 [.ro _ qs, .ro _ ps, .i all]))
 | _ => False
noncomputable def Xhn : LC where
 len := 84
 T := [(1, (.ptr 1 0)), (5, .int .i64)]
 H := [(1, .blk 25 [.rs tyQ, .rs Jc, .int .i64])]
 W := ([2, 3, 4, 6] ++ rg 20 45)
 outs := [⟨.exit 0, [(1, (.ptr 1 0))], [(1, .blk 25 [.rs tyQ, .rs Jc, .int .i64])], (rg 2 5 ++ rg 20 45)⟩, ⟨.ret, [(2, (.lit (.int .i64 2))), (3, .int .i64), (4, .int .i64)], [], ([1, 5, 6] ++ rg 20 45)⟩]
 spec := Xfs
def Xet [W : InW] (i : Int) (qs : Ro tyQ) (ps : Ro Jc) (all : Int) (A : List Ed -> Prop) (K : Nat -> List Ed -> Prop) : Prop :=
 Vif (decide (i < (↑(qs.xs.length) : Int))) (Need (decide (0 <= i) && decide (i < (↑(qs.xs.length) : Int))) (Need (decide (i.toNat < qs.xs.length)) (Ar .i64 ((↑(ps.xs.length) : Int) - 1) fun z => Pre True (Vif (!Sp.inr (cel qs.xs i.toNat (0 : Nat)).int (0 : Int) z) (K (0+1) [.i i, .i (4 : Int)]) (Pre True (Vif (!Sp.inr (cel qs.xs i.toNat (0+1)).int (2 : Int) (4 : Int)) (K (0+1) [.i i, .i (7 : Int)]) (Ar .i64 ((cel qs.xs i.toNat (0+1)).int - 1) fun z => Pre True (Vif (!Sp.inr (cel qs.xs i.toNat ((0 : Nat) + 1 + 1)).int (0 : Int) z) (K (0+1) [.i i, .i (4 : Int)]) (Pre True (Vif (!Sp.inr (cel qs.xs i.toNat ((0 : Nat) + 1 + 1 + 1)).int (0 : Int) (20 : Int)) (K (0+1) [.i i, .i (7 : Int)]) (Pre True (Vif (!Sp.inr (cel qs.xs i.toNat ((0 : Nat) + 1 + 1 + 1 + 1)).int (0 : Int) (20 : Int)) (K (0+1) [.i i, .i (7 : Int)]) (Ar .i64 (i + 1) fun z => A [.i z, .ro _ qs, .ro _ ps, .i all]))))))))))))) (K 0 [.ro _ qs, .ro _ ps, .i all])
theorem Xme (W : InW) (i qs ps all A K) : Yfc { cxT Try.prog TT T2 1000 50 with fn := 18 } 1000 (Yn7 Try.prog 18 5) (Yd6 84 [(1, .ptr 1 0), (5, .si .i64 i)] ([2, 3, 4, 6] ++ rg 20 45)) [(1, .blk 25 [.rs _ qs, .rs _ ps, .si .i64 all])] (Yug Xhn A K) = Xet i qs ps all A K := by kernel_rfl
def Xgu : Prop := ∀ (W : InW) (body a : Code), (Try.prog.funcs[18]?).bind (·.body) = some body -> a ∈ Yy body -> Yfx a = 5 -> @Ymq W Try.prog a (@Yto W Xhn)
theorem Xn0 (meas : [InW] -> List Ed -> Nat) (hyp_ : ∀ (W : InW) i qs ps all K, Xfs [.i i, .ro _ qs, .ro _ ps, .i all] K -> ∀ A : List Ed -> Prop, (∀ e, meas e < meas [.i i, .ro _ qs, .ro _ ps, .i all] -> Xfs e K -> A e) -> Xet i qs ps all A K) : Xgu :=
 LE.okOf' (fun W => @TT W) (fun W => @Xe W) Xa T2 1000 50 (by kernel_rfl) Xhn (fun W => @meas W) fun W i qs ps all K hs =>
  (Xme W i qs ps all (fun e => meas e < meas [.i i, .ro _ qs, .ro _ ps, .i all] /\ Xfs e K) K).mpr (hyp_ W i qs ps all K hs _ fun e h1 h2 => ⟨h1, h2⟩)
theorem Xgd (np : Nat) (qs : Dt) (i : Nat) : Sp.qErr np qs i = if Sp.inr (cel qs i 0).int 0 ((np : Int) - 1) then (if Sp.inr (cel qs i 1).int 2 4 then (if Sp.inr (cel qs i 2).int 0 ((cel qs i 1).int - 1) then (if Sp.inr (cel qs i 3).int 0 20 && Sp.inr (cel qs i 4).int 0 20 then 0 else 7) else 4) else 7) else 4 := rfl
theorem Xqy : Xgu := Xn0 (fun e => match e with | [.i i, .ro _ qs, _, _] => ((qs.xs.length : Int) - i).toNat | _ => 0) fun W i qs ps all K hs A hA => by
 obtain ⟨⟨h0, h1⟩, hk⟩ := hs;unfold Xet;have hm := qs.len;have hm2 := ps.len;simp only [maxLen] at hm hm2;refine vifd (fun e => ?_) fun e => ?_
 ·rw [show qs.xs.length - i.toNat = (qs.xs.length - (i.toNat + 1)) + 1 by omega] at hk;obtain ⟨g1, g2⟩ := Xdo (K1 := fun j e => K 1 [.i j, .i e]) hk;rw [Int.toNat_of_nonneg h0] at g1;have ez : (i + 1).toNat = i.toNat + 1 := by omega
  have hA' : Sp.qErr ps.xs.length qs.xs i.toNat = 0 -> A [.i (i + 1), .ro _ qs, .ro _ ps, .i all] := fun f => hA _ (by show ((qs.xs.length : Int) - (i + 1)).toNat < ((qs.xs.length : Int) - i).toNat; omega) ⟨⟨by omega, by omega⟩, by rw [ez]; exact g2 f⟩;have bad : ∀ n, Sp.qErr ps.xs.length qs.xs i.toNat = n -> n ≠ 0 -> K 1 [.i i, .i n] := fun n hn h => by rw [<- hn]; exact g1 (by rw [hn]; exact h)
  have eN := Lib.hid (Xgd ps.xs.length qs.xs i.toNat);have i1 := fun h => Sp.inr_iff.1 (show Sp.inr (cel qs.xs i.toNat 1).int 2 4 = true from h);clear g1 g2 hk hA;generalize Sp.qErr ps.xs.length qs.xs i.toNat = E at *;simp only [Nat.zero_add, Nat.reduceAdd]
  repeat' (first | (with_reducible refine ar64 (by have := i1 (by assumption); omega) ?_) | omega | intro _ | with_reducible first | apply vifd | apply vifn | apply vifq | apply Xd | apply Xc | apply vifb | apply vif | apply nedd | apply ned2 | apply ned | apply ar64 | apply Xb | exact True.intro | assumption | rfl | apply And.intro)
  all_goals first | exact bad _ (by rw [eN.out]; simp [*]) (by omega) | exact hA' (by rw [eN.out]; simp [*]) | (have := i1 (by assumption); omega) | skip
  all_goals trace_state
 ·rw [show qs.xs.length - i.toNat = 0 by omega] at hk;exact hk.2 rfl
noncomputable def Xrv : LE Try.prog := ⟨18, 5, fun W => @Yto W Xhn, Xqy⟩
def Xft [InW] (e : List Ed) (K : Nat -> List Ed -> Prop) : Prop := match e with
 | [.i i, .ro _ qs, .ro _ ps, .i all] => Pre (0 <= i /\ i <= ps.xs.length) (Vif (Sp.hasE (Sp.pErr ps.xs) i.toNat (ps.xs.length - i.toNat))
   (K 1 [.i (Sp.idxE (Sp.pErr ps.xs) i.toNat (ps.xs.length - i.toNat)), .i (Sp.pErr ps.xs (Sp.idxE (Sp.pErr ps.xs) i.toNat (ps.xs.length - i.toNat)))]) (K 0 [.ro _ qs, .ro _ ps, .i all]))
 | _ => False
noncomputable def Xho : LC where
 len := 84
 T := [(1, (.ptr 1 0)), (7, .int .i64)]
 H := [(1, .blk 25 [.rs tyQ, .rs Jc, .int .i64])]
 W := ([2, 3, 4] ++ rg 65 15)
 outs := [⟨.exit 2, [(1, (.ptr 1 0))], [(1, .blk 25 [.rs tyQ, .rs Jc, .int .i64])], ([2, 3, 4, 7] ++ rg 65 15)⟩, ⟨.ret, [(2, (.lit (.int .i64 3))), (3, .int .i64), (4, .int .i64)], [], ([1, 7] ++ rg 65 15)⟩]
 spec := Xft
def Xeu [W : InW] (i : Int) (qs : Ro tyQ) (ps : Ro Jc) (all : Int) (A : List Ed -> Prop) (K : Nat -> List Ed -> Prop) : Prop :=
 Vif (decide (i < (↑(ps.xs.length) : Int))) (Need (decide (0 <= i) && decide (i < (↑(ps.xs.length) : Int))) (Need (decide (i.toNat < ps.xs.length)) (Pre True (Vif (!Sp.inr (cel ps.xs i.toNat (0 : Nat)).int (-240 : Int) (240 : Int)) (K (0+1) [.i i, .i (7 : Int)]) (Ar .i64 (i + 1) fun z => A [.i z, .ro _ qs, .ro _ ps, .i all]))))) (K 0 [.ro _ qs, .ro _ ps, .i all])
theorem Xmf (W : InW) (i qs ps all A K) : Yfc { cxT Try.prog TT T2 1000 50 with fn := 18 } 1000 (Yn7 Try.prog 18 17) (Yd6 84 [(1, .ptr 1 0), (7, .si .i64 i)] ([2, 3, 4] ++ rg 65 15)) [(1, .blk 25 [.rs _ qs, .rs _ ps, .si .i64 all])] (Yug Xho A K) = Xeu i qs ps all A K := by kernel_rfl
def Xgv : Prop := ∀ (W : InW) (body a : Code), (Try.prog.funcs[18]?).bind (·.body) = some body -> a ∈ Yy body -> Yfx a = 17 -> @Ymq W Try.prog a (@Yto W Xho)
theorem Xn1 (meas : [InW] -> List Ed -> Nat) (hyp_ : ∀ (W : InW) i qs ps all K, Xft [.i i, .ro _ qs, .ro _ ps, .i all] K -> ∀ A : List Ed -> Prop, (∀ e, meas e < meas [.i i, .ro _ qs, .ro _ ps, .i all] -> Xft e K -> A e) -> Xeu i qs ps all A K) : Xgv :=
 LE.okOf' (fun W => @TT W) (fun W => @Xe W) Xa T2 1000 50 (by kernel_rfl) Xho (fun W => @meas W) fun W i qs ps all K hs =>
  (Xmf W i qs ps all (fun e => meas e < meas [.i i, .ro _ qs, .ro _ ps, .i all] /\ Xft e K) K).mpr (hyp_ W i qs ps all K hs _ fun e h1 h2 => ⟨h1, h2⟩)
theorem Xgg (ps : Dt) (i : Nat) : Sp.pErr ps i = if Sp.inr (cel ps i 0).int (-240) 240 then 0 else 7 := rfl
theorem Xqz : Xgv := Xn1 (fun e => match e with | [.i i, _, .ro _ ps, _] => ((ps.xs.length : Int) - i).toNat | _ => 0) fun W i qs ps all K hs A hA => by
 obtain ⟨⟨h0, h1⟩, hk⟩ := hs;unfold Xeu;have hm := ps.len;simp only [maxLen] at hm;refine vifd (fun e => ?_) fun e => ?_
 ·rw [show ps.xs.length - i.toNat = (ps.xs.length - (i.toNat + 1)) + 1 by omega] at hk;obtain ⟨g1, g2⟩ := Xdo (K1 := fun j e => K 1 [.i j, .i e]) hk;rw [Int.toNat_of_nonneg h0] at g1;have ez : (i + 1).toNat = i.toNat + 1 := by omega
  have hA' : Sp.pErr ps.xs i.toNat = 0 -> A [.i (i + 1), .ro _ qs, .ro _ ps, .i all] := fun f => hA _ (by show ((ps.xs.length : Int) - (i + 1)).toNat < ((ps.xs.length : Int) - i).toNat; omega) ⟨⟨by omega, by omega⟩, by rw [ez]; exact g2 f⟩;have bad : ∀ n, Sp.pErr ps.xs i.toNat = n -> n ≠ 0 -> K 1 [.i i, .i n] := fun n hn h => by rw [<- hn]; exact g1 (by rw [hn]; exact h)
  have eN := Lib.hid (Xgg ps.xs i.toNat);clear g1 g2 hk hA;generalize Sp.pErr ps.xs i.toNat = E at *;simp only [Nat.zero_add, Nat.reduceAdd]
  repeat' (first | omega | intro _ | with_reducible first | apply vifd | apply vifn | apply vifq | apply Xd | apply Xc | apply vifb | apply vif | apply nedd | apply ned2 | apply ned | apply ar64 | apply Xb | exact True.intro | assumption | rfl | apply And.intro)
  all_goals first | exact bad _ (by rw [eN.out]; simp [*]) (by omega) | exact hA' (by rw [eN.out]; simp [*])
 ·rw [show ps.xs.length - i.toNat = 0 by omega] at hk;exact hk.2 rfl
noncomputable def Xrw : LE Try.prog := ⟨18, 17, fun W => @Yto W Xho, Xqz⟩
noncomputable def T3 : Tab Try.prog := ⟨[Xkn, Xdg], [Xrv, Xrw], []⟩
def Zb := (0 : Int)
def Za := Int.toNat Zb
def Xb0 [W : InW] (k_Qs : Ro tyQ) (k_Ps : Ro Jc) (k_All : Int) (Q : DS -> Prop) : Prop :=
 Pre True (Vif (!Sp.inr (↑(k_Qs.xs.length) : Int) (1 : Int) (12 : Int)) (Q [[Cl.i 1], [Cl.i 0], [Cl.i 3]]) (Pre True (Vif (!Sp.inr (↑(k_Ps.xs.length) : Int) (1 : Int) (4 : Int)) (Q [[Cl.i 1], [Cl.i 0], [Cl.i 3]]) (Pre (Zb <= 0 /\ Zb <= (↑(k_Qs.xs.length) : Int)) (Vif (Sp.hasE (Sp.qErr (k_Ps.xs.length) k_Qs.xs) Za (k_Qs.xs.length - Int.toNat Zb)) (Q [[Cl.i 2], [Cl.i (↑(Sp.idxE (Sp.qErr (k_Ps.xs.length) k_Qs.xs) Za (k_Qs.xs.length - Int.toNat Zb)) : Int)], [Cl.i (Sp.qErr (k_Ps.xs.length) k_Qs.xs (Sp.idxE (Sp.qErr (k_Ps.xs.length) k_Qs.xs) Za (k_Qs.xs.length - Int.toNat Zb)))]]) (Pre (Zb <= 0 /\ Zb <= (↑(k_Ps.xs.length) : Int)) (Vif (Sp.hasE (Sp.pErr k_Ps.xs) Za (k_Ps.xs.length - Int.toNat Zb)) (Q [[Cl.i 3], [Cl.i (↑(Sp.idxE (Sp.pErr k_Ps.xs) Za (k_Ps.xs.length - Int.toNat Zb)) : Int)], [Cl.i (Sp.pErr k_Ps.xs (Sp.idxE (Sp.pErr k_Ps.xs) Za (k_Ps.xs.length - Int.toNat Zb)))]]) (Pre True (Vif (!Sp.inr k_All (-240 : Int) (240 : Int)) (Q [[Cl.i 4], [Cl.i 0], [Cl.i 7]]) (Q [[Cl.i 0], [Cl.i 0], [Cl.i 0]]))))))))))
theorem Xh8 (W : InW) (k_Qs k_Ps k_All Q) : Ywr (cxT Try.prog TT T3 1000 50) 1000 18 [.agg [.rs _ k_Qs, .rs _ k_Ps, .si .i64 k_All]] [] 0 (Y01 [(false, [.int .i64]), (false, [.int .i64]), (false, [.int .i64])] Q) (fun _ _ _ _ => Stuck 421) = Xb0 k_Qs k_Ps k_All Q := by kernel_rfl
abbrev X4 : List AT := [.agg [.sl tyQ, .sl Jc, .int .i64]]
theorem Xiv {pre : DS -> Prop} {res : DS -> DS} (hyp_ : ∀ (W : InW) (k_Qs : Ro tyQ) (k_Ps : Ro Jc) (k_All : Int), pre [[.l k_Qs.xs, .l k_Ps.xs, .i k_All]] -> ∀ Q : DS -> Prop, Q (res [[.l k_Qs.xs, .l k_Ps.xs, .i k_All]]) -> Xb0 k_Qs k_Ps k_All Q) : PureOk Try.prog 18 X4 [(false, [.int .i64]), (false, [.int .i64]), (false, [.int .i64])] pre res :=
 PureOk.of' (fun W => @TT W) (fun W => @Xe W) Xa T3 1000 50 fun W k_Qs k_Ps k_All hp =>
  (Xh8 W k_Qs k_Ps k_All (fun o => o = res [[.l k_Qs.xs, .l k_Ps.xs, .i k_All]])).mpr (hyp_ W k_Qs k_Ps k_All hp _ rfl)
theorem Xjd {qs ps : Dt} {all : Int} {Q : Int × Int × Int -> Prop} (h : Q (Sp.chk qs ps all)) :
  let c := Sp.inr qs.length 1 12 && Sp.inr ps.length 1 4
  (c = false -> Q (1, 0, 3)) /\
  (c = true -> Sp.hasE (Sp.qErr ps.length qs) 0 qs.length = true -> Q (2, Sp.idxE (Sp.qErr ps.length qs) 0 qs.length, Sp.qErr ps.length qs (Sp.idxE (Sp.qErr ps.length qs) 0 qs.length))) /\
  (c = true -> Sp.hasE (Sp.qErr ps.length qs) 0 qs.length = false -> Sp.hasE (Sp.pErr ps) 0 ps.length = true -> Q (3, Sp.idxE (Sp.pErr ps) 0 ps.length, Sp.pErr ps (Sp.idxE (Sp.pErr ps) 0 ps.length))) /\
  (c = true -> Sp.hasE (Sp.qErr ps.length qs) 0 qs.length = false -> Sp.hasE (Sp.pErr ps) 0 ps.length = false -> Sp.inr all (-240) 240 = false -> Q (4, 0, 7)) /\
  (c = true -> Sp.hasE (Sp.qErr ps.length qs) 0 qs.length = false -> Sp.hasE (Sp.pErr ps) 0 ps.length = false -> Sp.inr all (-240) 240 = true -> Q (0, 0, 0)) := by
 intro c;unfold Sp.chk at h;refine ⟨fun e => ?_, fun e e1 => ?_, fun e e1 e2 => ?_, fun e e1 e2 e3 => ?_, fun e e1 e2 e3 => ?_⟩
 ·rw [if_neg (by show ¬ c = true; simp [e])] at h; exact h
 ·rw [if_pos (show c = true from e), if_pos e1] at h; exact h
 ·rw [if_pos (show c = true from e), if_neg (by simp [e1]), if_pos e2] at h; exact h
 ·rw [if_pos (show c = true from e), if_neg (by simp [e1]), if_neg (by simp [e2]), if_neg (by simp [e3])] at h; exact h
 ·rw [if_pos (show c = true from e), if_neg (by simp [e1]), if_neg (by simp [e2]), if_pos e3] at h; exact h
theorem Xkq : PureOk Try.prog 18 X4 [(false, [.int .i64]), (false, [.int .i64]), (false, [.int .i64])] (fun _ => True) Xt :=
 Xiv fun W qs ps all hp Q h => by
  unfold Xb0;delta Za Zb;obtain ⟨q0, q1, q2, q3, q4⟩ := Xjd (Q := fun r => Q [[.i r.1], [.i r.2.1], [.i r.2.2]]) h;clear h;simp only [show Int.toNat 0 = 0 from rfl, Nat.sub_zero]
  repeat' (first | omega | intro _ | with_reducible first | apply vifd | apply vifn | apply vifq | apply Xd | apply Xc | apply vifb | apply vif | apply nedd | apply ned2 | apply ned | apply ar64 | apply Xb | exact True.intro | assumption | rfl | apply And.intro)
  all_goals first | exact q4 (by simp [*]) (by assumption) (by assumption) (by assumption) | exact q3 (by simp [*]) (by assumption) (by assumption) (by assumption) | exact q2 (by simp [*]) (by assumption) (by assumption) | exact q1 (by simp [*]) (by assumption) | exact q0 (by simp [*])
noncomputable def Xin : PC Try.prog := ⟨18, X4, [(false, [.int .i64]), (false, [.int .i64]), (false, [.int .i64])], fun _ => True, Xt, Xkq⟩
def Xfx [InW] (e : List Ed) (K : Nat -> List Ed -> Prop) : Prop := match e with
 | [.ro _ q2, .i n, .i i, .ro _ qs, .ro _ ps, .i all] => Pre (0 <= i /\ i <= qs.xs.length /\ n = qs.xs.length /\ q2.xs = qs.xs) (Vif (Sp.hasE (Sp.qErr ps.xs.length qs.xs) i.toNat (qs.xs.length - i.toNat))
   (K 1 [.i (Sp.idxE (Sp.qErr ps.xs.length qs.xs) i.toNat (qs.xs.length - i.toNat)), .i (Sp.qErr ps.xs.length qs.xs (Sp.idxE (Sp.qErr ps.xs.length qs.xs) i.toNat (qs.xs.length - i.toNat)))]) (K 0 [.ro _ qs, .ro _ ps, .i all]))
 | _ => False
noncomputable def Xhs : LC where
 len := 80
 T := [(1, (.ptr 1 0)), (22, .rs tyQ), (23, .int .i64), (24, .int .i64)]
 H := [(1, .blk 25 [.rs tyQ, .rs Jc, .int .i64])]
 W := (rg 2 5 ++ rg 25 38)
 outs := [⟨.exit 0, [(1, (.ptr 1 0))], [(1, .blk 25 [.rs tyQ, .rs Jc, .int .i64])], (rg 2 5 ++ rg 22 41)⟩, ⟨.ret, [(2, (.lit (.int .i64 2))), (3, .int .i64), (4, .int .i64)], [], ([1, 5, 6] ++ rg 22 41)⟩]
 spec := Xfx
def Xey [W : InW] (q2 : Ro tyQ) (n i : Int) (qs : Ro tyQ) (ps : Ro Jc) (all : Int) (A : List Ed -> Prop) (K : Nat -> List Ed -> Prop) : Prop :=
 Vif (decide (i < n)) (Need (decide (0 <= i) && decide (i < (↑(q2.xs.length) : Int))) (Need (decide (i.toNat < q2.xs.length)) (Ar .i64 ((↑(ps.xs.length) : Int) - 1) fun z => Pre True (Vif (Sp.out Zb z [[Cl.i (cel q2.xs i.toNat (0 : Nat)).int]]) (K (0+1) [.i i, .i (4 : Int)]) (Pre True (Vif (Sp.out (2 : Int) (4 : Int) [[Cl.i (cel q2.xs i.toNat (0+1)).int]]) (K (0+1) [.i i, .i (7 : Int)]) (Ar .i64 ((cel q2.xs i.toNat (0+1)).int - 1) fun z => Pre True (Vif (Sp.out Zb z [[Cl.i (cel q2.xs i.toNat ((0 : Nat) + 1 + 1)).int]]) (K (0+1) [.i i, .i (4 : Int)]) (Pre True (Vif (Sp.out Zb (20 : Int) [[Cl.i (cel q2.xs i.toNat ((0 : Nat) + 1 + 1 + 1)).int], [Cl.i (cel q2.xs i.toNat ((0 : Nat) + 1 + 1 + 1 + 1)).int]]) (K (0+1) [.i i, .i (7 : Int)]) (Ar .i64 (i + 1) fun z => A [.ro _ q2, .i n, .i z, .ro _ qs, .ro _ ps, .i all]))))))))))) (K 0 [.ro _ qs, .ro _ ps, .i all])
theorem Xmj (W : InW) (q2 n i qs ps all A K) : Yfc { cxT Try.prog TT T2 1000 50 with fn := 17 } 1000 (Yn7 Try.prog 17 5) (Yd6 80 [(1, .ptr 1 0), (22, .rs _ q2), (23, .si .i64 n), (24, .si .i64 i)] (rg 2 5 ++ rg 25 38)) [(1, .blk 25 [.rs _ qs, .rs _ ps, .si .i64 all])] (Yug Xhs A K) = Xey q2 n i qs ps all A K := by kernel_rfl
def Xgz : Prop := ∀ (W : InW) (body a : Code), (Try.prog.funcs[17]?).bind (·.body) = some body -> a ∈ Yy body -> Yfx a = 5 -> @Ymq W Try.prog a (@Yto W Xhs)
theorem Xn5 (meas : [InW] -> List Ed -> Nat) (hyp_ : ∀ (W : InW) q2 n i qs ps all K, Xfx [.ro _ q2, .i n, .i i, .ro _ qs, .ro _ ps, .i all] K -> ∀ A : List Ed -> Prop, (∀ e, meas e < meas [.ro _ q2, .i n, .i i, .ro _ qs, .ro _ ps, .i all] -> Xfx e K -> A e) -> Xey q2 n i qs ps all A K) : Xgz :=
 LE.okOf' (fun W => @TT W) (fun W => @Xe W) Xa T2 1000 50 (by kernel_rfl) Xhs (fun W => @meas W) fun W q2 n i qs ps all K hs =>
  (Xmj W q2 n i qs ps all (fun e => meas e < meas [.ro _ q2, .i n, .i i, .ro _ qs, .ro _ ps, .i all] /\ Xfx e K) K).mpr (hyp_ W q2 n i qs ps all K hs _ fun e h1 h2 => ⟨h1, h2⟩)
theorem Xq3 : Xgz := Xn5 (fun e => match e with | [_, _, .i i, .ro _ qs, _, _] => ((qs.xs.length : Int) - i).toNat | _ => 0) fun W q2 n i qs ps all K hs A hA => by
 obtain ⟨⟨h0, h1, rfl, hq⟩, hk⟩ := hs;unfold Xey;delta Zb;have hm := qs.len;have hm2 := ps.len;simp only [maxLen] at hm hm2;refine vifd (fun e => ?_) fun e => ?_
 ·rw [show qs.xs.length - i.toNat = (qs.xs.length - (i.toNat + 1)) + 1 by omega] at hk;obtain ⟨g1, g2⟩ := Xdo (K1 := fun j e => K 1 [.i j, .i e]) hk;rw [Int.toNat_of_nonneg h0] at g1;have ez : (i + 1).toNat = i.toNat + 1 := by omega
  have hA' : Sp.qErr ps.xs.length qs.xs i.toNat = 0 -> A [.ro _ q2, .i qs.xs.length, .i (i + 1), .ro _ qs, .ro _ ps, .i all] := fun f => hA _ (by show ((qs.xs.length : Int) - (i + 1)).toNat < ((qs.xs.length : Int) - i).toNat; omega) ⟨⟨by omega, by omega, rfl, hq⟩, by rw [ez]; exact g2 f⟩;have bad : ∀ n, Sp.qErr ps.xs.length qs.xs i.toNat = n -> n ≠ 0 -> K 1 [.i i, .i n] := fun n hn h => by rw [<- hn]; exact g1 (by rw [hn]; exact h)
  have eN := Lib.hid (Xgd ps.xs.length qs.xs i.toNat);have i1 := fun h => Sp.inr_iff.1 (show Sp.inr (cel qs.xs i.toNat 1).int 2 4 = true from h);clear g1 g2 hk hA;generalize Sp.qErr ps.xs.length qs.xs i.toNat = E at *;have hl2 : q2.xs.length = qs.xs.length := by rw [hq]
  simp only [Nat.zero_add, Nat.reduceAdd, out1, out2, hq]
  repeat' (first | (with_reducible refine ar64 (by have := i1 (by assumption); omega) ?_) | omega | intro _ | with_reducible first | apply vifd | apply vifn | apply vifq | apply Xd | apply Xc | apply vifb | apply vif | apply nedd | apply ned2 | apply ned | apply ar64 | apply Xb | exact True.intro | assumption | rfl | apply And.intro)
  all_goals first | (refine bad 7 ?_ (by omega); rw [eN.out]; simp_all; done) | (refine bad 4 ?_ (by omega); rw [eN.out]; simp_all; done) | (refine hA' ?_; rw [eN.out]; simp_all; done) | (refine bad 7 ?_ (by omega); rw [eN.out]; simp_all; grind)
 ·rw [show qs.xs.length - i.toNat = 0 by omega] at hk;exact hk.2 rfl
noncomputable def Xr0 : LE Try.prog := ⟨17, 5, fun W => @Yto W Xhs, Xq3⟩
def Xfy [InW] (e : List Ed) (K : Nat -> List Ed -> Prop) : Prop := match e with
 | [.ro _ q2, .i n, .i i, .ro _ qs, .ro _ ps, .i all] => Pre (0 <= i /\ i <= ps.xs.length /\ n = ps.xs.length /\ q2.xs = ps.xs) (Vif (Sp.hasE (Sp.pErr ps.xs) i.toNat (ps.xs.length - i.toNat))
   (K 1 [.i (Sp.idxE (Sp.pErr ps.xs) i.toNat (ps.xs.length - i.toNat)), .i (Sp.pErr ps.xs (Sp.idxE (Sp.pErr ps.xs) i.toNat (ps.xs.length - i.toNat)))]) (K 0 [.ro _ qs, .ro _ ps, .i all]))
 | _ => False
noncomputable def Xht : LC where
 len := 80
 T := [(1, (.ptr 1 0)), (64, .rs Jc), (65, .int .i64), (66, .int .i64)]
 H := [(1, .blk 25 [.rs tyQ, .rs Jc, .int .i64])]
 W := ([2, 3, 4, 7, 8] ++ rg 67 9)
 outs := [⟨.exit 3, [(1, (.ptr 1 0))], [(1, .blk 25 [.rs tyQ, .rs Jc, .int .i64])], ([2, 3, 4, 7, 8] ++ rg 64 12)⟩, ⟨.ret, [(2, (.lit (.int .i64 3))), (3, .int .i64), (4, .int .i64)], [], ([1, 7, 8] ++ rg 64 12)⟩]
 spec := Xfy
def Xez [W : InW] (q2 : Ro Jc) (n i : Int) (qs : Ro tyQ) (ps : Ro Jc) (all : Int) (A : List Ed -> Prop) (K : Nat -> List Ed -> Prop) : Prop :=
 Vif (decide (i < n)) (Need (decide (0 <= i) && decide (i < (↑(q2.xs.length) : Int))) (Need (decide (i.toNat < q2.xs.length)) (Pre True (Vif (Sp.out (-240 : Int) (240 : Int) [[Cl.i (cel q2.xs i.toNat (0 : Nat)).int]]) (K (0+1) [.i i, .i (7 : Int)]) (Ar .i64 (i + 1) fun z => A [.ro _ q2, .i n, .i z, .ro _ qs, .ro _ ps, .i all]))))) (K 0 [.ro _ qs, .ro _ ps, .i all])
theorem Xmk (W : InW) (q2 n i qs ps all A K) : Yfc { cxT Try.prog TT T2 1000 50 with fn := 17 } 1000 (Yn7 Try.prog 17 17) (Yd6 80 [(1, .ptr 1 0), (64, .rs _ q2), (65, .si .i64 n), (66, .si .i64 i)] ([2, 3, 4, 7, 8] ++ rg 67 9)) [(1, .blk 25 [.rs _ qs, .rs _ ps, .si .i64 all])] (Yug Xht A K) = Xez q2 n i qs ps all A K := by kernel_rfl
def Xg0 : Prop := ∀ (W : InW) (body a : Code), (Try.prog.funcs[17]?).bind (·.body) = some body -> a ∈ Yy body -> Yfx a = 17 -> @Ymq W Try.prog a (@Yto W Xht)
theorem Xn6 (meas : [InW] -> List Ed -> Nat) (hyp_ : ∀ (W : InW) q2 n i qs ps all K, Xfy [.ro _ q2, .i n, .i i, .ro _ qs, .ro _ ps, .i all] K -> ∀ A : List Ed -> Prop, (∀ e, meas e < meas [.ro _ q2, .i n, .i i, .ro _ qs, .ro _ ps, .i all] -> Xfy e K -> A e) -> Xez q2 n i qs ps all A K) : Xg0 :=
 LE.okOf' (fun W => @TT W) (fun W => @Xe W) Xa T2 1000 50 (by kernel_rfl) Xht (fun W => @meas W) fun W q2 n i qs ps all K hs =>
  (Xmk W q2 n i qs ps all (fun e => meas e < meas [.ro _ q2, .i n, .i i, .ro _ qs, .ro _ ps, .i all] /\ Xfy e K) K).mpr (hyp_ W q2 n i qs ps all K hs _ fun e h1 h2 => ⟨h1, h2⟩)
theorem Xq4 : Xg0 := Xn6 (fun e => match e with | [_, _, .i i, _, .ro _ ps, _] => ((ps.xs.length : Int) - i).toNat | _ => 0) fun W q2 n i qs ps all K hs A hA => by
 obtain ⟨⟨h0, h1, rfl, hq⟩, hk⟩ := hs;unfold Xez;have hm := ps.len;simp only [maxLen] at hm;refine vifd (fun e => ?_) fun e => ?_
 ·rw [show ps.xs.length - i.toNat = (ps.xs.length - (i.toNat + 1)) + 1 by omega] at hk;obtain ⟨g1, g2⟩ := Xdo (K1 := fun j e => K 1 [.i j, .i e]) hk;rw [Int.toNat_of_nonneg h0] at g1;have ez : (i + 1).toNat = i.toNat + 1 := by omega
  have hA' : Sp.pErr ps.xs i.toNat = 0 -> A [.ro _ q2, .i ps.xs.length, .i (i + 1), .ro _ qs, .ro _ ps, .i all] := fun f => hA _ (by show ((ps.xs.length : Int) - (i + 1)).toNat < ((ps.xs.length : Int) - i).toNat; omega) ⟨⟨by omega, by omega, rfl, hq⟩, by rw [ez]; exact g2 f⟩;have bad : ∀ n, Sp.pErr ps.xs i.toNat = n -> n ≠ 0 -> K 1 [.i i, .i n] := fun n hn h => by rw [<- hn]; exact g1 (by rw [hn]; exact h)
  have eN := Lib.hid (Xgg ps.xs i.toNat);clear g1 g2 hk hA;generalize Sp.pErr ps.xs i.toNat = E at *;have hl2 : q2.xs.length = ps.xs.length := by rw [hq]
  simp only [Nat.zero_add, Nat.reduceAdd, out1, hq]
  repeat' (first | omega | intro _ | with_reducible first | apply vifd | apply vifn | apply vifq | apply Xd | apply Xc | apply vifb | apply vif | apply nedd | apply ned2 | apply ned | apply ar64 | apply Xb | exact True.intro | assumption | rfl | apply And.intro)
  all_goals first | exact bad _ (by rw [eN.out]; simp_all) (by omega) | exact hA' (by rw [eN.out]; simp_all)
 ·rw [show ps.xs.length - i.toNat = 0 by omega] at hk;exact hk.2 rfl
noncomputable def Xr1 : LE Try.prog := ⟨17, 17, fun W => @Yto W Xht, Xq4⟩
noncomputable def T4 : Tab Try.prog := ⟨[Xdf], [Xr0, Xr1], []⟩
def Xb2 [W : InW] (k_Qs : Ro tyQ) (k_Ps : Ro Jc) (k_All : Int) (Q : DS -> Prop) : Prop :=
 Pre True (Vif (Sp.out (1 : Int) (12 : Int) [[Cl.i (↑(k_Qs.xs.length) : Int)]]) (Q [[Cl.i 1], [Cl.i 0], [Cl.i 3]]) (Pre True (Vif (Sp.out (1 : Int) (4 : Int) [[Cl.i (↑(k_Ps.xs.length) : Int)]]) (Q [[Cl.i 1], [Cl.i 0], [Cl.i 3]]) (Pre (Zb <= 0 /\ Zb <= (↑(k_Qs.xs.length) : Int) /\ (↑(k_Qs.xs.length) : Int) = (↑(k_Qs.xs.length) : Int) /\ k_Qs.xs = k_Qs.xs) (Vif (Sp.hasE (Sp.qErr (k_Ps.xs.length) k_Qs.xs) Za (k_Qs.xs.length - Int.toNat Zb)) (Q [[Cl.i 2], [Cl.i (↑(Sp.idxE (Sp.qErr (k_Ps.xs.length) k_Qs.xs) Za (k_Qs.xs.length - Int.toNat Zb)) : Int)], [Cl.i (Sp.qErr (k_Ps.xs.length) k_Qs.xs (Sp.idxE (Sp.qErr (k_Ps.xs.length) k_Qs.xs) Za (k_Qs.xs.length - Int.toNat Zb)))]]) (Pre (Zb <= 0 /\ Zb <= (↑(k_Ps.xs.length) : Int) /\ (↑(k_Ps.xs.length) : Int) = (↑(k_Ps.xs.length) : Int) /\ k_Ps.xs = k_Ps.xs) (Vif (Sp.hasE (Sp.pErr k_Ps.xs) Za (k_Ps.xs.length - Int.toNat Zb)) (Q [[Cl.i 3], [Cl.i (↑(Sp.idxE (Sp.pErr k_Ps.xs) Za (k_Ps.xs.length - Int.toNat Zb)) : Int)], [Cl.i (Sp.pErr k_Ps.xs (Sp.idxE (Sp.pErr k_Ps.xs) Za (k_Ps.xs.length - Int.toNat Zb)))]]) (Pre True (Vif (Sp.out (-240 : Int) (240 : Int) [[Cl.i k_All]]) (Q [[Cl.i 4], [Cl.i 0], [Cl.i 7]]) (Q [[Cl.i 0], [Cl.i 0], [Cl.i 0]]))))))))))
theorem Xia (W : InW) (k_Qs k_Ps k_All Q) : Ywr (cxT Try.prog TT T4 1000 50) 1000 17 [.agg [.rs _ k_Qs, .rs _ k_Ps, .si .i64 k_All]] [] 0 (Y01 [(false, [.int .i64]), (false, [.int .i64]), (false, [.int .i64])] Q) (fun _ _ _ _ => Stuck 421) = Xb2 k_Qs k_Ps k_All Q := by kernel_rfl
abbrev X6 : List AT := [.agg [.sl tyQ, .sl Jc, .int .i64]]
theorem Xix {pre : DS -> Prop} {res : DS -> DS} (hyp_ : ∀ (W : InW) (k_Qs : Ro tyQ) (k_Ps : Ro Jc) (k_All : Int), pre [[.l k_Qs.xs, .l k_Ps.xs, .i k_All]] -> ∀ Q : DS -> Prop, Q (res [[.l k_Qs.xs, .l k_Ps.xs, .i k_All]]) -> Xb2 k_Qs k_Ps k_All Q) : PureOk Try.prog 17 X6 [(false, [.int .i64]), (false, [.int .i64]), (false, [.int .i64])] pre res :=
 PureOk.of' (fun W => @TT W) (fun W => @Xe W) Xa T4 1000 50 fun W k_Qs k_Ps k_All hp =>
  (Xia W k_Qs k_Ps k_All (fun o => o = res [[.l k_Qs.xs, .l k_Ps.xs, .i k_All]])).mpr (hyp_ W k_Qs k_Ps k_All hp _ rfl)
theorem Xkt : PureOk Try.prog 17 X6 [(false, [.int .i64]), (false, [.int .i64]), (false, [.int .i64])] (fun _ => True) Xt :=
 Xix fun W qs ps all hp Q h => by
  unfold Xb2;delta Za Zb;obtain ⟨q0, q1, q2, q3, q4⟩ := Xjd (Q := fun r => Q [[.i r.1], [.i r.2.1], [.i r.2.2]]) h;clear h;simp only [show Int.toNat 0 = 0 from rfl, Nat.sub_zero, out1]
  repeat' (first | omega | intro _ | with_reducible first | apply vifd | apply vifn | apply vifq | apply Xd | apply Xc | apply vifb | apply vif | apply nedd | apply ned2 | apply ned | apply ar64 | apply Xb | exact True.intro | assumption | rfl | apply And.intro)
  all_goals first | exact q4 (by simp [*]) (by assumption) (by assumption) (by assumption) | exact q3 (by simp [*]) (by assumption) (by assumption) (by assumption) | exact q2 (by simp [*]) (by assumption) (by assumption) | exact q1 (by simp [*]) (by assumption) | exact q0 (by simp [*])
noncomputable def Xbn : PC Try.prog := ⟨17, X6, [(false, [.int .i64]), (false, [.int .i64]), (false, [.int .i64])], fun _ => True, Xt, Xkt⟩
open Go.RowKit
set_option maxRecDepth 100000
set_option maxHeartbeats 1600000
abbrev Xi (ds : DS) : DS := [[.b true]]
abbrev Xn (ds : DS) : Prop := match ds with | [[.l a], [.l b]] => a = b | _ => False
abbrev Xde (ds : DS) : Prop := match ds with | [[.l a, .l p, .i n], [.l b, .l q, .i m]] => a = b /\ p = q /\ n = m | _ => False
def Xdp [InW] (ts : List Ty) (e : List Ed) (K : Nat -> List Ed -> Prop) : Prop := match e with
 | [.ro _ a, .ro _ b, .i i] => Pre (0 <= i /\ i <= a.xs.length /\ a.xs = b.xs) (K 0 [])
 | _ => False
def Xce [InW] (e : List Ed) (K : Nat -> List Ed -> Prop) : Prop := Xdp [] e K
def Xbe [InW] (e : List Ed) (K : Nat -> List Ed -> Prop) : Prop := Xdp [] e K
def Xbd [InW] (e : List Ed) (K : Nat -> List Ed -> Prop) : Prop := Xdp [] e K
noncomputable def Xcn : LC where
 len := 26
 T := [(0, .rs Jc), (1, .rs Jc), (5, .int .i64)]
 H := []
 W := ([4] ++ rg 11 15)
 outs := [⟨.exit 0, [], [], ([0, 1, 4, 5] ++ rg 11 15)⟩, ⟨.ret, [(4, (.lit (.bool false)))], [], ([0, 1, 5] ++ rg 11 15)⟩]
 spec := Xce
def Xc8 [W : InW] (a b : Ro Jc) (i : Int) (A : List Ed -> Prop) (K : Nat -> List Ed -> Prop) : Prop :=
 Vif (decide (i < (↑(a.xs.length) : Int))) (Need (decide (0 <= i) && decide (i < (↑(a.xs.length) : Int))) (Need (decide (i.toNat < a.xs.length)) (Need (decide (0 <= i) && decide (i < (↑(b.xs.length) : Int))) (Need (decide (i.toNat < b.xs.length)) (Vif (!decide ((cel a.xs i.toNat (0 : Nat)).int = (cel b.xs i.toNat (0 : Nat)).int)) (K (0+1) []) (Ar .i64 (i + 1) fun z => A [.ro _ a, .ro _ b, .i z])))))) (K 0 [])
theorem Xj0 (W : InW) (a b i A K) : Yfc { cxT Try.prog TT T0 1000 50 with fn := 21 } 1000 (Yn7 Try.prog 21 5) (Yd6 26 [(0, .rs _ a), (1, .rs _ b), (5, .si .i64 i)] ([4] ++ rg 11 15)) [] (Yug Xcn A K) = Xc8 a b i A K := by kernel_rfl
def Xdj : Prop := ∀ (W : InW) (body a : Code), (Try.prog.funcs[21]?).bind (·.body) = some body -> a ∈ Yy body -> Yfx a = 5 -> @Ymq W Try.prog a (@Yto W Xcn)
theorem Xky (meas : [InW] -> List Ed -> Nat) (hyp_ : ∀ (W : InW) a b i K, Xce [.ro _ a, .ro _ b, .i i] K -> ∀ A : List Ed -> Prop, (∀ e, meas e < meas [.ro _ a, .ro _ b, .i i] -> Xce e K -> A e) -> Xc8 a b i A K) : Xdj :=
 LE.okOf' (fun W => @TT W) (fun W => @Xe W) Xa T0 1000 50 (by kernel_rfl) Xcn (fun W => @meas W) fun W a b i K hs =>
  (Xj0 W a b i (fun e => meas e < meas [.ro _ a, .ro _ b, .i i] /\ Xce e K) K).mpr (hyp_ W a b i K hs _ fun e h1 h2 => ⟨h1, h2⟩)
theorem Xo2 : Xdj := Xky (fun e => match e with | [.ro _ a, _, .i i] => ((a.xs.length : Int) - i).toNat | _ => 0) fun W a b i K hs A hA => by
 obtain ⟨⟨h0, h1, h2⟩, hk⟩ := hs; have hm := a.len; simp only [maxLen] at hm; have hA' := hA [.ro _ a, .ro _ b, .i (i + 1)]; have hlt : i < a.xs.length -> ((a.xs.length : Int) - (i + 1)).toNat < ((a.xs.length : Int) - i).toNat := by omega
 have hl : a.xs.length = b.xs.length := by rw [h2]
 unfold Xc8;simp only [Nat.zero_add, Nat.reduceAdd, h2]
 repeat' (first | omega | intro _ | with_reducible first | apply vifd | apply vifn | apply vifq | apply Xd | apply Xc | apply vifb | apply vif | apply nedd | apply ned2 | apply ned | apply ar64 | apply Xb | exact True.intro | assumption | rfl | apply And.intro)
 all_goals first | exact hk | (exact hA' (hlt (by omega)) ⟨⟨by omega, by omega, h2⟩, hk⟩) | simp_all
noncomputable def Xpb : LE Try.prog := ⟨21, 5, fun W => @Yto W Xcn, Xo2⟩
noncomputable def Xbi : LC where
 len := 26
 T := [(0, .rs Ja), (1, .rs Ja), (5, .int .i64)]
 H := []
 W := ([4] ++ rg 11 15)
 outs := [⟨.exit 0, [], [], ([0, 1, 4, 5] ++ rg 11 15)⟩, ⟨.ret, [(4, (.lit (.bool false)))], [], ([0, 1, 5] ++ rg 11 15)⟩]
 spec := Xbe
def Xb5 [W : InW] (a b : Ro Ja) (i : Int) (A : List Ed -> Prop) (K : Nat -> List Ed -> Prop) : Prop :=
 Vif (decide (i < (↑(a.xs.length) : Int))) (Need (decide (0 <= i) && decide (i < (↑(a.xs.length) : Int))) (Need (decide (i.toNat < a.xs.length)) (Need (decide (0 <= i) && decide (i < (↑(b.xs.length) : Int))) (Need (decide (i.toNat < b.xs.length)) (Vif (!(decide ((cel a.xs i.toNat (0 : Nat)).int = (cel b.xs i.toNat (0 : Nat)).int) && (decide ((cel a.xs i.toNat (0+1)).int = (cel b.xs i.toNat (0+1)).int) && true))) (K (0+1) []) (Ar .i64 (i + 1) fun z => A [.ro _ a, .ro _ b, .i z])))))) (K 0 [])
theorem Xh7 (W : InW) (a b i A K) : Yfc { cxT Try.prog TT T0 1000 50 with fn := 29 } 1000 (Yn7 Try.prog 29 5) (Yd6 26 [(0, .rs _ a), (1, .rs _ b), (5, .si .i64 i)] ([4] ++ rg 11 15)) [] (Yug Xbi A K) = Xb5 a b i A K := by kernel_rfl
def Xca : Prop := ∀ (W : InW) (body a : Code), (Try.prog.funcs[29]?).bind (·.body) = some body -> a ∈ Yy body -> Yfx a = 5 -> @Ymq W Try.prog a (@Yto W Xbi)
theorem Xiu (meas : [InW] -> List Ed -> Nat) (hyp_ : ∀ (W : InW) a b i K, Xbe [.ro _ a, .ro _ b, .i i] K -> ∀ A : List Ed -> Prop, (∀ e, meas e < meas [.ro _ a, .ro _ b, .i i] -> Xbe e K -> A e) -> Xb5 a b i A K) : Xca :=
 LE.okOf' (fun W => @TT W) (fun W => @Xe W) Xa T0 1000 50 (by kernel_rfl) Xbi (fun W => @meas W) fun W a b i K hs =>
  (Xh7 W a b i (fun e => meas e < meas [.ro _ a, .ro _ b, .i i] /\ Xbe e K) K).mpr (hyp_ W a b i K hs _ fun e h1 h2 => ⟨h1, h2⟩)
theorem Xlb : Xca := Xiu (fun e => match e with | [.ro _ a, _, .i i] => ((a.xs.length : Int) - i).toNat | _ => 0) fun W a b i K hs A hA => by
 obtain ⟨⟨h0, h1, h2⟩, hk⟩ := hs; have hm := a.len; simp only [maxLen] at hm; have hA' := hA [.ro _ a, .ro _ b, .i (i + 1)]; have hlt : i < a.xs.length -> ((a.xs.length : Int) - (i + 1)).toNat < ((a.xs.length : Int) - i).toNat := by omega
 have hl : a.xs.length = b.xs.length := by rw [h2]
 unfold Xb5;simp only [Nat.zero_add, Nat.reduceAdd, h2]
 repeat' (first | omega | intro _ | with_reducible first | apply vifd | apply vifn | apply vifq | apply Xd | apply Xc | apply vifb | apply vif | apply nedd | apply ned2 | apply ned | apply ar64 | apply Xb | exact True.intro | assumption | rfl | apply And.intro)
 all_goals first | exact hk | (exact hA' (hlt (by omega)) ⟨⟨by omega, by omega, h2⟩, hk⟩) | simp_all
noncomputable def Xld : LE Try.prog := ⟨29, 5, fun W => @Yto W Xbi, Xlb⟩
noncomputable def Xbh : LC where
 len := 26
 T := [(0, .rs Ja), (1, .rs Ja), (5, .int .i64)]
 H := []
 W := ([4] ++ rg 11 15)
 outs := [⟨.exit 0, [], [], ([0, 1, 4, 5] ++ rg 11 15)⟩, ⟨.ret, [(4, (.lit (.bool false)))], [], ([0, 1, 5] ++ rg 11 15)⟩]
 spec := Xbd
def Xb4 [W : InW] (a b : Ro Ja) (i : Int) (A : List Ed -> Prop) (K : Nat -> List Ed -> Prop) : Prop :=
 Vif (decide (i < (↑(a.xs.length) : Int))) (Need (decide (0 <= i) && decide (i < (↑(a.xs.length) : Int))) (Need (decide (i.toNat < a.xs.length)) (Need (decide (0 <= i) && decide (i < (↑(b.xs.length) : Int))) (Need (decide (i.toNat < b.xs.length)) (Vif (!(decide ((cel a.xs i.toNat (0 : Nat)).int = (cel b.xs i.toNat (0 : Nat)).int) && (decide ((cel a.xs i.toNat (0+1)).int = (cel b.xs i.toNat (0+1)).int) && true))) (K (0+1) []) (Ar .i64 (i + 1) fun z => A [.ro _ a, .ro _ b, .i z])))))) (K 0 [])
theorem Xh6 (W : InW) (a b i A K) : Yfc { cxT Try.prog TT T0 1000 50 with fn := 37 } 1000 (Yn7 Try.prog 37 5) (Yd6 26 [(0, .rs _ a), (1, .rs _ b), (5, .si .i64 i)] ([4] ++ rg 11 15)) [] (Yug Xbh A K) = Xb4 a b i A K := by kernel_rfl
def Xb9 : Prop := ∀ (W : InW) (body a : Code), (Try.prog.funcs[37]?).bind (·.body) = some body -> a ∈ Yy body -> Yfx a = 5 -> @Ymq W Try.prog a (@Yto W Xbh)
theorem Xit (meas : [InW] -> List Ed -> Nat) (hyp_ : ∀ (W : InW) a b i K, Xbd [.ro _ a, .ro _ b, .i i] K -> ∀ A : List Ed -> Prop, (∀ e, meas e < meas [.ro _ a, .ro _ b, .i i] -> Xbd e K -> A e) -> Xb4 a b i A K) : Xb9 :=
 LE.okOf' (fun W => @TT W) (fun W => @Xe W) Xa T0 1000 50 (by kernel_rfl) Xbh (fun W => @meas W) fun W a b i K hs =>
  (Xh6 W a b i (fun e => meas e < meas [.ro _ a, .ro _ b, .i i] /\ Xbd e K) K).mpr (hyp_ W a b i K hs _ fun e h1 h2 => ⟨h1, h2⟩)
theorem Xla : Xb9 := Xit (fun e => match e with | [.ro _ a, _, .i i] => ((a.xs.length : Int) - i).toNat | _ => 0) fun W a b i K hs A hA => by
 obtain ⟨⟨h0, h1, h2⟩, hk⟩ := hs; have hm := a.len; simp only [maxLen] at hm; have hA' := hA [.ro _ a, .ro _ b, .i (i + 1)]; have hlt : i < a.xs.length -> ((a.xs.length : Int) - (i + 1)).toNat < ((a.xs.length : Int) - i).toNat := by omega
 have hl : a.xs.length = b.xs.length := by rw [h2]
 unfold Xb4;simp only [Nat.zero_add, Nat.reduceAdd, h2]
 repeat' (first | omega | intro _ | with_reducible first | apply vifd | apply vifn | apply vifq | apply Xd | apply Xc | apply vifb | apply vif | apply nedd | apply ned2 | apply ned | apply ar64 | apply Xb | exact True.intro | assumption | rfl | apply And.intro)
 all_goals first | exact hk | (exact hA' (hlt (by omega)) ⟨⟨by omega, by omega, h2⟩, hk⟩) | simp_all
noncomputable def Xlc : LE Try.prog := ⟨37, 5, fun W => @Yto W Xbh, Xla⟩
noncomputable def T5 : Tab Try.prog := ⟨[], [Xpb, Xld, Xlc], []⟩
def Xef [W : InW] (a b : Ro Jc) (Q : DS -> Prop) : Prop :=
 Vif (!decide ((↑(a.xs.length) : Int) = (↑(b.xs.length) : Int))) (Q [[Cl.b false]]) (Pre ((0 : Int) <= 0 /\ (0 : Int) <= (↑(a.xs.length) : Int) /\ a.xs = b.xs) (Q [[Cl.b true]]))
theorem Xnb (W : InW) (a b Q) : Ywr (cxT Try.prog TT T5 1000 50) 1000 21 [.rs _ a, .rs _ b] [] 0 (Y01 [(false, [.bool])] Q) (fun _ _ _ _ => Stuck 421) = Xef a b Q := by kernel_rfl
abbrev Xcz : List AT := [.one (.sl Jc), .one (.sl Jc)]
theorem Xoz {pre : DS -> Prop} {res : DS -> DS} (hyp_ : ∀ (W : InW) (a b : Ro Jc), pre [[.l a.xs], [.l b.xs]] -> ∀ Q : DS -> Prop, Q (res [[.l a.xs], [.l b.xs]]) -> Xef a b Q) : PureOk Try.prog 21 Xcz [(false, [.bool])] pre res :=
 PureOk.of' (fun W => @TT W) (fun W => @Xe W) Xa T5 1000 50 fun W a b hp =>
  (Xnb W a b (fun o => o = res [[.l a.xs], [.l b.xs]])).mpr (hyp_ W a b hp _ rfl)
theorem Xqe : PureOk Try.prog 21 Xcz [(false, [.bool])] Xn Xi :=
 Xoz fun W a b hp Q h => by
  have hp : a.xs = b.xs := hp;have hl : a.xs.length = b.xs.length := by rw [hp]
  unfold Xef;simp only [hl, show Int.toNat 0 = 0 from rfl]
  repeat' (first | omega | intro _ | with_reducible first | apply vifd | apply vifn | apply vifq | apply Xd | apply Xc | apply vifb | apply vif | apply nedd | apply ned2 | apply ned | apply ar64 | apply Xb | exact True.intro | assumption | rfl | apply And.intro)
  all_goals first | exact h | exact ⟨⟨by omega, by omega, hp⟩, h⟩ | simp_all
noncomputable def Xcj : PC Try.prog := ⟨21, Xcz, [(false, [.bool])], Xn, Xi, Xqe⟩
def Xc4 [W : InW] (a b : Ro Ja) (Q : DS -> Prop) : Prop :=
 Vif (!decide ((↑(a.xs.length) : Int) = (↑(b.xs.length) : Int))) (Q [[Cl.b false]]) (Pre ((0 : Int) <= 0 /\ (0 : Int) <= (↑(a.xs.length) : Int) /\ a.xs = b.xs) (Q [[Cl.b true]]))
theorem Xj9 (W : InW) (a b Q) : Ywr (cxT Try.prog TT T5 1000 50) 1000 29 [.rs _ a, .rs _ b] [] 0 (Y01 [(false, [.bool])] Q) (fun _ _ _ _ => Stuck 421) = Xc4 a b Q := by kernel_rfl
abbrev Xbx : List AT := [.one (.sl Ja), .one (.sl Ja)]
theorem Xk7 {pre : DS -> Prop} {res : DS -> DS} (hyp_ : ∀ (W : InW) (a b : Ro Ja), pre [[.l a.xs], [.l b.xs]] -> ∀ Q : DS -> Prop, Q (res [[.l a.xs], [.l b.xs]]) -> Xc4 a b Q) : PureOk Try.prog 29 Xbx [(false, [.bool])] pre res :=
 PureOk.of' (fun W => @TT W) (fun W => @Xe W) Xa T5 1000 50 fun W a b hp =>
  (Xj9 W a b (fun o => o = res [[.l a.xs], [.l b.xs]])).mpr (hyp_ W a b hp _ rfl)
theorem Xom : PureOk Try.prog 29 Xbx [(false, [.bool])] Xn Xi :=
 Xk7 fun W a b hp Q h => by
  have hp : a.xs = b.xs := hp;have hl : a.xs.length = b.xs.length := by rw [hp]
  unfold Xc4;simp only [hl, show Int.toNat 0 = 0 from rfl]
  repeat' (first | omega | intro _ | with_reducible first | apply vifd | apply vifn | apply vifq | apply Xd | apply Xc | apply vifb | apply vif | apply nedd | apply ned2 | apply ned | apply ar64 | apply Xb | exact True.intro | assumption | rfl | apply And.intro)
  all_goals first | exact h | exact ⟨⟨by omega, by omega, hp⟩, h⟩ | simp_all
noncomputable def Xko : PC Try.prog := ⟨29, Xbx, [(false, [.bool])], Xn, Xi, Xom⟩
def Xc0 [W : InW] (a b : Ro Ja) (Q : DS -> Prop) : Prop :=
 Vif (!decide ((↑(a.xs.length) : Int) = (↑(b.xs.length) : Int))) (Q [[Cl.b false]]) (Pre ((0 : Int) <= 0 /\ (0 : Int) <= (↑(a.xs.length) : Int) /\ a.xs = b.xs) (Q [[Cl.b true]]))
theorem Xj6 (W : InW) (a b Q) : Ywr (cxT Try.prog TT T5 1000 50) 1000 37 [.rs _ a, .rs _ b] [] 0 (Y01 [(false, [.bool])] Q) (fun _ _ _ _ => Stuck 421) = Xc0 a b Q := by kernel_rfl
abbrev Xbv : List AT := [.one (.sl Ja), .one (.sl Ja)]
theorem Xk4 {pre : DS -> Prop} {res : DS -> DS} (hyp_ : ∀ (W : InW) (a b : Ro Ja), pre [[.l a.xs], [.l b.xs]] -> ∀ Q : DS -> Prop, Q (res [[.l a.xs], [.l b.xs]]) -> Xc0 a b Q) : PureOk Try.prog 37 Xbv [(false, [.bool])] pre res :=
 PureOk.of' (fun W => @TT W) (fun W => @Xe W) Xa T5 1000 50 fun W a b hp =>
  (Xj6 W a b (fun o => o = res [[.l a.xs], [.l b.xs]])).mpr (hyp_ W a b hp _ rfl)
theorem Xnk : PureOk Try.prog 37 Xbv [(false, [.bool])] Xn Xi :=
 Xk4 fun W a b hp Q h => by
  have hp : a.xs = b.xs := hp;have hl : a.xs.length = b.xs.length := by rw [hp]
  unfold Xc0;simp only [hl, show Int.toNat 0 = 0 from rfl]
  repeat' (first | omega | intro _ | with_reducible first | apply vifd | apply vifn | apply vifq | apply Xd | apply Xc | apply vifb | apply vif | apply nedd | apply ned2 | apply ned | apply ar64 | apply Xb | exact True.intro | assumption | rfl | apply And.intro)
  all_goals first | exact h | exact ⟨⟨by omega, by omega, hp⟩, h⟩ | simp_all
noncomputable def Xkk : PC Try.prog := ⟨37, Xbv, [(false, [.bool])], Xn, Xi, Xnk⟩
def Xcd [InW] (e : List Ed) (K : Nat -> List Ed -> Prop) : Prop := match e with
 | [.i i, .ro _ qs, .ro _ ps, .i all, .ro _ qt, .ro _ pt, .i alt] => Pre (0 <= i /\ i <= qs.xs.length /\ qs.xs = qt.xs) (K 0 [])
 | _ => False
noncomputable def T6 : Tab Try.prog := ⟨[Xcj], [], []⟩
noncomputable def Xcm : LC where
 len := 46
 T := [(2, (.ptr 1 0)), (3, (.ptr 4 0)), (5, .int .i64)]
 H := [(1, .blk 25 [.rs Iv5, .rs Jc, .int .i64]), (4, .blk 25 [.rs Iv5, .rs Jc, .int .i64])]
 W := ([4] ++ rg 28 18)
 outs := [⟨.exit 0, [], [], (rg 2 4 ++ rg 28 18)⟩, ⟨.ret, [(4, (.lit (.bool false)))], [], ([2, 3, 5] ++ rg 28 18)⟩]
 spec := Xcd
def Xc7 [W : InW] (i : Int) (qs : Ro Iv5) (ps : Ro Jc) (all : Int) (qt : Ro Iv5) (pt : Ro Jc) (alt : Int) (A : List Ed -> Prop) (K : Nat -> List Ed -> Prop) : Prop :=
 Vif (decide (i < (↑(qs.xs.length) : Int))) (Need (decide (0 <= i) && decide (i < (↑(qs.xs.length) : Int))) (Need (decide (i.toNat < qs.xs.length)) (Need (decide (0 <= i) && decide (i < (↑(qt.xs.length) : Int))) (Need (decide (i.toNat < qt.xs.length)) (Vif (!(decide ((cel qs.xs i.toNat (0 : Nat)).int = (cel qt.xs i.toNat (0 : Nat)).int) && (decide ((cel qs.xs i.toNat (0+1)).int = (cel qt.xs i.toNat (0+1)).int) && (decide ((cel qs.xs i.toNat ((0 : Nat) + 1 + 1)).int = (cel qt.xs i.toNat ((0 : Nat) + 1 + 1)).int) && (decide ((cel qs.xs i.toNat ((0 : Nat) + 1 + 1 + 1)).int = (cel qt.xs i.toNat ((0 : Nat) + 1 + 1 + 1)).int) && (decide ((cel qs.xs i.toNat ((0 : Nat) + 1 + 1 + 1 + 1)).int = (cel qt.xs i.toNat ((0 : Nat) + 1 + 1 + 1 + 1)).int) && true)))))) (K (0+1) []) (Ar .i64 (i + 1) fun z => A [.i z, .ro _ qs, .ro _ ps, .i all, .ro _ qt, .ro _ pt, .i alt])))))) (K 0 [])
theorem Xjz (W : InW) (i qs ps all qt pt alt A K) : Yfc { cxT Try.prog TT T6 1000 50 with fn := 34 } 1000 (Yn7 Try.prog 34 5) (Yd6 46 [(2, .ptr 1 0), (3, .ptr 4 0), (5, .si .i64 i)] ([4] ++ rg 28 18)) [(1, .blk 25 [.rs _ qs, .rs _ ps, .si .i64 all]), (4, .blk 25 [.rs _ qt, .rs _ pt, .si .i64 alt])] (Yug Xcm A K) = Xc7 i qs ps all qt pt alt A K := by kernel_rfl
def Xdi : Prop := ∀ (W : InW) (body a : Code), (Try.prog.funcs[34]?).bind (·.body) = some body -> a ∈ Yy body -> Yfx a = 5 -> @Ymq W Try.prog a (@Yto W Xcm)
theorem Xkx (meas : [InW] -> List Ed -> Nat) (hyp_ : ∀ (W : InW) i qs ps all qt pt alt K, Xcd [.i i, .ro _ qs, .ro _ ps, .i all, .ro _ qt, .ro _ pt, .i alt] K -> ∀ A : List Ed -> Prop, (∀ e, meas e < meas [.i i, .ro _ qs, .ro _ ps, .i all, .ro _ qt, .ro _ pt, .i alt] -> Xcd e K -> A e) -> Xc7 i qs ps all qt pt alt A K) : Xdi :=
 LE.okOf' (fun W => @TT W) (fun W => @Xe W) Xa T6 1000 50 (by kernel_rfl) Xcm (fun W => @meas W) fun W i qs ps all qt pt alt K hs =>
  (Xjz W i qs ps all qt pt alt (fun e => meas e < meas [.i i, .ro _ qs, .ro _ ps, .i all, .ro _ qt, .ro _ pt, .i alt] /\ Xcd e K) K).mpr (hyp_ W i qs ps all qt pt alt K hs _ fun e h1 h2 => ⟨h1, h2⟩)
theorem Xo1 : Xdi := Xkx (fun e => match e with | [.i i, .ro _ a, _, _, _, _, _] => ((a.xs.length : Int) - i).toNat | _ => 0) fun W i a ps all b pt alt K hs A hA => by
 obtain ⟨⟨h0, h1, h2⟩, hk⟩ := hs;have hm := a.len;simp only [maxLen] at hm;have hA' := hA [.i (i + 1), .ro _ a, .ro _ ps, .i all, .ro _ b, .ro _ pt, .i alt];have hlt : i < a.xs.length -> ((a.xs.length : Int) - (i + 1)).toNat < ((a.xs.length : Int) - i).toNat := by omega
 have hl : a.xs.length = b.xs.length := by rw [h2]
 unfold Xc7;simp only [Nat.zero_add, Nat.reduceAdd, h2]
 repeat' (first | omega | intro _ | with_reducible first | apply vifd | apply vifn | apply vifq | apply Xd | apply Xc | apply vifb | apply vif | apply nedd | apply ned2 | apply ned | apply ar64 | apply Xb | exact True.intro | assumption | rfl | apply And.intro)
 all_goals first | exact hk | (exact hA' (hlt (by omega)) ⟨⟨by omega, by omega, h2⟩, hk⟩) | simp_all
noncomputable def Xpa : LE Try.prog := ⟨34, 5, fun W => @Yto W Xcm, Xo1⟩
noncomputable def T7 : Tab Try.prog := ⟨[Xcj], [Xpa], []⟩
def Xee [W : InW] (a_Qs : Ro Iv5) (a_Ps : Ro Jc) (a_All : Int) (b_Qs : Ro Iv5) (b_Ps : Ro Jc) (b_All : Int) (Q : DS -> Prop) : Prop :=
 Vif (!decide ((↑(a_Qs.xs.length) : Int) = (↑(b_Qs.xs.length) : Int))) (Q [[Cl.b false]]) (Pre (a_Ps.xs = b_Ps.xs) (Vif (!true) (Q [[Cl.b false]]) (Vif (!decide (a_All = b_All)) (Q [[Cl.b false]]) (Pre ((0 : Int) <= 0 /\ (0 : Int) <= (↑(a_Qs.xs.length) : Int) /\ a_Qs.xs = b_Qs.xs) (Q [[Cl.b true]])))))
theorem Xna (W : InW) (a_Qs a_Ps a_All b_Qs b_Ps b_All Q) : Ywr (cxT Try.prog TT T7 1000 50) 1000 34 [.agg [.rs _ a_Qs, .rs _ a_Ps, .si .i64 a_All], .agg [.rs _ b_Qs, .rs _ b_Ps, .si .i64 b_All]] [] 0 (Y01 [(false, [.bool])] Q) (fun _ _ _ _ => Stuck 421) = Xee a_Qs a_Ps a_All b_Qs b_Ps b_All Q := by kernel_rfl
abbrev Xcy : List AT := [.agg [.sl Iv5, .sl Jc, .int .i64], .agg [.sl Iv5, .sl Jc, .int .i64]]
theorem Xoy {pre : DS -> Prop} {res : DS -> DS} (hyp_ : ∀ (W : InW) (a_Qs : Ro Iv5) (a_Ps : Ro Jc) (a_All : Int) (b_Qs : Ro Iv5) (b_Ps : Ro Jc) (b_All : Int), pre [[.l a_Qs.xs, .l a_Ps.xs, .i a_All], [.l b_Qs.xs, .l b_Ps.xs, .i b_All]] -> ∀ Q : DS -> Prop, Q (res [[.l a_Qs.xs, .l a_Ps.xs, .i a_All], [.l b_Qs.xs, .l b_Ps.xs, .i b_All]]) -> Xee a_Qs a_Ps a_All b_Qs b_Ps b_All Q) : PureOk Try.prog 34 Xcy [(false, [.bool])] pre res :=
 PureOk.of' (fun W => @TT W) (fun W => @Xe W) Xa T7 1000 50 fun W a_Qs a_Ps a_All b_Qs b_Ps b_All hp =>
  (Xna W a_Qs a_Ps a_All b_Qs b_Ps b_All (fun o => o = res [[.l a_Qs.xs, .l a_Ps.xs, .i a_All], [.l b_Qs.xs, .l b_Ps.xs, .i b_All]])).mpr (hyp_ W a_Qs a_Ps a_All b_Qs b_Ps b_All hp _ rfl)
theorem Xqd : PureOk Try.prog 34 Xcy [(false, [.bool])] Xde Xi :=
 Xoy fun W a pa na b pb nb hp Q h => by
  obtain ⟨h1, h2, h3⟩ : a.xs = b.xs /\ pa.xs = pb.xs /\ na = nb := hp;have hl : a.xs.length = b.xs.length := by rw [h1]
  unfold Xee;subst h3;simp only [hl, show Int.toNat 0 = 0 from rfl]
  repeat' (first | omega | intro _ | with_reducible first | apply vifd | apply vifn | apply vifq | apply Xd | apply Xc | apply vifb | apply vif | apply nedd | apply ned2 | apply ned | apply ar64 | apply Xb | exact True.intro | assumption | rfl | apply And.intro)
  all_goals first | exact h | exact ⟨⟨by omega, by omega, h1⟩, h⟩ | simp_all
noncomputable def Xnj : PC Try.prog := ⟨34, Xcy, [(false, [.bool])], Xde, Xi, Xqd⟩
open Go.RowKit
set_option maxRecDepth 100000
set_option maxHeartbeats 1600000
namespace Sp
def bx (d : Dt) (j : Nat) : Int := (cel d j 0).int
def ansD (d : Dt) : Nat -> Nat -> Int -> Bool
 | _, 0, _ => false
 | i, n + 1, a => if bx d i = 1 then (if 0 <= a then true else ansD d (i + 1) n i) else ansD d (i + 1) n a
def ansL (d : Dt) : Nat -> Nat -> Int -> Int
 | _, 0, a => a
 | i, n + 1, a => if bx d i = 1 then ansL d (i + 1) n i else ansL d (i + 1) n a
def ansOf (d : Dt) : Int := if ansD d 0 d.length (-1) then -1 else ansL d 0 d.length (-1)
def ptsV (right pts minus : Int) (d : Dt) : Int := if ansOf d = right then pts else if 0 <= ansOf d then 0 - minus else 0
def num (xs : Dt) (i : Nat) : Int := (cel xs i 0).int
def total (xs : Dt) : Int := sumF (num xs) 0 xs.length 0
def Low (xs : Dt) : Prop := xs.length <= 1000 /\ ∀ i, i < xs.length -> -1000 <= num xs i /\ num xs i <= 1000
end Sp
def Xf7 [InW] (e : List Ed) (K : Nat -> List Ed -> Prop) : Prop := match e with
 | [.ro _ d, .i a, .i i] => Pre (0 <= i /\ i <= d.xs.length /\ -1 <= a) (Vif (Sp.ansD d.xs i.toNat (d.xs.length - i.toNat) a) (K 1 []) (K 0 [.i (Sp.ansL d.xs i.toNat (d.xs.length - i.toNat) a)]))
 | _ => False
noncomputable def Xh0 : LC where
 len := 27
 T := [(0, .rs Jc), (3, .int .i64), (4, .int .i64)]
 H := []
 W := ([2] ++ rg 5 21)
 outs := [⟨.exit 0, [(3, .int .i64)], [], ([0, 2] ++ rg 4 22)⟩, ⟨.ret, [(2, (.lit (.int .i64 (-1))))], [], ([0] ++ rg 3 23)⟩]
 spec := Xf7
def Zc [W : InW] (d : Ro Jc) (a i : Int) (A : List Ed -> Prop) := Need (decide (0 <= i) && decide (i < (↑(d.xs.length) : Int))) (Need (decide (i.toNat < d.xs.length)) (Vif (decide ((cel d.xs i.toNat (0 : Nat)).int = 1)) (Ar .i64 (i + 1) fun z => A [.ro _ d, .i i, .i z]) (Ar .i64 (i + 1) fun z => A [.ro _ d, .i a, .i z])))
def Xe7 [W : InW] (d : Ro Jc) (a i : Int) (A : List Ed -> Prop) (K : Nat -> List Ed -> Prop) : Prop :=
 Vif (decide (i < (↑(d.xs.length) : Int))) (Need (decide (0 <= i) && decide (i < (↑(d.xs.length) : Int))) (Need (decide (i.toNat < d.xs.length)) (Vif (decide ((cel d.xs i.toNat (0 : Nat)).int = 1)) (Vif (decide (0 <= a)) (K (0+1) []) (Zc d a i A)) (Zc d a i A)))) (K 0 [.i a])
theorem Xms (W : InW) (d a i A K) : Yfc { cxT Try.prog TT T0 1000 50 with fn := 49 } 1000 (Yn7 Try.prog 49 4) (Yd6 27 [(0, .rs _ d), (3, .si .i64 a), (4, .si .i64 i)] ([2] ++ rg 5 21)) [] (Yug Xh0 A K) = Xe7 d a i A K := by kernel_rfl
def Xg7 : Prop := ∀ (W : InW) (body a : Code), (Try.prog.funcs[49]?).bind (·.body) = some body -> a ∈ Yy body -> Yfx a = 4 -> @Ymq W Try.prog a (@Yto W Xh0)
theorem Xoe (meas : [InW] -> List Ed -> Nat) (hyp_ : ∀ (W : InW) d a i K, Xf7 [.ro _ d, .i a, .i i] K -> ∀ A : List Ed -> Prop, (∀ e, meas e < meas [.ro _ d, .i a, .i i] -> Xf7 e K -> A e) -> Xe7 d a i A K) : Xg7 :=
 LE.okOf' (fun W => @TT W) (fun W => @Xe W) Xa T0 1000 50 (by kernel_rfl) Xh0 (fun W => @meas W) fun W d a i K hs =>
  (Xms W d a i (fun e => meas e < meas [.ro _ d, .i a, .i i] /\ Xf7 e K) K).mpr (hyp_ W d a i K hs _ fun e h1 h2 => ⟨h1, h2⟩)
theorem Xrc : Xg7 := Xoe (fun e => match e with | [.ro _ d, _, .i i] => ((d.xs.length : Int) - i).toNat | _ => 0) fun W d a i K hs A hA => by
 obtain ⟨⟨h0, h1, h2⟩, hk⟩ := hs;have hm := d.len;simp only [maxLen] at hm;unfold Xe7;delta Zc;refine vifd (fun e => ?_) fun e => ?_
 ·rw [show d.xs.length - i.toNat = (d.xs.length - (i.toNat + 1)) + 1 by omega] at hk;have ez : (i + 1).toNat = i.toNat + 1 := by omega
  have ei : ((i.toNat : Nat) : Int) = i := Int.toNat_of_nonneg h0;simp only [Sp.ansD, Sp.ansL, Sp.bx, ei] at hk;have hA' : ∀ b, -1 <= b -> Vif (Sp.ansD d.xs (i.toNat + 1) (d.xs.length - (i.toNat + 1)) b) (K 1 []) (K 0 [.i (Sp.ansL d.xs (i.toNat + 1) (d.xs.length - (i.toNat + 1)) b)]) -> A [.ro _ d, .i b, .i (i + 1)] := fun b hb f => hA _ (by show ((d.xs.length : Int) - (i + 1)).toNat < ((d.xs.length : Int) - i).toNat; omega) ⟨⟨by omega, by omega, hb⟩, by rw [ez]; exact f⟩;clear hA;simp only [Nat.zero_add, Nat.reduceAdd]
  by_cases c1 : (cel d.xs i.toNat 0).int = 1
  ·simp only [c1, if_true] at hk ⊢
   by_cases c2 : 0 <= a
   ·simp only [c2, if_true] at hk
    repeat' (first | omega | intro _ | with_reducible first | apply vifd | apply vifn | apply vifq | apply Xd | apply Xc | apply vifb | apply vif | apply nedd | apply ned2 | apply ned | apply ar64 | apply Xb | exact True.intro | assumption | rfl | apply And.intro)
    all_goals first | exact hk.1 rfl | contradiction
   ·simp only [c2, if_false] at hk
    repeat' (first | omega | intro _ | with_reducible first | apply vifd | apply vifn | apply vifq | apply Xd | apply Xc | apply vifb | apply vif | apply nedd | apply ned2 | apply ned | apply ar64 | apply Xb | exact True.intro | assumption | rfl | apply And.intro)
    all_goals first | contradiction | exact hA' _ (by omega) hk
  ·simp only [c1, if_false] at hk
   repeat' (first | omega | intro _ | with_reducible first | apply vifd | apply vifn | apply vifq | apply Xd | apply Xc | apply vifb | apply vif | apply nedd | apply ned2 | apply ned | apply ar64 | apply Xb | exact True.intro | assumption | rfl | apply And.intro)
   all_goals first | contradiction | exact hA' _ (by omega) hk
 ·rw [show d.xs.length - i.toNat = 0 by omega] at hk;exact hk.2 rfl
noncomputable def Xr8 : LE Try.prog := ⟨49, 4, fun W => @Yto W Xh0, Xrc⟩
noncomputable def T8 : Tab Try.prog := ⟨[], [Xr8], []⟩
def Xjq [W : InW] (d : Ro Jc) (Q : DS -> Prop) : Prop :=
 Pre ((0 : Int) <= 0 /\ (0 : Int) <= (↑(d.xs.length) : Int) /\ (-1 : Int) <= (-1 : Int)) (Vif (Sp.ansD d.xs (Int.toNat (0 : Int)) (d.xs.length - Int.toNat (0 : Int)) (-1 : Int)) (Q [[Cl.i (-1 : Int)]]) (Q [[Cl.i (Sp.ansL d.xs (Int.toNat (0 : Int)) (d.xs.length - Int.toNat (0 : Int)) (-1 : Int))]]))
theorem Xpq (W : InW) (d Q) : Ywr (cxT Try.prog TT T8 1000 50) 1000 49 [.rs _ d] [] 0 (Y01 [(false, [.int .i64])] Q) (fun _ _ _ _ => Stuck 421) = Xjq d Q := by kernel_rfl
abbrev Xd4 : List AT := [.one (.sl Jc)]
theorem Xqk {pre : DS -> Prop} {res : DS -> DS} (hyp_ : ∀ (W : InW) (d : Ro Jc), pre [[.l d.xs]] -> ∀ Q : DS -> Prop, Q (res [[.l d.xs]]) -> Xjq d Q) : PureOk Try.prog 49 Xd4 [(false, [.int .i64])] pre res :=
 PureOk.of' (fun W => @TT W) (fun W => @Xe W) Xa T8 1000 50 fun W d hp =>
  (Xpq W d (fun o => o = res [[.l d.xs]])).mpr (hyp_ W d hp _ rfl)
abbrev Xdy (ds : DS) : DS := match ds with | [[.l d]] => [[.i (Sp.ansOf d)]] | _ => []
theorem okans : PureOk Try.prog 49 Xd4 [(false, [.int .i64])] (fun _ => True) Xdy :=
 Xqk fun W d hp Q h => by
  unfold Xjq;simp only [show Int.toNat 0 = 0 from rfl, Nat.sub_zero];simp only [Xdy, Sp.ansOf] at h;refine ⟨⟨by omega, by omega, by omega⟩, vif (fun e => ?_) fun e => ?_⟩
  ·rw [if_pos e] at h; exact h
  ·rw [if_neg (by simp [e])] at h; exact h
noncomputable def Xpx : PC Try.prog := ⟨49, Xd4, [(false, [.int .i64])], fun _ => True, Xdy, okans⟩
noncomputable def T9 : Tab Try.prog := ⟨[Xpx], [], []⟩
def Xb1 [W : InW] (q_Part q_Boxes q_Right q_Points q_Minus : Int) (d : Ro Jc) (Q : DS -> Prop) : Prop :=
 Pre True (Vif (decide (Sp.ansOf d.xs = q_Right)) (Q [[Cl.i q_Points]]) (Vif (decide ((0 : Int) <= Sp.ansOf d.xs)) (Ar .i64 ((0 : Int) - q_Minus) fun z => Q [[Cl.i z]]) (Q [[Cl.i 0]])))
theorem Xh9 (W : InW) (q_Part q_Boxes q_Right q_Points q_Minus d Q) : Ywr (cxT Try.prog TT T9 1000 50) 1000 82 [.agg [.si .i64 q_Part, .si .i64 q_Boxes, .si .i64 q_Right, .si .i64 q_Points, .si .i64 q_Minus], .rs _ d] [] 0 (Y01 [(false, [.int .i64])] Q) (fun _ _ _ _ => Stuck 421) = Xb1 q_Part q_Boxes q_Right q_Points q_Minus d Q := by kernel_rfl
abbrev X5 : List AT := [.agg [.int .i64, .int .i64, .int .i64, .int .i64, .int .i64], .one (.sl Jc)]
theorem Xiw {pre : DS -> Prop} {res : DS -> DS} (hyp_ : ∀ (W : InW) (q_Part q_Boxes q_Right q_Points q_Minus : Int) (d : Ro Jc), pre [[.i q_Part, .i q_Boxes, .i q_Right, .i q_Points, .i q_Minus], [.l d.xs]] -> ∀ Q : DS -> Prop, Q (res [[.i q_Part, .i q_Boxes, .i q_Right, .i q_Points, .i q_Minus], [.l d.xs]]) -> Xb1 q_Part q_Boxes q_Right q_Points q_Minus d Q) : PureOk Try.prog 82 X5 [(false, [.int .i64])] pre res :=
 PureOk.of' (fun W => @TT W) (fun W => @Xe W) Xa T9 1000 50 fun W q_Part q_Boxes q_Right q_Points q_Minus d hp =>
  (Xh9 W q_Part q_Boxes q_Right q_Points q_Minus d (fun o => o = res [[.i q_Part, .i q_Boxes, .i q_Right, .i q_Points, .i q_Minus], [.l d.xs]])).mpr (hyp_ W q_Part q_Boxes q_Right q_Points q_Minus d hp _ rfl)
abbrev X0 (ds : DS) : DS := match ds with | [[.i _, .i _, .i right, .i pts, .i minus], [.l d]] => [[.i (Sp.ptsV right pts minus d)]] | _ => []
abbrev Xb7 (ds : DS) : Prop := match ds with | [[.i _, .i _, .i right, .i pts, .i minus], [.l d]] => 0 <= minus /\ minus <= 20 | _ => False
theorem Xkr : PureOk Try.prog 82 X5 [(false, [.int .i64])] Xb7 X0 :=
 Xiw fun W part boxes right pts minus d hp Q h => by
  have hp : 0 <= minus /\ minus <= 20 := hp;unfold Xb1;simp only [X0, Sp.ptsV] at h
  repeat' (first | omega | intro _ | with_reducible first | apply vifd | apply vifn | apply vifq | apply Xd | apply Xc | apply vifb | apply vif | apply nedd | apply ned2 | apply ned | apply ar64 | apply Xb | exact True.intro | assumption | rfl | apply And.intro)
  all_goals simp_all
noncomputable def Xip : PC Try.prog := ⟨82, X5, [(false, [.int .i64])], Xb7, X0, Xkr⟩
def Xcc [InW] (e : List Ed) (K : Nat -> List Ed -> Prop) : Prop := match e with
 | [.ro _ d, .i a, .i i] => Pre (0 <= i /\ i <= d.xs.length /\ Sp.Low d.xs /\ -1000 * i <= a /\ a <= 1000 * i) (K 0 [.i (Sp.sumF (Sp.num d.xs) i.toNat (d.xs.length - i.toNat) a)])
 | _ => False
noncomputable def Xcl : LC where
 len := 18
 T := [(0, .rs Jc), (3, .int .i64), (4, .int .i64)]
 H := []
 W := (rg 5 12)
 outs := [⟨.exit 0, [(3, .int .i64)], [], ([0] ++ rg 4 13)⟩]
 spec := Xcc
def Xc6 [W : InW] (d : Ro Jc) (a i : Int) (A : List Ed -> Prop) (K : Nat -> List Ed -> Prop) : Prop :=
 Vif (decide (i < (↑(d.xs.length) : Int))) (Need (decide (0 <= i) && decide (i < (↑(d.xs.length) : Int))) (Need (decide (i.toNat < d.xs.length)) (Ar .i64 (a + (cel d.xs i.toNat (0 : Nat)).int) fun z => Ar .i64 (i + 1) fun z_1 => A [.ro _ d, .i z, .i z_1]))) (K 0 [.i a])
theorem Xjy (W : InW) (d a i A K) : Yfc { cxT Try.prog TT T0 1000 50 with fn := 43 } 1000 (Yn7 Try.prog 43 4) (Yd6 18 [(0, .rs _ d), (3, .si .i64 a), (4, .si .i64 i)] (rg 5 12)) [] (Yug Xcl A K) = Xc6 d a i A K := by kernel_rfl
def Xdh : Prop := ∀ (W : InW) (body a : Code), (Try.prog.funcs[43]?).bind (·.body) = some body -> a ∈ Yy body -> Yfx a = 4 -> @Ymq W Try.prog a (@Yto W Xcl)
theorem Xkw (meas : [InW] -> List Ed -> Nat) (hyp_ : ∀ (W : InW) d a i K, Xcc [.ro _ d, .i a, .i i] K -> ∀ A : List Ed -> Prop, (∀ e, meas e < meas [.ro _ d, .i a, .i i] -> Xcc e K -> A e) -> Xc6 d a i A K) : Xdh :=
 LE.okOf' (fun W => @TT W) (fun W => @Xe W) Xa T0 1000 50 (by kernel_rfl) Xcl (fun W => @meas W) fun W d a i K hs =>
  (Xjy W d a i (fun e => meas e < meas [.ro _ d, .i a, .i i] /\ Xcc e K) K).mpr (hyp_ W d a i K hs _ fun e h1 h2 => ⟨h1, h2⟩)
theorem Xo0 : Xdh := Xkw (fun e => match e with | [.ro _ d, _, .i i] => ((d.xs.length : Int) - i).toNat | _ => 0) fun W d a i K hs A hA => by
 obtain ⟨⟨h0, h1, ⟨hl, hb⟩, h2, h3⟩, hk⟩ := hs;have hm := d.len;simp only [maxLen] at hm;unfold Xc6;refine vifd (fun e => ?_) fun e => ?_
 ·rw [show d.xs.length - i.toNat = (d.xs.length - (i.toNat + 1)) + 1 by omega] at hk;have ez : (i + 1).toNat = i.toNat + 1 := by omega
  have hn := hb i.toNat (by omega);have hA' := hA [.ro _ d, .i (a + Sp.num d.xs i.toNat), .i (i + 1)] (by show ((d.xs.length : Int) - (i + 1)).toNat < ((d.xs.length : Int) - i).toNat; omega) ⟨⟨by omega, by omega, ⟨hl, hb⟩, by omega, by omega⟩, by rw [ez]; exact hk⟩;simp only [show (cel d.xs i.toNat 0).int = Sp.num d.xs i.toNat from rfl];generalize Sp.num d.xs i.toNat = z at *
  repeat' (first | omega | intro _ | with_reducible first | apply vifd | apply vifn | apply vifq | apply Xd | apply Xc | apply vifb | apply vif | apply nedd | apply ned2 | apply ned | apply ar64 | apply Xb | exact True.intro | assumption | rfl | apply And.intro)
  all_goals first | exact hA' | skip
 ·rw [show d.xs.length - i.toNat = 0 by omega] at hk;exact hk
noncomputable def Xo9 : LE Try.prog := ⟨43, 4, fun W => @Yto W Xcl, Xo0⟩
noncomputable def T10 : Tab Try.prog := ⟨[], [Xo9], []⟩
def Xd6 [W : InW] (d : Ro Jc) (Q : DS -> Prop) : Prop :=
 Pre ((0 : Int) <= 0 /\ (0 : Int) <= (↑(d.xs.length) : Int) /\ Sp.Low d.xs /\ (-1000 : Int) * 0 <= 0 /\ (0 : Int) <= 1000 * 0) (Q [[Cl.i (Sp.sumF (Sp.num d.xs) (Int.toNat (0 : Int)) (d.xs.length - Int.toNat (0 : Int)) (0 : Int))]])
theorem Xm1 (W : InW) (d Q) : Ywr (cxT Try.prog TT T10 1000 50) 1000 43 [.rs _ d] [] 0 (Y01 [(false, [.int .i64])] Q) (fun _ _ _ _ => Stuck 421) = Xd6 d Q := by kernel_rfl
abbrev Xcq : List AT := [.one (.sl Jc)]
theorem Xop {pre : DS -> Prop} {res : DS -> DS} (hyp_ : ∀ (W : InW) (d : Ro Jc), pre [[.l d.xs]] -> ∀ Q : DS -> Prop, Q (res [[.l d.xs]]) -> Xd6 d Q) : PureOk Try.prog 43 Xcq [(false, [.int .i64])] pre res :=
 PureOk.of' (fun W => @TT W) (fun W => @Xe W) Xa T10 1000 50 fun W d hp =>
  (Xm1 W d (fun o => o = res [[.l d.xs]])).mpr (hyp_ W d hp _ rfl)
abbrev Xbk (ds : DS) : DS := match ds with | [[.l d]] => [[.i (Sp.total d)]] | _ => []
abbrev Xcg (ds : DS) : Prop := match ds with | [[.l d]] => Sp.Low d | _ => False
theorem Xpz : PureOk Try.prog 43 Xcq [(false, [.int .i64])] Xcg Xbk :=
 Xop fun W d hp Q h => by
  unfold Xd6;simp only [show Int.toNat 0 = 0 from rfl, Nat.sub_zero];simp only [Xbk, Sp.total] at h;exact ⟨⟨by omega, by omega, hp, by omega, by omega⟩, h⟩
noncomputable def Xci : PC Try.prog := ⟨43, Xcq, [(false, [.int .i64])], Xcg, Xbk, Xpz⟩
open Go.RowKit
set_option maxRecDepth 100000
set_option maxHeartbeats 1600000
namespace Sp
def row (sh : Dt) (i : Nat) : Dt := (cel sh i 0).lst
def unsRow (d : Dt) (i : Int) : Nat -> Nat -> Dt
 | _, 0 => []
 | j, n + 1 => (if bx d j = 2 then [[.i i, .i j]] else []) ++ unsRow d i (j + 1) n
def unsAll (sh : Dt) : Nat -> Nat -> Dt
 | _, 0 => []
 | i, n + 1 => unsRow (row sh i) i 0 (row sh i).length ++ unsAll sh (i + 1) n
def uns (sh : Dt) : Dt := unsAll sh 0 sh.length
def Few (sh : Dt) : Prop := sh.length <= 12 /\ ∀ i, i < sh.length -> (row sh i).length <= 4
theorem unsRow_len (d : Dt) (i : Int) : ∀ n j, (unsRow d i j n).length <= n
 | 0, _ => Nat.le_refl _
 | n + 1, j => by
  have := unsRow_len d i n (j + 1);simp only [unsRow, List.length_append]
  split <;> simp <;> omega
end Sp
def Xfg [InW] (e : List Ed) (K : Nat -> List Ed -> Prop) : Prop := match e with
 | [.ro _ sh, .i i, .i j, .l acc] => Pre (0 <= i /\ i < sh.xs.length /\ 0 <= j /\ j <= (Sp.row sh.xs i.toNat).length /\ (acc.length : Int) <= 4 * i + j /\ Sp.Few sh.xs) (K 0 [.ro _ sh, .i i, .l (acc ++ Sp.unsRow (Sp.row sh.xs i.toNat) i j.toNat ((Sp.row sh.xs i.toNat).length - j.toNat))])
 | _ => False
noncomputable def Xhb : LC where
 len := 36
 T := [(0, .rs Jb), (3, (.row 3)), (4, .int .i64), (5, .int .i64)]
 H := [(3, .arr 44 Ja)]
 W := (rg 12 23)
 outs := [⟨.exit 2, [(0, .rs Jb), (3, (.row 6)), (4, .int .i64)], [(6, .arr 44 Ja)], ([5] ++ rg 12 23)⟩]
 spec := Xfg
def Xeh [W : InW] (sh : Ro Jb) (i j : Int) (acc : Dt) (A : List Ed -> Prop) (K : Nat -> List Ed -> Prop) : Prop :=
 Need (decide (0 <= i) && decide (i < (↑(sh.xs.length) : Int))) (Need (decide (i.toNat < sh.xs.length)) (Vif (decide (j < (↑(List.length (cel sh.xs i.toNat (0 : Nat)).lst) : Int))) (Need (decide (0 <= i) && decide (i < (↑(sh.xs.length) : Int))) (Need (decide (i.toNat < sh.xs.length)) (Need (decide (0 <= j) && decide (j < (↑(List.length (cel sh.xs i.toNat (0 : Nat)).lst) : Int))) (Need (decide (j.toNat < List.length (cel sh.xs i.toNat (0 : Nat)).lst)) (Vif (decide ((cel (cel sh.xs i.toNat (0 : Nat)).lst j.toNat (0 : Nat)).int = 2)) (Need (decide ((acc.length + [[Cl.i i, Cl.i j]].length) * 16 <= 140737488355328)) (Ar .i64 (j + 1) fun z => A [.ro [Ty.sl [Ty.int IntKind.i64]] sh, .i i, .i z, .l (acc ++ [[Cl.i i, Cl.i j]])])) (Ar .i64 (j + 1) fun z => A [.ro [Ty.sl [Ty.int IntKind.i64]] sh, .i i, .i z, .l acc])))))) (K 0 [.ro [Ty.sl [Ty.int IntKind.i64]] sh, .i i, .l acc])))
theorem Xl2 (W : InW) (sh i j acc A K) : Yfc { cxT Try.prog TT T0 1000 50 with fn := 45 } 1000 (Yn7 Try.prog 45 7) (Yd6 36 [(0, .rs _ sh), (3, .rw 3), (4, .si .i64 i), (5, .si .i64 j)] (rg 12 23)) [(3, .arr 44 Ja acc)] (Yug Xhb A K) = Xeh sh i j acc A K := by kernel_rfl
def Xgi : Prop := ∀ (W : InW) (body a : Code), (Try.prog.funcs[45]?).bind (·.body) = some body -> a ∈ Yy body -> Yfx a = 7 -> @Ymq W Try.prog a (@Yto W Xhb)
theorem Xno (meas : [InW] -> List Ed -> Nat) (hyp_ : ∀ (W : InW) sh i j acc K, Xfg [.ro _ sh, .i i, .i j, .l acc] K -> ∀ A : List Ed -> Prop, (∀ e, meas e < meas [.ro _ sh, .i i, .i j, .l acc] -> Xfg e K -> A e) -> Xeh sh i j acc A K) : Xgi :=
 LE.okOf' (fun W => @TT W) (fun W => @Xe W) Xa T0 1000 50 (by kernel_rfl) Xhb (fun W => @meas W) fun W sh i j acc K hs =>
  (Xl2 W sh i j acc (fun e => meas e < meas [.ro _ sh, .i i, .i j, .l acc] /\ Xfg e K) K).mpr (hyp_ W sh i j acc K hs _ fun e h1 h2 => ⟨h1, h2⟩)
theorem Xqm : Xgi := Xno (fun e => match e with | [.ro _ sh, .i i, .i j, _] => (((Sp.row sh.xs i.toNat).length : Int) - j).toNat | _ => 0) fun W sh i j acc K hs A hA => by
 obtain ⟨⟨h0, h1, h2, h3, h4, h5⟩, hk⟩ := hs;have hm := sh.len;have hrow := h5.2 i.toNat (by omega);have h51 := h5.1;simp only [maxLen] at hm;unfold Xeh;simp only [List.length_cons, List.length_nil, show (cel sh.xs i.toNat 0).lst = Sp.row sh.xs i.toNat from rfl];have ej : ((j.toNat : Nat) : Int) = j := Int.toNat_of_nonneg h2;have ez : (j + 1).toNat = j.toNat + 1 := by omega
 have hlt : j < (Sp.row sh.xs i.toNat).length -> (((Sp.row sh.xs i.toNat).length : Int) - (j + 1)).toNat < (((Sp.row sh.xs i.toNat).length : Int) - j).toNat := by omega
 by_cases hj : j < (Sp.row sh.xs i.toNat).length
 ·rw [show (Sp.row sh.xs i.toNat).length - j.toNat = ((Sp.row sh.xs i.toNat).length - (j.toNat + 1)) + 1 by omega] at hk;simp only [Sp.unsRow, Sp.bx, ej] at hk
  by_cases c : (cel (Sp.row sh.xs i.toNat) j.toNat 0).int = 2
  ·simp only [c, if_true] at hk;rw [<- List.append_assoc] at hk;have hA' := hA [.ro _ sh, .i i, .i (j + 1), .l (acc ++ [[.i i, .i j]])] (hlt hj) ⟨⟨h0, h1, by omega, by omega, by simp; omega, h5⟩, by rw [ez]; exact hk⟩;clear hA hk
   repeat' (first | omega | intro _ | with_reducible first | apply vifd | apply vifn | apply vifq | apply Xd | apply Xc | apply vifb | apply vif | apply nedd | apply ned2 | apply ned | apply ar64 | apply Xb | exact True.intro | assumption | rfl | apply And.intro)
   all_goals first | contradiction | exact hA' | (simp; omega)
  ·simp only [c, if_false, List.nil_append] at hk;have hA' := hA [.ro _ sh, .i i, .i (j + 1), .l acc] (hlt hj) ⟨⟨h0, h1, by omega, by omega, by omega, h5⟩, by rw [ez]; exact hk⟩;clear hA hk
   repeat' (first | omega | intro _ | with_reducible first | apply vifd | apply vifn | apply vifq | apply Xd | apply Xc | apply vifb | apply vif | apply nedd | apply ned2 | apply ned | apply ar64 | apply Xb | exact True.intro | assumption | rfl | apply And.intro)
   all_goals first | contradiction | exact hA'
 ·rw [show (Sp.row sh.xs i.toNat).length - j.toNat = 0 by omega] at hk;simp only [Sp.unsRow, List.append_nil] at hk;clear hA
  repeat' (first | omega | intro _ | with_reducible first | apply vifd | apply vifn | apply vifq | apply Xd | apply Xc | apply vifb | apply vif | apply nedd | apply ned2 | apply ned | apply ar64 | apply Xb | exact True.intro | assumption | rfl | apply And.intro)
  all_goals exact hk
noncomputable def Xrj : LE Try.prog := ⟨45, 7, fun W => @Yto W Xhb, Xqm⟩
noncomputable def T11 : Tab Try.prog := ⟨[], [Xrj], []⟩
def Xff [InW] (e : List Ed) (K : Nat -> List Ed -> Prop) : Prop := match e with
 | [.ro _ sh, .i i, .l acc] => Pre (0 <= i /\ i <= sh.xs.length /\ (acc.length : Int) <= 4 * i /\ Sp.Few sh.xs) (K 0 [.l (acc ++ Sp.unsAll sh.xs i.toNat (sh.xs.length - i.toNat))])
 | _ => False
noncomputable def Xha : LC where
 len := 36
 T := [(0, .rs Jb), (3, (.row 3)), (4, .int .i64)]
 H := [(3, .arr 44 Ja)]
 W := (rg 5 30)
 outs := [⟨.exit 0, [(3, (.row 6))], [(6, .arr 44 Ja)], ([0] ++ rg 4 31)⟩]
 spec := Xff
def Xeg [W : InW] (sh : Ro Jb) (i : Int) (acc : Dt) (A : List Ed -> Prop) (K : Nat -> List Ed -> Prop) : Prop :=
 Vif (decide (i < (↑(sh.xs.length) : Int))) (Pre (0 <= i /\ i < (↑(sh.xs.length) : Int) /\ Zb <= 0 /\ Zb <= (↑(List.length (Sp.row sh.xs i.toNat)) : Int) /\ (↑(acc.length) : Int) <= 4 * i + 0 /\ Sp.Few sh.xs) (Ar .i64 (i + 1) fun z => A [.ro [Ty.sl [Ty.int IntKind.i64]] sh, .i z, .l (acc ++ Sp.unsRow (Sp.row sh.xs i.toNat) i (Int.toNat Zb) (List.length (Sp.row sh.xs i.toNat) - Int.toNat Zb))])) (K 0 [.l acc])
theorem Xl1 (W : InW) (sh i acc A K) : Yfc { cxT Try.prog TT T11 1000 50 with fn := 45 } 1000 (Yn7 Try.prog 45 4) (Yd6 36 [(0, .rs _ sh), (3, .rw 3), (4, .si .i64 i)] (rg 5 30)) [(3, .arr 44 Ja acc)] (Yug Xha A K) = Xeg sh i acc A K := by kernel_rfl
def Xgh : Prop := ∀ (W : InW) (body a : Code), (Try.prog.funcs[45]?).bind (·.body) = some body -> a ∈ Yy body -> Yfx a = 4 -> @Ymq W Try.prog a (@Yto W Xha)
theorem Xnn (meas : [InW] -> List Ed -> Nat) (hyp_ : ∀ (W : InW) sh i acc K, Xff [.ro _ sh, .i i, .l acc] K -> ∀ A : List Ed -> Prop, (∀ e, meas e < meas [.ro _ sh, .i i, .l acc] -> Xff e K -> A e) -> Xeg sh i acc A K) : Xgh :=
 LE.okOf' (fun W => @TT W) (fun W => @Xe W) Xa T11 1000 50 (by kernel_rfl) Xha (fun W => @meas W) fun W sh i acc K hs =>
  (Xl1 W sh i acc (fun e => meas e < meas [.ro _ sh, .i i, .l acc] /\ Xff e K) K).mpr (hyp_ W sh i acc K hs _ fun e h1 h2 => ⟨h1, h2⟩)
theorem Xql : Xgh := Xnn (fun e => match e with | [.ro _ sh, .i i, _] => ((sh.xs.length : Int) - i).toNat | _ => 0) fun W sh i acc K hs A hA => by
 obtain ⟨⟨h0, h1, h4, h5⟩, hk⟩ := hs;have hm := sh.len;have h51 := h5.1;simp only [maxLen] at hm;unfold Xeg;delta Zb;simp only [show Int.toNat 0 = 0 from rfl, Nat.sub_zero, show (cel sh.xs i.toNat 0).lst = Sp.row sh.xs i.toNat from rfl];have ei : ((i.toNat : Nat) : Int) = i := Int.toNat_of_nonneg h0;have ez : (i + 1).toNat = i.toNat + 1 := by omega
 by_cases hj : i < sh.xs.length
 ·rw [show sh.xs.length - i.toNat = (sh.xs.length - (i.toNat + 1)) + 1 by omega] at hk;simp only [Sp.unsAll, ei] at hk;rw [<- List.append_assoc] at hk;have hrow := h5.2 i.toNat (by omega);have hl := Sp.unsRow_len (Sp.row sh.xs i.toNat) i (Sp.row sh.xs i.toNat).length 0;have hA' := hA [.ro _ sh, .i (i + 1), .l (acc ++ Sp.unsRow (Sp.row sh.xs i.toNat) i 0 (Sp.row sh.xs i.toNat).length)] (show ((sh.xs.length : Int) - (i + 1)).toNat < ((sh.xs.length : Int) - i).toNat by omega) ⟨⟨by omega, by omega, by simp; omega, h5⟩, by rw [ez]; exact hk⟩;clear hA hk
  repeat' (first | (with_reducible refine Xb ⟨by omega, by omega, by omega, by omega, by omega, h5⟩ ?_) | omega | intro _ | with_reducible first | apply vifd | apply vifn | apply vifq | apply Xd | apply Xc | apply vifb | apply vif | apply nedd | apply ned2 | apply ned | apply ar64 | apply Xb | exact True.intro | assumption | rfl | apply And.intro)
  all_goals first | exact hA' | skip
 ·rw [show sh.xs.length - i.toNat = 0 by omega] at hk;simp only [Sp.unsAll, List.append_nil] at hk;clear hA
  repeat' (first | omega | intro _ | with_reducible first | apply vifd | apply vifn | apply vifq | apply Xd | apply Xc | apply vifb | apply vif | apply nedd | apply ned2 | apply ned | apply ar64 | apply Xb | exact True.intro | assumption | rfl | apply And.intro)
  all_goals exact hk
noncomputable def Xri : LE Try.prog := ⟨45, 4, fun W => @Yto W Xha, Xql⟩
noncomputable def T12 : Tab Try.prog := ⟨[], [Xri], []⟩
def Xjl [W : InW] (sh : Ro Jb) (Q : DS -> Prop) : Prop :=
 Pre ((0 : Int) <= 0 /\ (0 : Int) <= (↑(sh.xs.length) : Int) /\ (↑(0 : Nat) : Int) <= 4 * 0 /\ Sp.Few sh.xs) (Q [[Cl.l (Sp.unsAll sh.xs (Int.toNat (0 : Int)) (sh.xs.length - Int.toNat (0 : Int)))]])
theorem Xpl (W : InW) (sh Q) : Ywr (cxT Try.prog TT T12 1000 50) 1000 45 [.rs _ sh] [] 0 (Y01 [(false, [.row 44 Ja])] Q) (fun _ _ _ _ => Stuck 421) = Xjl sh Q := by kernel_rfl
abbrev Xdz : List AT := [.one (.sl Jb)]
theorem Xqf {pre : DS -> Prop} {res : DS -> DS} (hyp_ : ∀ (W : InW) (sh : Ro Jb), pre [[.l sh.xs]] -> ∀ Q : DS -> Prop, Q (res [[.l sh.xs]]) -> Xjl sh Q) : PureOk Try.prog 45 Xdz [(false, [.row 44 Ja])] pre res :=
 PureOk.of' (fun W => @TT W) (fun W => @Xe W) Xa T12 1000 50 fun W sh hp =>
  (Xpl W sh (fun o => o = res [[.l sh.xs]])).mpr (hyp_ W sh hp _ rfl)
abbrev Xdq (ds : DS) : DS := match ds with | [[.l sh]] => [[.l (Sp.uns sh)]] | _ => []
abbrev Xik (ds : DS) : Prop := match ds with | [[.l sh]] => Sp.Few sh | _ => False
theorem okuns : PureOk Try.prog 45 Xdz [(false, [.row 44 Ja])] Xik Xdq :=
 Xqf fun W sh hp Q h => by
  have hp : Sp.Few sh.xs := hp;unfold Xjl;simp only [show Int.toNat 0 = 0 from rfl, Nat.sub_zero, List.nil_append];simp only [Xdq, Sp.uns] at h;exact ⟨⟨by omega, by omega, by simp, hp⟩, h⟩
noncomputable def Xlv : PC Try.prog := ⟨45, Xdz, [(false, [.row 44 Ja])], Xik, Xdq, okuns⟩
open Go.RowKit
set_option maxRecDepth 100000
set_option maxHeartbeats 1600000
namespace Sp
structure KeyOk (qs ps : Dt) (all : Int) : Prop where
 n1 : 1 <= qs.length
 n2 : qs.length <= 12
 p1 : 1 <= ps.length
 p2 : ps.length <= 4
 part : ∀ i, i < qs.length -> 0 <= qPart qs i /\ qPart qs i < ps.length
 boxes : ∀ i, i < qs.length -> 2 <= qBoxes qs i /\ qBoxes qs i <= 4
 right : ∀ i, i < qs.length -> 0 <= qRight qs i /\ qRight qs i < qBoxes qs i
 pts : ∀ i, i < qs.length -> 0 <= qPts qs i /\ qPts qs i <= 20
 minus : ∀ i, i < qs.length -> 0 <= qMin qs i /\ qMin qs i <= 20
 need : ∀ i, i < ps.length -> -240 <= (cel ps i 0).int /\ (cel ps i 0).int <= 240
 all_ : -240 <= all /\ all <= 240
theorem qErr_ok {np : Nat} {qs : Dt} {i : Nat} (h : qErr np qs i = 0) : (0 <= qPart qs i /\ qPart qs i < np) /\ (2 <= qBoxes qs i /\ qBoxes qs i <= 4) /\ (0 <= qRight qs i /\ qRight qs i < qBoxes qs i) /\ (0 <= qPts qs i /\ qPts qs i <= 20) /\ (0 <= qMin qs i /\ qMin qs i <= 20) := by
 unfold qErr at h
 split at h
 ·rename_i h1
  split at h
  ·rename_i h2
   split at h
   ·rename_i h3
    split at h
    ·rename_i h4;rw [Bool.and_eq_true] at h4;have a := inr_iff.1 h1;have b := inr_iff.1 h2;have c := inr_iff.1 h3;have d := inr_iff.1 h4.1;have e := inr_iff.1 h4.2;omega
    ·omega
   ·omega
  ·omega
 ·omega
theorem qErr_of {np : Nat} {qs : Dt} {i : Nat} (a : 0 <= qPart qs i /\ qPart qs i < np) (b : 2 <= qBoxes qs i /\ qBoxes qs i <= 4) (c : 0 <= qRight qs i /\ qRight qs i < qBoxes qs i) (d : 0 <= qPts qs i /\ qPts qs i <= 20) (e : 0 <= qMin qs i /\ qMin qs i <= 20) : qErr np qs i = 0 := by
 unfold qErr;rw [if_pos (inr_iff.2 (by omega)), if_pos (inr_iff.2 (by omega)), if_pos (inr_iff.2 (by omega)), if_pos (by rw [Bool.and_eq_true]; exact ⟨inr_iff.2 d, inr_iff.2 e⟩)]
theorem chkE_iff {qs ps : Dt} {all : Int} : chkE qs ps all = 0 ↔ KeyOk qs ps all := by
 constructor
 ·intro h;unfold chkE chk at h
  split at h
  ·rename_i h1;rw [Bool.and_eq_true] at h1;have a := inr_iff.1 h1.1;have b := inr_iff.1 h1.2
   split at h
   ·rename_i h2;exact absurd h (hasE_ix h2).2.2
   ·rename_i h2
    split at h
    ·rename_i h3;exact absurd h (hasE_ix h3).2.2
    ·rename_i h3
     split at h
     ·rename_i h4;have hq := fun i (hi : i < qs.length) => qErr_ok (hasE_no (by simpa using h2) i (by omega) (by omega));have hp := fun i (hi : i < ps.length) => hasE_no (by simpa using h3) i (by omega) (by omega);refine ⟨by omega, by omega, by omega, by omega, fun i hi => (hq i hi).1, fun i hi => (hq i hi).2.1, fun i hi => (hq i hi).2.2.1, fun i hi => (hq i hi).2.2.2.1, fun i hi => (hq i hi).2.2.2.2, fun i hi => ?_, inr_iff.1 h4⟩;have := hp i hi;unfold pErr at this
      split at this
      ·rename_i h5; exact inr_iff.1 h5
      ·omega
     ·simp at h
  ·simp at h
 ·intro h;have h1 := h.n1;have h2 := h.n2;have h3 := h.p1;have h4 := h.p2;unfold chkE chk;rw [if_pos (by rw [Bool.and_eq_true]; exact ⟨inr_iff.2 (by omega), inr_iff.2 (by omega)⟩), if_neg, if_neg, if_pos (inr_iff.2 h.all_)]
  ·rw [hasE_of fun i _ hi => by unfold pErr; rw [if_pos (inr_iff.2 (h.need i (by omega)))]]; simp
  ·rw [hasE_of fun i _ hi => qErr_of (h.part i (by omega)) (h.boxes i (by omega)) (h.right i (by omega)) (h.pts i (by omega)) (h.minus i (by omega))]; simp
def rowE (qs sh : Dt) (i : Nat) : Int := if ((row sh i).length : Int) = qBoxes qs i then (if out 0 2 (row sh i) then 7 else 0) else 3
def shE (qs sh : Dt) : Int := if (sh.length : Int) = qs.length then (if hasE (rowE qs sh) 0 sh.length then rowE qs sh (idxE (rowE qs sh) 0 sh.length) else if 7 < (uns sh).length then 3 else 0) else 3
def askE (qs ps : Dt) (all : Int) (sh : Dt) : Int := if chkE qs ps all = 0 then shE qs sh else chkE qs ps all
theorem outs_ff {lo hi : Int} {xs : Dt} : ∀ {n i : Nat}, outs lo hi xs i n = false -> ∀ k, i <= k -> k < i + n -> lo <= (cel xs k 0).int /\ (cel xs k 0).int <= hi
 | 0, _, _, k, h1, h2 => by omega
 | n + 1, i, h, k, h1, h2 => by
  simp only [outs, Bool.or_eq_false_iff, Bool.not_eq_false'] at h;rcases Nat.eq_or_lt_of_le h1 with e | e
  ·rw [<- e]; exact inr_iff.1 h.1
  ·exact outs_ff h.2 k e (by omega)
theorem outs_of {lo hi : Int} {xs : Dt} : ∀ {n i : Nat}, (∀ k, i <= k -> k < i + n -> lo <= (cel xs k 0).int /\ (cel xs k 0).int <= hi) -> outs lo hi xs i n = false
 | 0, _, _ => rfl
 | n + 1, i, h => by
  simp only [outs, Bool.or_eq_false_iff, Bool.not_eq_false'];exact ⟨inr_iff.2 (h i (by omega) (by omega)), outs_of fun k h1 h2 => h k (by omega) (by omega)⟩
structure ShapeOk (qs sh : Dt) : Prop where
 n : sh.length = qs.length
 row_ : ∀ i, i < qs.length -> ((row sh i).length : Int) = qBoxes qs i
 val : ∀ i j, i < qs.length -> j < (row sh i).length -> 0 <= bx (row sh i) j /\ bx (row sh i) j <= 2
structure ShOk (qs sh : Dt) : Prop extends ShapeOk qs sh where
 seven : (uns sh).length <= 7
theorem rowE_ok {qs sh : Dt} {i : Nat} (h : rowE qs sh i = 0) : ((row sh i).length : Int) = qBoxes qs i /\ ∀ j, j < (row sh i).length -> 0 <= bx (row sh i) j /\ bx (row sh i) j <= 2 := by
 unfold rowE at h
 split at h
 ·rename_i h1
  split at h
  ·omega
  ·rename_i h2;exact ⟨h1, fun j hj => outs_ff (by simpa [out] using h2) j (by omega) (by omega)⟩
 ·omega
theorem shE_iff {qs sh : Dt} : shE qs sh = 0 ↔ ShOk qs sh := by
 unfold shE;constructor
 ·intro h
  split at h
  ·rename_i h1
   split at h
   ·rename_i h2; exact absurd h (hasE_ix h2).2.2
   ·rename_i h2
    split at h
    ·omega
    ·have hr := fun i (hi : i < sh.length) => rowE_ok (hasE_no (by simpa using h2) i (by omega) (by omega));exact ⟨⟨by omega, fun i hi => (hr i (by omega)).1, fun i j hi => (hr i (by omega)).2 j⟩, by omega⟩
  ·omega
 ·intro h;have h1 := h.n;have h2 := h.seven;rw [if_pos (by omega), if_neg, if_neg (by omega)];rw [hasE_of fun i _ hi => by
   unfold rowE;rw [if_pos (h.row_ i (by omega)), if_neg];unfold out;rw [outs_of fun k _ hk => h.val i k (by omega) (by omega)];simp]
  simp
theorem ShapeOk.few {qs ps sh : Dt} {all : Int} (hk : KeyOk qs ps all) (h : ShapeOk qs sh) : Few sh := by
 have h1 := h.n;have h2 := hk.n2;refine ⟨by omega, fun i hi => ?_⟩;have h3 := h.row_ i (by omega);have h4 := hk.boxes i (by omega);omega
end Sp
def Xfm [InW] (e : List Ed) (K : Nat -> List Ed -> Prop) : Prop := match e with
 | [.ro _ sh, .i i, .i j] => Pre (0 <= i /\ i < sh.xs.length /\ 0 <= j /\ j <= (Sp.row sh.xs i.toNat).length) (Vif (Sp.outs 0 2 (Sp.row sh.xs i.toNat) j.toNat ((Sp.row sh.xs i.toNat).length - j.toNat)) (K 1 []) (K 0 [.ro _ sh, .i i]))
 | _ => False
noncomputable def Xhh : LC where
 len := 53
 T := [(1, .rs Jb), (5, .int .i64), (6, .int .i64)]
 H := []
 W := ([4] ++ rg 31 18)
 outs := [⟨.exit 2, [(1, .rs Jb), (5, .int .i64)], [], ([4, 6] ++ rg 31 18)⟩, ⟨.ret, [(4, (.lit (.int .i64 7)))], [], ([1, 5, 6] ++ rg 31 18)⟩]
 spec := Xfm
def Xen [W : InW] (sh : Ro Jb) (i j : Int) (A : List Ed -> Prop) (K : Nat -> List Ed -> Prop) : Prop :=
 Need (decide (0 <= i) && decide (i < (↑(sh.xs.length) : Int))) (Need (decide (i.toNat < sh.xs.length)) (Vif (decide (j < (↑(List.length (cel sh.xs i.toNat (0 : Nat)).lst) : Int))) (Need (decide (0 <= i) && decide (i < (↑(sh.xs.length) : Int))) (Need (decide (i.toNat < sh.xs.length)) (Need (decide (0 <= j) && decide (j < (↑(List.length (cel sh.xs i.toNat (0 : Nat)).lst) : Int))) (Need (decide (j.toNat < List.length (cel sh.xs i.toNat (0 : Nat)).lst)) (Pre True (Vif (!Sp.inr (cel (cel sh.xs i.toNat (0 : Nat)).lst j.toNat (0 : Nat)).int (0 : Int) (2 : Int)) (K (0+1) []) (Ar .i64 (j + 1) fun z => A [.ro [Ty.sl [Ty.int IntKind.i64]] sh, .i i, .i z]))))))) (K 0 [.ro [Ty.sl [Ty.int IntKind.i64]] sh, .i i])))
theorem Xl8 (W : InW) (sh i j A K) : Yfc { cxT Try.prog TT T2 1000 50 with fn := 50 } 1000 (Yn7 Try.prog 50 10) (Yd6 53 [(1, .rs _ sh), (5, .si .i64 i), (6, .si .i64 j)] ([4] ++ rg 31 18)) [] (Yug Xhh A K) = Xen sh i j A K := by kernel_rfl
def Xgo : Prop := ∀ (W : InW) (body a : Code), (Try.prog.funcs[50]?).bind (·.body) = some body -> a ∈ Yy body -> Yfx a = 10 -> @Ymq W Try.prog a (@Yto W Xhh)
theorem Xnu (meas : [InW] -> List Ed -> Nat) (hyp_ : ∀ (W : InW) sh i j K, Xfm [.ro _ sh, .i i, .i j] K -> ∀ A : List Ed -> Prop, (∀ e, meas e < meas [.ro _ sh, .i i, .i j] -> Xfm e K -> A e) -> Xen sh i j A K) : Xgo :=
 LE.okOf' (fun W => @TT W) (fun W => @Xe W) Xa T2 1000 50 (by kernel_rfl) Xhh (fun W => @meas W) fun W sh i j K hs =>
  (Xl8 W sh i j (fun e => meas e < meas [.ro _ sh, .i i, .i j] /\ Xfm e K) K).mpr (hyp_ W sh i j K hs _ fun e h1 h2 => ⟨h1, h2⟩)
theorem Xqs : Xgo := Xnu (fun e => match e with | [.ro _ sh, .i i, .i j] => (((Sp.row sh.xs i.toNat).length : Int) - j).toNat | _ => 0) fun W sh i j K hs A hA => by
 obtain ⟨⟨h0, h1, h2, h3⟩, hk⟩ := hs;have hm := sh.len;have hr := (sh.sub [.int .i64] i.toNat 0 (sh.ok i.toNat 0)).len;simp only [maxLen] at hm;have hr : (Sp.row sh.xs i.toNat).length <= 9223372036854775807 := hr;unfold Xen;simp only [show (cel sh.xs i.toNat 0).lst = Sp.row sh.xs i.toNat from rfl];have ez : (j + 1).toNat = j.toNat + 1 := by omega
 have hlt : j < (Sp.row sh.xs i.toNat).length -> (((Sp.row sh.xs i.toNat).length : Int) - (j + 1)).toNat < (((Sp.row sh.xs i.toNat).length : Int) - j).toNat := by omega
 by_cases hj : j < (Sp.row sh.xs i.toNat).length
 ·rw [show (Sp.row sh.xs i.toNat).length - j.toNat = ((Sp.row sh.xs i.toNat).length - (j.toNat + 1)) + 1 by omega] at hk;simp only [Sp.outs] at hk
  by_cases c : Sp.inr (cel (Sp.row sh.xs i.toNat) j.toNat 0).int 0 2 = true
  ·simp only [c, Bool.not_true, Bool.false_or] at hk ⊢;have hA' := hA [.ro _ sh, .i i, .i (j + 1)] (hlt hj) ⟨⟨h0, h1, by omega, by omega⟩, by rw [ez]; exact hk⟩;clear hA hk
   repeat' (first | omega | intro _ | with_reducible first | apply vifd | apply vifn | apply vifq | apply Xd | apply Xc | apply vifb | apply vif | apply nedd | apply ned2 | apply ned | apply ar64 | apply Xb | exact True.intro | assumption | rfl | apply And.intro)
   all_goals first | contradiction | exact hA'
  ·have c : Sp.inr (cel (Sp.row sh.xs i.toNat) j.toNat 0).int 0 2 = false := by simpa using c
   simp only [c, Bool.not_false, Bool.true_or] at hk ⊢;clear hA
   repeat' (first | omega | intro _ | with_reducible first | apply vifd | apply vifn | apply vifq | apply Xd | apply Xc | apply vifb | apply vif | apply nedd | apply ned2 | apply ned | apply ar64 | apply Xb | exact True.intro | assumption | rfl | apply And.intro)
   all_goals first | contradiction | exact hk.1 rfl
 ·rw [show (Sp.row sh.xs i.toNat).length - j.toNat = 0 by omega] at hk;clear hA
  repeat' (first | omega | intro _ | with_reducible first | apply vifd | apply vifn | apply vifq | apply Xd | apply Xc | apply vifb | apply vif | apply nedd | apply ned2 | apply ned | apply ar64 | apply Xb | exact True.intro | assumption | rfl | apply And.intro)
  all_goals exact hk.2 rfl
noncomputable def Xrp : LE Try.prog := ⟨50, 10, fun W => @Yto W Xhh, Xqs⟩
noncomputable def T13 : Tab Try.prog := ⟨[Xkn], [Xrp], []⟩
def Xfl [InW] (e : List Ed) (K : Nat -> List Ed -> Prop) : Prop := match e with
 | [.ro _ sh, .i i, .ro _ qs, .ro _ ps, .i all] => Pre (0 <= i /\ i <= sh.xs.length /\ sh.xs.length = qs.xs.length) (Vif (Sp.hasE (Sp.rowE qs.xs sh.xs) i.toNat (sh.xs.length - i.toNat)) (K 1 [.i (Sp.rowE qs.xs sh.xs (Sp.idxE (Sp.rowE qs.xs sh.xs) i.toNat (sh.xs.length - i.toNat)))]) (K 0 [.ro _ sh]))
 | _ => False
noncomputable def Xhg : LC where
 len := 53
 T := [(1, .rs Jb), (2, (.ptr 1 0)), (5, .int .i64)]
 H := [(1, .blk 25 [.rs Iv5, .rs Jc, .int .i64])]
 W := ([4, 6] ++ rg 13 36)
 outs := [⟨.exit 0, [(1, .rs Jb)], [], ([2, 4, 5, 6] ++ rg 13 36)⟩, ⟨.ret, [(4, .int .i64)], [], ([1, 2, 5, 6] ++ rg 13 36)⟩]
 spec := Xfl
def Xem [W : InW] (sh : Ro Jb) (i : Int) (qs : Ro Iv5) (ps : Ro Jc) (all : Int) (A : List Ed -> Prop) (K : Nat -> List Ed -> Prop) : Prop :=
 Vif (decide (i < (↑(sh.xs.length) : Int))) (Need (decide (0 <= i) && decide (i < (↑(sh.xs.length) : Int))) (Need (decide (i.toNat < sh.xs.length)) (Need (decide (0 <= i) && decide (i < (↑(qs.xs.length) : Int))) (Need (decide (i.toNat < qs.xs.length)) (Vif (!decide ((↑(List.length (cel sh.xs i.toNat (0 : Nat)).lst) : Int) = (cel qs.xs i.toNat (0+1)).int)) (K (0+1) [.i (3 : Int)]) (Pre (0 <= i /\ i < (↑(sh.xs.length) : Int) /\ Zb <= 0 /\ Zb <= (↑(List.length (Sp.row sh.xs i.toNat)) : Int)) (Vif (Sp.outs Zb (2 : Int) (Sp.row sh.xs i.toNat) (Int.toNat Zb) (List.length (Sp.row sh.xs i.toNat) - Int.toNat Zb)) (K (0+1) [.i (7 : Int)]) (Ar .i64 (i + 1) fun z => A [.ro [Ty.sl [Ty.int IntKind.i64]] sh, .i z, .ro _ qs, .ro _ ps, .i all])))))))) (K 0 [.ro [Ty.sl [Ty.int IntKind.i64]] sh])
theorem Xl7 (W : InW) (sh i qs ps all A K) : Yfc { cxT Try.prog TT T13 1000 50 with fn := 50 } 1000 (Yn7 Try.prog 50 5) (Yd6 53 [(1, .rs _ sh), (2, .ptr 1 0), (5, .si .i64 i)] ([4, 6] ++ rg 13 36)) [(1, .blk 25 [.rs _ qs, .rs _ ps, .si .i64 all])] (Yug Xhg A K) = Xem sh i qs ps all A K := by kernel_rfl
def Xgn : Prop := ∀ (W : InW) (body a : Code), (Try.prog.funcs[50]?).bind (·.body) = some body -> a ∈ Yy body -> Yfx a = 5 -> @Ymq W Try.prog a (@Yto W Xhg)
theorem Xnt (meas : [InW] -> List Ed -> Nat) (hyp_ : ∀ (W : InW) sh i qs ps all K, Xfl [.ro _ sh, .i i, .ro _ qs, .ro _ ps, .i all] K -> ∀ A : List Ed -> Prop, (∀ e, meas e < meas [.ro _ sh, .i i, .ro _ qs, .ro _ ps, .i all] -> Xfl e K -> A e) -> Xem sh i qs ps all A K) : Xgn :=
 LE.okOf' (fun W => @TT W) (fun W => @Xe W) Xa T13 1000 50 (by kernel_rfl) Xhg (fun W => @meas W) fun W sh i qs ps all K hs =>
  (Xl7 W sh i qs ps all (fun e => meas e < meas [.ro _ sh, .i i, .ro _ qs, .ro _ ps, .i all] /\ Xfl e K) K).mpr (hyp_ W sh i qs ps all K hs _ fun e h1 h2 => ⟨h1, h2⟩)
theorem Xqr : Xgn := Xnt (fun e => match e with | [.ro _ sh, .i i, _, _, _] => ((sh.xs.length : Int) - i).toNat | _ => 0) fun W sh i qs ps all K hs A hA => by
 obtain ⟨⟨h0, h1, h2⟩, hk⟩ := hs;have hm := sh.len;simp only [maxLen] at hm;unfold Xem;delta Zb;simp only [show Int.toNat 0 = 0 from rfl, Nat.sub_zero, show (cel sh.xs i.toNat 0).lst = Sp.row sh.xs i.toNat from rfl, Nat.zero_add];have ez : (i + 1).toNat = i.toNat + 1 := by omega
 by_cases hi : i < sh.xs.length
 ·rw [show sh.xs.length - i.toNat = (sh.xs.length - (i.toNat + 1)) + 1 by omega] at hk;obtain ⟨g1, g2⟩ := Xdo (K1 := fun _ e => K 1 [.i e]) hk;have hA' : Sp.rowE qs.xs sh.xs i.toNat = 0 -> A [.ro _ sh, .i (i + 1), .ro _ qs, .ro _ ps, .i all] := fun f => hA _ (by show ((sh.xs.length : Int) - (i + 1)).toNat < ((sh.xs.length : Int) - i).toNat; omega) ⟨⟨by omega, by omega, h2⟩, by rw [ez]; exact g2 f⟩;clear hA hk g2;unfold Sp.rowE Sp.qBoxes Sp.out at hA' g1
  by_cases c : ((Sp.row sh.xs i.toNat).length : Int) = (cel qs.xs i.toNat 1).int
  ·rw [if_pos c] at hA' g1
   by_cases c2 : Sp.outs 0 2 (Sp.row sh.xs i.toNat) 0 (Sp.row sh.xs i.toNat).length = true
   ·rw [if_pos c2] at hA' g1;have g1 := g1 (by decide);simp only [c, c2]
    repeat' (first | omega | intro _ | with_reducible first | apply vifd | apply vifn | apply vifq | apply Xd | apply Xc | apply vifb | apply vif | apply nedd | apply ned2 | apply ned | apply ar64 | apply Xb | exact True.intro | assumption | rfl | apply And.intro)
    all_goals first | contradiction | exact g1 | (simp at *; done) | skip
   ·rw [if_neg c2] at hA' g1;have c2 : Sp.outs 0 2 (Sp.row sh.xs i.toNat) 0 (Sp.row sh.xs i.toNat).length = false := by simpa using c2
    have hA' := hA' rfl;simp only [c, c2]
    repeat' (first | omega | intro _ | with_reducible first | apply vifd | apply vifn | apply vifq | apply Xd | apply Xc | apply vifb | apply vif | apply nedd | apply ned2 | apply ned | apply ar64 | apply Xb | exact True.intro | assumption | rfl | apply And.intro)
    all_goals first | contradiction | exact hA' | (simp at *; done) | skip
  ·rw [if_neg c] at hA' g1;have g1 := g1 (by decide)
   repeat' (first | omega | intro _ | with_reducible first | apply vifd | apply vifn | apply vifq | apply Xd | apply Xc | apply vifb | apply vif | apply nedd | apply ned2 | apply ned | apply ar64 | apply Xb | exact True.intro | assumption | rfl | apply And.intro)
   all_goals first | contradiction | exact g1 | skip
 ·rw [show sh.xs.length - i.toNat = 0 by omega] at hk;clear hA
  repeat' (first | omega | intro _ | with_reducible first | apply vifd | apply vifn | apply vifq | apply Xd | apply Xc | apply vifb | apply vif | apply nedd | apply ned2 | apply ned | apply ar64 | apply Xb | exact True.intro | assumption | rfl | apply And.intro)
  all_goals exact hk.2 rfl
noncomputable def Xro : LE Try.prog := ⟨50, 5, fun W => @Yto W Xhg, Xqr⟩
noncomputable def T14 : Tab Try.prog := ⟨[Xlv], [Xro], []⟩
def Xc1 [W : InW] (k_Qs : Ro Iv5) (k_Ps : Ro Jc) (k_All : Int) (sh : Ro Jb) (Q : DS -> Prop) : Prop :=
 Vif (!decide ((↑(sh.xs.length) : Int) = (↑(k_Qs.xs.length) : Int))) (Q [[Cl.i 3]]) (Pre (Zb <= 0 /\ Zb <= (↑(sh.xs.length) : Int) /\ sh.xs.length = k_Qs.xs.length) (Vif (Sp.hasE (Sp.rowE k_Qs.xs sh.xs) (Int.toNat Zb) (sh.xs.length - Int.toNat Zb)) (Q [[Cl.i (Sp.rowE k_Qs.xs sh.xs (Sp.idxE (Sp.rowE k_Qs.xs sh.xs) (Int.toNat Zb) (sh.xs.length - Int.toNat Zb)))]]) (Pre (Sp.Few sh.xs) (Vif (decide ((7 : Int) < (↑(List.length (Sp.uns sh.xs)) : Int))) (Q [[Cl.i 3]]) (Q [[Cl.i 0]])))))
theorem Xj7 (W : InW) (k_Qs k_Ps k_All sh Q) : Ywr (cxT Try.prog TT T14 1000 50) 1000 50 [.agg [.rs _ k_Qs, .rs _ k_Ps, .si .i64 k_All], .rs _ sh] [] 0 (Y01 [(false, [.int .i64])] Q) (fun _ _ _ _ => Stuck 421) = Xc1 k_Qs k_Ps k_All sh Q := by kernel_rfl
abbrev Xbw : List AT := [.agg [.sl Iv5, .sl Jc, .int .i64], .one (.sl Jb)]
theorem Xk5 {pre : DS -> Prop} {res : DS -> DS} (hyp_ : ∀ (W : InW) (k_Qs : Ro Iv5) (k_Ps : Ro Jc) (k_All : Int) (sh : Ro Jb), pre [[.l k_Qs.xs, .l k_Ps.xs, .i k_All], [.l sh.xs]] -> ∀ Q : DS -> Prop, Q (res [[.l k_Qs.xs, .l k_Ps.xs, .i k_All], [.l sh.xs]]) -> Xc1 k_Qs k_Ps k_All sh Q) : PureOk Try.prog 50 Xbw [(false, [.int .i64])] pre res :=
 PureOk.of' (fun W => @TT W) (fun W => @Xe W) Xa T14 1000 50 fun W k_Qs k_Ps k_All sh hp =>
  (Xj7 W k_Qs k_Ps k_All sh (fun o => o = res [[.l k_Qs.xs, .l k_Ps.xs, .i k_All], [.l sh.xs]])).mpr (hyp_ W k_Qs k_Ps k_All sh hp _ rfl)
abbrev Xbl (ds : DS) : DS := match ds with | [[.l qs, .l ps, .i all], [.l sh]] => [[.i (Sp.shE qs sh)]] | _ => []
abbrev Xim (ds : DS) : Prop := match ds with | [.l qs, .l ps, .i all] :: _ => Sp.KeyOk qs ps all | _ => False
theorem Xnl : PureOk Try.prog 50 Xbw [(false, [.int .i64])] Xim Xbl :=
 Xk5 fun W qs ps all sh hp Q h => by
  have hp : Sp.KeyOk qs.xs ps.xs all := hp;unfold Xc1;delta Zb;simp only [show Int.toNat 0 = 0 from rfl, Nat.sub_zero];simp only [Xbl, Sp.shE] at h;refine vifn (fun e => ?_) fun e => ?_
  ·rw [if_neg e] at h; exact h
  ·rw [if_pos e] at h;refine ⟨⟨by omega, by omega, by omega⟩, vif (fun e1 => ?_) fun e1 => ?_⟩
   ·rw [if_pos e1] at h; exact h
   ·rw [if_neg (by simp [e1])] at h;have hf : Sp.Few sh.xs := Sp.ShapeOk.few hp ⟨by omega, fun i hi => (Sp.rowE_ok (Sp.hasE_no e1 i (by omega) (by omega))).1, fun i j hi => (Sp.rowE_ok (Sp.hasE_no e1 i (by omega) (by omega))).2 j⟩;refine ⟨hf, vifd (fun e2 => ?_) fun e2 => ?_⟩
    ·rw [if_pos (by omega)] at h; exact h
    ·rw [if_neg (by omega)] at h; exact h
noncomputable def Xkl : PC Try.prog := ⟨50, Xbw, [(false, [.int .i64])], Xim, Xbl, Xnl⟩
noncomputable def T15 : Tab Try.prog := ⟨[Xin, Xkl], [], []⟩
def Xc5 [W : InW] (k_Qs : Ro Iv5) (k_Ps : Ro Jc) (k_All : Int) (sh : Ro Jb) (Q : DS -> Prop) : Prop :=
 Pre True (Vif (decide (Sp.chkE k_Qs.xs k_Ps.xs k_All = 0)) (Pre (Sp.KeyOk k_Qs.xs k_Ps.xs k_All) (Q [[Cl.i (Sp.shE k_Qs.xs sh.xs)]])) (Q [[Cl.i (Sp.chkE k_Qs.xs k_Ps.xs k_All)]]))
theorem Xkb (W : InW) (k_Qs k_Ps k_All sh Q) : Ywr (cxT Try.prog TT T15 1000 50) 1000 57 [.agg [.rs _ k_Qs, .rs _ k_Ps, .si .i64 k_All], .rs _ sh] [] 0 (Y01 [(false, [.int .i64])] Q) (fun _ _ _ _ => Stuck 421) = Xc5 k_Qs k_Ps k_All sh Q := by kernel_rfl
abbrev Xby : List AT := [.agg [.sl Iv5, .sl Jc, .int .i64], .one (.sl Jb)]
theorem Xk9 {pre : DS -> Prop} {res : DS -> DS} (hyp_ : ∀ (W : InW) (k_Qs : Ro Iv5) (k_Ps : Ro Jc) (k_All : Int) (sh : Ro Jb), pre [[.l k_Qs.xs, .l k_Ps.xs, .i k_All], [.l sh.xs]] -> ∀ Q : DS -> Prop, Q (res [[.l k_Qs.xs, .l k_Ps.xs, .i k_All], [.l sh.xs]]) -> Xc5 k_Qs k_Ps k_All sh Q) : PureOk Try.prog 57 Xby [(false, [.int .i64])] pre res :=
 PureOk.of' (fun W => @TT W) (fun W => @Xe W) Xa T15 1000 50 fun W k_Qs k_Ps k_All sh hp =>
  (Xkb W k_Qs k_Ps k_All sh (fun o => o = res [[.l k_Qs.xs, .l k_Ps.xs, .i k_All], [.l sh.xs]])).mpr (hyp_ W k_Qs k_Ps k_All sh hp _ rfl)
abbrev Xbm (ds : DS) : DS := match ds with | [[.l qs, .l ps, .i all], [.l sh]] => [[.i (Sp.askE qs ps all sh)]] | _ => []
theorem Xon : PureOk Try.prog 57 Xby [(false, [.int .i64])] (fun _ => True) Xbm :=
 Xk9 fun W qs ps all sh hp Q h => by
  unfold Xc5;simp only [Xbm, Sp.askE] at h;refine ⟨trivial, vifd (fun e => ⟨Sp.chkE_iff.1 e, ?_⟩) fun e => ?_⟩
  ·rw [if_pos e] at h; exact h
  ·rw [if_neg e] at h; exact h
noncomputable def Xck : PC Try.prog := ⟨57, Xby, [(false, [.int .i64])], fun _ => True, Xbm, Xon⟩
open Go.RowKit
set_option maxRecDepth 100000
set_option maxHeartbeats 1600000
namespace Sp
def ptsQ (qs sh : Dt) (i : Nat) : Int := ptsV (qRight qs i) (qPts qs i) (qMin qs i) (row sh i)
def addG (qs sh : Dt) : Nat -> Nat -> Dt -> Dt
 | _, 0, l => l
 | i, n + 1, l => addG qs sh (i + 1) n (l.set (qPart qs i).toNat [.i (num l (qPart qs i).toNat + ptsQ qs sh i)])
def mk (qs ps sh : Dt) : Dt := addG qs sh 0 sh.length (List.replicate ps.length [.i 0])
def partsOk (l ps : Dt) : Nat -> Nat -> Bool := allF fun p => decide (num ps p <= num l p)
def passOf (all : Int) (ps l : Dt) : Bool := decide (all <= total l) && partsOk l ps 0 l.length
theorem ptsV_in {right pts minus : Int} {d : Dt} (h : 0 <= pts /\ pts <= 20) (h2 : 0 <= minus /\ minus <= 20) : -20 <= ptsV right pts minus d /\ ptsV right pts minus d <= 20 := by
 unfold ptsV; repeat' split <;> omega
theorem num_set {l : Dt} {p : Nat} {v : Int} (hp : p < l.length) (q : Nat) : num (l.set p [.i v]) q = if p = q then v else num l q := by
 unfold num cel
 by_cases e : p = q
 ·subst e; simp [List.getD_eq_getElem?_getD, List.getElem?_set_self hp]
 ·simp [List.getD_eq_getElem?_getD, List.getElem?_set_ne e, e]
theorem addG_len (qs sh : Dt) : ∀ n i l, (addG qs sh i n l).length = l.length
 | 0, _, _ => rfl
 | n + 1, i, l => by simp [addG, addG_len qs sh n]
theorem addG_in {qs sh : Dt} (h : ∀ i, i < qs.length -> 0 <= qPts qs i /\ qPts qs i <= 20) (h2 : ∀ i, i < qs.length -> 0 <= qMin qs i /\ qMin qs i <= 20) : ∀ n i l, i + n <= qs.length -> (∀ k, k < n -> 0 <= qPart qs (i + k) /\ qPart qs (i + k) < l.length) -> (∀ p, p < l.length -> -20 * (i : Int) <= num l p /\ num l p <= 20 * (i : Int)) ->
  ∀ p, p < l.length -> -20 * ((i + n : Nat) : Int) <= num (addG qs sh i n l) p /\ num (addG qs sh i n l) p <= 20 * ((i + n : Nat) : Int)
 | 0, i, l, _, _, hl, p, hp => by simpa [addG] using hl p hp
 | n + 1, i, l, hi, hpt, hl, p, hp => by
  have h0 := hpt 0 (by omega);rw [Nat.add_zero] at h0;have hv := ptsV_in (right := qRight qs i) (d := row sh i) (h i (by omega)) (h2 i (by omega));have ih := addG_in (sh := sh) h h2 n (i + 1) (l.set (qPart qs i).toNat [.i (num l (qPart qs i).toNat + ptsQ qs sh i)]) (by omega) (fun k hk => by
   rw [List.length_set, show i + 1 + k = i + (k + 1) by omega]; exact hpt (k + 1) (by omega)) (fun q hq => by
   rw [List.length_set] at hq;rw [num_set (by omega)];have := hl q hq;have hq2 := hl (qPart qs i).toNat (by omega);unfold ptsQ
   split <;> omega) p (by rw [List.length_set]; exact hp)
  simp only [addG];rw [show i + 1 + n = i + (n + 1) by omega] at ih;exact ih
theorem num_rep (n p : Nat) : num (List.replicate n [.i 0]) p = 0 := by
 unfold num cel;simp only [List.getD_eq_getElem?_getD, List.getElem?_replicate]
 by_cases e : p < n
 ·rw [if_pos e]; rfl
 ·rw [if_neg e]; rfl
end Sp
def Xf1 [InW] (e : List Ed) (K : Nat -> List Ed -> Prop) : Prop := match e with
 | [.ro _ sh, .i i, .ro _ qs, .ro _ ps, .i all, .l l] => Pre (0 <= i /\ i <= sh.xs.length /\ sh.xs.length = qs.xs.length /\ l.length = ps.xs.length /\ Sp.KeyOk qs.xs ps.xs all /\ ∀ p, p < l.length -> -20 * i <= Sp.num l p /\ Sp.num l p <= 20 * i) (K 0 [.ro _ qs, .ro _ ps, .i all, .l (Sp.addG qs.xs sh.xs i.toNat (sh.xs.length - i.toNat) l)])
 | _ => False
noncomputable def T16 : Tab Try.prog := ⟨[Xip, Xci], [], []⟩
noncomputable def Xhw : LC where
 len := 71
 T := [(1, .rs Jb), (2, (.ptr 1 0)), (6, (.row 3)), (7, .int .i64)]
 H := [(1, .blk 25 [.rs Iv5, .rs Jc, .int .i64]), (3, .arr 3 Jc)]
 W := ([8] ++ rg 15 30)
 outs := [⟨.exit 0, [(2, (.ptr 1 0)), (6, (.row 6))], [(1, .blk 25 [.rs Iv5, .rs Jc, .int .i64]), (6, .arr 3 Jc)], ([1, 7, 8] ++ rg 15 30)⟩]
 spec := Xf1
def Zd [W : InW] (i : Int) (qs : Ro Iv5) := cel qs.xs i.toNat (0 : Nat)
def Xe2 [W : InW] (sh : Ro Jb) (i : Int) (qs : Ro Iv5) (ps : Ro Jc) (all : Int) (l : Dt) (A : List Ed -> Prop) (K : Nat -> List Ed -> Prop) : Prop :=
 Vif (decide (i < (↑(sh.xs.length) : Int))) (Need (decide (0 <= i) && decide (i < (↑(qs.xs.length) : Int))) (Need (decide (i.toNat < qs.xs.length)) (Need (decide (Zb <= (Zd i qs).int) && decide ((Zd i qs).int < (↑(l.length) : Int))) (Need (decide ((Zd i qs).int.toNat < l.length)) (Need (decide (0 <= i) && decide (i < (↑(qs.xs.length) : Int))) (Need (decide (i.toNat < qs.xs.length)) (Need (decide (0 <= i) && decide (i < (↑(sh.xs.length) : Int))) (Need (decide (i.toNat < sh.xs.length)) (Pre (Zb <= (cel qs.xs i.toNat ((0 : Nat) + 1 + 1 + 1 + 1)).int /\ (cel qs.xs i.toNat ((0 : Nat) + 1 + 1 + 1 + 1)).int <= 20) (Ar .i64 ((cel l (Zd i qs).int.toNat (0 : Nat)).int + Sp.ptsV (cel qs.xs i.toNat ((0 : Nat) + 1 + 1)).int (cel qs.xs i.toNat ((0 : Nat) + 1 + 1 + 1)).int (cel qs.xs i.toNat ((0 : Nat) + 1 + 1 + 1 + 1)).int (cel sh.xs i.toNat (0 : Nat)).lst) fun z => Need (decide (Zb <= (Zd i qs).int) && decide ((Zd i qs).int < (↑(l.length) : Int))) (Need (decide ((Zd i qs).int.toNat < l.length)) (Ar .i64 (i + 1) fun z_1 => A [.ro [Ty.sl [Ty.int IntKind.i64]] sh, .i z_1, .ro _ qs, .ro _ ps, .i all, .l (List.set l (Zd i qs).int.toNat [Cl.i z])])))))))))))) (K 0 [.ro _ qs, .ro _ ps, .i all, .l l])
theorem Xmn (W : InW) (sh i qs ps all l A K) : Yfc { cxT Try.prog TT T16 1000 50 with fn := 58 } 1000 (Yn7 Try.prog 58 4) (Yd6 71 [(1, .rs _ sh), (2, .ptr 1 0), (6, .rw 3), (7, .si .i64 i)] ([8] ++ rg 15 30)) [(1, .blk 25 [.rs _ qs, .rs _ ps, .si .i64 all]), (3, .arr 3 Jc l)] (Yug Xhw A K) = Xe2 sh i qs ps all l A K := by kernel_rfl
def Xg3 : Prop := ∀ (W : InW) (body a : Code), (Try.prog.funcs[58]?).bind (·.body) = some body -> a ∈ Yy body -> Yfx a = 4 -> @Ymq W Try.prog a (@Yto W Xhw)
theorem Xn9 (meas : [InW] -> List Ed -> Nat) (hyp_ : ∀ (W : InW) sh i qs ps all l K, Xf1 [.ro _ sh, .i i, .ro _ qs, .ro _ ps, .i all, .l l] K -> ∀ A : List Ed -> Prop, (∀ e, meas e < meas [.ro _ sh, .i i, .ro _ qs, .ro _ ps, .i all, .l l] -> Xf1 e K -> A e) -> Xe2 sh i qs ps all l A K) : Xg3 :=
 LE.okOf' (fun W => @TT W) (fun W => @Xe W) Xa T16 1000 50 (by kernel_rfl) Xhw (fun W => @meas W) fun W sh i qs ps all l K hs =>
  (Xmn W sh i qs ps all l (fun e => meas e < meas [.ro _ sh, .i i, .ro _ qs, .ro _ ps, .i all, .l l] /\ Xf1 e K) K).mpr (hyp_ W sh i qs ps all l K hs _ fun e h1 h2 => ⟨h1, h2⟩)
theorem Xq7 : Xg3 := Xn9 (fun e => match e with | [.ro _ sh, .i i, _, _, _, _] => ((sh.xs.length : Int) - i).toNat | _ => 0) fun W sh i qs ps all l K hs A hA => by
 obtain ⟨⟨h0, h1, h2, h3, hkey, h4⟩, hk⟩ := hs;have hm := sh.len;have k1 := hkey.n2;simp only [maxLen] at hm;unfold Xe2;delta Zd Zb;simp only [Nat.zero_add, Nat.reduceAdd, show (cel sh.xs i.toNat 0).lst = Sp.row sh.xs i.toNat from rfl, show ∀ k, (cel l k 0).int = Sp.num l k from fun _ => rfl];have ez : (i + 1).toNat = i.toNat + 1 := by omega
 by_cases hi : i < sh.xs.length
 ·rw [show sh.xs.length - i.toNat = (sh.xs.length - (i.toNat + 1)) + 1 by omega] at hk;simp only [Sp.addG] at hk;have hp := hkey.part i.toNat (by omega);have hpt := hkey.pts i.toNat (by omega);have hmn := hkey.minus i.toNat (by omega);have hv := Sp.ptsV_in (right := Sp.qRight qs.xs i.toNat) (d := Sp.row sh.xs i.toNat) hpt hmn;have hq := h4 (Sp.qPart qs.xs i.toNat).toNat (by omega);have hA' := hA [.ro _ sh, .i (i + 1), .ro _ qs, .ro _ ps, .i all, .l (l.set (Sp.qPart qs.xs i.toNat).toNat [.i (Sp.num l (Sp.qPart qs.xs i.toNat).toNat + Sp.ptsQ qs.xs sh.xs i.toNat)])] (show ((sh.xs.length : Int) - (i + 1)).toNat < ((sh.xs.length : Int) - i).toNat by omega)
   ⟨⟨by omega, by omega, h2, by simpa using h3, hkey, fun p hp2 => by
    rw [List.length_set] at hp2;rw [Sp.num_set (by omega)];have := h4 p hp2;unfold Sp.ptsQ
    split <;> omega⟩, by rw [ez]; exact hk⟩
  clear hA hk;unfold Sp.ptsQ at hA';simp only [show (cel qs.xs i.toNat 0).int = Sp.qPart qs.xs i.toNat from rfl, show (cel qs.xs i.toNat 2).int = Sp.qRight qs.xs i.toNat from rfl, show (cel qs.xs i.toNat 3).int = Sp.qPts qs.xs i.toNat from rfl, show (cel qs.xs i.toNat 4).int = Sp.qMin qs.xs i.toNat from rfl];generalize Sp.ptsV (Sp.qRight qs.xs i.toNat) (Sp.qPts qs.xs i.toNat) (Sp.qMin qs.xs i.toNat) (Sp.row sh.xs i.toNat) = v at *
  repeat' (first | omega | intro _ | with_reducible first | apply vifd | apply vifn | apply vifq | apply Xd | apply Xc | apply vifb | apply vif | apply nedd | apply ned2 | apply ned | apply ar64 | apply Xb | exact True.intro | assumption | rfl | apply And.intro)
  all_goals first | exact hA' | skip
 ·rw [show sh.xs.length - i.toNat = 0 by omega] at hk;clear hA
  repeat' (first | omega | intro _ | with_reducible first | apply vifd | apply vifn | apply vifq | apply Xd | apply Xc | apply vifb | apply vif | apply nedd | apply ned2 | apply ned | apply ar64 | apply Xb | exact True.intro | assumption | rfl | apply And.intro)
  all_goals exact hk
noncomputable def Xr4 : LE Try.prog := ⟨58, 4, fun W => @Yto W Xhw, Xq7⟩
def Xf0 [InW] (e : List Ed) (K : Nat -> List Ed -> Prop) : Prop := match e with
 | [.b b, .i p, .ro _ qs, .ro _ ps, .i all, .l l] => Pre (0 <= p /\ p <= l.length /\ l.length = ps.xs.length) (K 0 [.b (b && Sp.partsOk l ps.xs p.toNat (l.length - p.toNat)), .l l])
 | _ => False
noncomputable def Xhv : LC where
 len := 71
 T := [(2, (.ptr 1 0)), (6, (.row 4)), (9, .bool), (10, .int .i64)]
 H := [(1, .blk 25 [.rs Iv5, .rs Jc, .int .i64]), (4, .arr 3 Jc)]
 W := (rg 50 19)
 outs := [⟨.exit 2, [(6, (.row 4)), (9, .bool)], [(4, .arr 3 Jc)], ([2, 10] ++ rg 50 19)⟩]
 spec := Xf0
def Xe1 [W : InW] (b : Bool) (p : Int) (qs : Ro Iv5) (ps : Ro Jc) (all : Int) (l : Dt) (A : List Ed -> Prop) (K : Nat -> List Ed -> Prop) : Prop :=
 Vif (decide (p < (↑(l.length) : Int))) (Vif b (Need (decide (0 <= p) && decide (p < (↑(l.length) : Int))) (Need (decide (p.toNat < l.length)) (Need (decide (0 <= p) && decide (p < (↑(ps.xs.length) : Int))) (Need (decide (p.toNat < ps.xs.length)) (Ar .i64 (p + 1) fun z => A [.b (decide ((cel ps.xs p.toNat (0 : Nat)).int <= (cel l p.toNat (0 : Nat)).int)), .i z, .ro _ qs, .ro _ ps, .i all, .l l]))))) (Ar .i64 (p + 1) fun z => A [.b false, .i z, .ro _ qs, .ro _ ps, .i all, .l l])) (K 0 [.b b, .l l])
theorem Xmm (W : InW) (b p qs ps all l A K) : Yfc { cxT Try.prog TT T16 1000 50 with fn := 58 } 1000 (Yn7 Try.prog 58 10) (Yd6 71 [(2, .ptr 1 0), (6, .rw 4), (9, .sb b), (10, .si .i64 p)] (rg 50 19)) [(1, .blk 25 [.rs _ qs, .rs _ ps, .si .i64 all]), (4, .arr 3 Jc l)] (Yug Xhv A K) = Xe1 b p qs ps all l A K := by kernel_rfl
def Xg2 : Prop := ∀ (W : InW) (body a : Code), (Try.prog.funcs[58]?).bind (·.body) = some body -> a ∈ Yy body -> Yfx a = 10 -> @Ymq W Try.prog a (@Yto W Xhv)
theorem Xn8 (meas : [InW] -> List Ed -> Nat) (hyp_ : ∀ (W : InW) b p qs ps all l K, Xf0 [.b b, .i p, .ro _ qs, .ro _ ps, .i all, .l l] K -> ∀ A : List Ed -> Prop, (∀ e, meas e < meas [.b b, .i p, .ro _ qs, .ro _ ps, .i all, .l l] -> Xf0 e K -> A e) -> Xe1 b p qs ps all l A K) : Xg2 :=
 LE.okOf' (fun W => @TT W) (fun W => @Xe W) Xa T16 1000 50 (by kernel_rfl) Xhv (fun W => @meas W) fun W b p qs ps all l K hs =>
  (Xmm W b p qs ps all l (fun e => meas e < meas [.b b, .i p, .ro _ qs, .ro _ ps, .i all, .l l] /\ Xf0 e K) K).mpr (hyp_ W b p qs ps all l K hs _ fun e h1 h2 => ⟨h1, h2⟩)
theorem Xq6 : Xg2 := Xn8 (fun e => match e with | [_, .i p, _, _, _, .l l] => ((l.length : Int) - p).toNat | _ => 0) fun W b p qs ps all l K hs A hA => by
 obtain ⟨⟨h0, h1, h2⟩, hk⟩ := hs;have hm := ps.len;simp only [maxLen] at hm;unfold Xe1;simp only [Nat.zero_add, Nat.reduceAdd, show ∀ k, (cel l k 0).int = Sp.num l k from fun _ => rfl, show ∀ k, (cel ps.xs k 0).int = Sp.num ps.xs k from fun _ => rfl];have ez : (p + 1).toNat = p.toNat + 1 := by omega
 by_cases hi : p < l.length
 ·rw [show l.length - p.toNat = (l.length - (p.toNat + 1)) + 1 by omega] at hk;have hA' : ∀ c, c = (b && decide (Sp.num ps.xs p.toNat <= Sp.num l p.toNat)) -> A [.b c, .i (p + 1), .ro _ qs, .ro _ ps, .i all, .l l] := fun c hc => hA _ (show ((l.length : Int) - (p + 1)).toNat < ((l.length : Int) - p).toNat by omega) ⟨⟨by omega, by omega, h2⟩, by
   rw [ez, hc, Bool.and_assoc];exact hk⟩
  clear hA hk
  repeat' (first | omega | intro _ | with_reducible first | apply vifd | apply vifn | apply vifq | apply Xd | apply Xc | apply vifb | apply vif | apply nedd | apply ned2 | apply ned | apply ar64 | apply Xb | exact True.intro | assumption | rfl | apply And.intro)
  all_goals first | (exact hA' _ (by simp [*])) | skip
 ·rw [show l.length - p.toNat = 0 by omega] at hk;simp only [Sp.partsOk, Sp.allF, Bool.and_true] at hk;clear hA
  repeat' (first | omega | intro _ | with_reducible first | apply vifd | apply vifn | apply vifq | apply Xd | apply Xc | apply vifb | apply vif | apply nedd | apply ned2 | apply ned | apply ar64 | apply Xb | exact True.intro | assumption | rfl | apply And.intro)
  all_goals exact hk
noncomputable def Xr3 : LE Try.prog := ⟨58, 10, fun W => @Yto W Xhv, Xq6⟩
noncomputable def T17 : Tab Try.prog := ⟨[Xci], [Xr4, Xr3], []⟩
def Zf [W : InW] (k_Ps : Ro Jc) := List.replicate (↑(k_Ps.xs.length) : Int).toNat (Ybr [Ty.int IntKind.i64])
def Ze [W : InW] (k_Qs : Ro Iv5) (k_Ps : Ro Jc) (sh : Ro Jb) := Sp.addG k_Qs.xs sh.xs (Int.toNat Zb) (sh.xs.length - Int.toNat Zb) (Zf k_Ps)
def Xb3 [W : InW] (k_Qs : Ro Iv5) (k_Ps : Ro Jc) (k_All : Int) (sh : Ro Jb) (Q : DS -> Prop) : Prop :=
 Need (decide ((↑(k_Ps.xs.length) : Int) = (↑(k_Ps.xs.length) : Int)) && decide (Zb <= (↑(k_Ps.xs.length) : Int)) && decide ((8 : Nat) * (↑(k_Ps.xs.length) : Int).toNat <= 281474976710656)) (Pre (Zb <= 0 /\ Zb <= (↑(sh.xs.length) : Int) /\ sh.xs.length = k_Qs.xs.length /\ (Zf k_Ps).length = k_Ps.xs.length /\ Sp.KeyOk k_Qs.xs k_Ps.xs k_All /\ ∀ (p : Nat), p < (Zf k_Ps).length -> (-20 : Int) * 0 <= Sp.num (Zf k_Ps) p /\ Sp.num (Zf k_Ps) p <= 20 * 0) (Pre (Sp.Low (Ze k_Qs k_Ps sh)) (Pre (Zb <= 0 /\ Zb <= (↑(List.length (Ze k_Qs k_Ps sh)) : Int) /\ List.length (Ze k_Qs k_Ps sh) = k_Ps.xs.length) (Q [[Cl.l (Ze k_Qs k_Ps sh)], [Cl.b (decide (k_All <= Sp.total (Ze k_Qs k_Ps sh)) && Sp.partsOk (Ze k_Qs k_Ps sh) k_Ps.xs (Int.toNat Zb) (List.length (Ze k_Qs k_Ps sh) - Int.toNat Zb))]]))))
theorem Xic (W : InW) (k_Qs k_Ps k_All sh Q) : Ywr (cxT Try.prog TT T17 1000 50) 1000 58 [.agg [.rs _ k_Qs, .rs _ k_Ps, .si .i64 k_All], .rs _ sh] [] 0 (Y01 [(false, [.row 3 Jc]), (false, [.bool])] Q) (fun _ _ _ _ => Stuck 421) = Xb3 k_Qs k_Ps k_All sh Q := by kernel_rfl
abbrev X8 : List AT := [.agg [.sl Iv5, .sl Jc, .int .i64], .one (.sl Jb)]
theorem Xiz {pre : DS -> Prop} {res : DS -> DS} (hyp_ : ∀ (W : InW) (k_Qs : Ro Iv5) (k_Ps : Ro Jc) (k_All : Int) (sh : Ro Jb), pre [[.l k_Qs.xs, .l k_Ps.xs, .i k_All], [.l sh.xs]] -> ∀ Q : DS -> Prop, Q (res [[.l k_Qs.xs, .l k_Ps.xs, .i k_All], [.l sh.xs]]) -> Xb3 k_Qs k_Ps k_All sh Q) : PureOk Try.prog 58 X8 [(false, [.row 3 Jc]), (false, [.bool])] pre res :=
 PureOk.of' (fun W => @TT W) (fun W => @Xe W) Xa T17 1000 50 fun W k_Qs k_Ps k_All sh hp =>
  (Xic W k_Qs k_Ps k_All sh (fun o => o = res [[.l k_Qs.xs, .l k_Ps.xs, .i k_All], [.l sh.xs]])).mpr (hyp_ W k_Qs k_Ps k_All sh hp _ rfl)
abbrev X2 (ds : DS) : DS := match ds with | [[.l qs, .l ps, .i all], [.l sh]] => [[.l (Sp.mk qs ps sh)], [.b (Sp.passOf all ps (Sp.mk qs ps sh))]] | _ => []
abbrev Xb8 (ds : DS) : Prop := match ds with | [[.l qs, .l ps, .i all], [.l sh]] => Sp.KeyOk qs ps all /\ sh.length = qs.length | _ => False
theorem Xi9 (qs ps sh : Dt) : (Sp.mk qs ps sh).length = ps.length := by unfold Sp.mk; rw [Sp.addG_len, List.length_replicate]
theorem mk_in {qs ps sh : Dt} {all : Int} (hk : Sp.KeyOk qs ps all) (hs : sh.length = qs.length) (p : Nat) (hp : p < ps.length) : -240 <= Sp.num (Sp.mk qs ps sh) p /\ Sp.num (Sp.mk qs ps sh) p <= 240 := by
 have h1 := hk.n2;have := Sp.addG_in (qs := qs) (sh := sh) hk.pts hk.minus sh.length 0 (List.replicate ps.length [.i 0]) (by omega) (fun k hk2 => by
  have := hk.part (0 + k) (by omega);rw [List.length_replicate];exact this) (fun p _ => by rw [Sp.num_rep]; omega) p (by simpa using hp)
 unfold Sp.mk;omega
theorem Xlz {qs ps sh : Dt} {all : Int} (hk : Sp.KeyOk qs ps all) (hs : sh.length = qs.length) : Sp.Low (Sp.mk qs ps sh) := by
 have h1 := hk.p2;refine ⟨by rw [Xi9]; omega, fun i hi => ?_⟩;rw [Xi9] at hi;have := mk_in hk hs i hi;omega
theorem Xkv : PureOk Try.prog 58 X8 [(false, [.row 3 Jc]), (false, [.bool])] Xb8 X2 :=
 Xiz fun W qs ps all sh hp Q h => by
  obtain ⟨hkey, hs⟩ : Sp.KeyOk qs.xs ps.xs all /\ sh.xs.length = qs.xs.length := hp;have k1 := hkey.p2;unfold Xb3;delta Ze Zb Zf;simp only [show Int.toNat 0 = 0 from rfl, Nat.sub_zero, Int.toNat_natCast, show Ybr [.int .i64] = [Cl.i 0] from rfl];simp only [X2] at h;refine ned (by simp; omega) ⟨⟨by omega, by omega, hs, by simp, hkey, fun p _ => by rw [Sp.num_rep]; omega⟩, ⟨Xlz hkey hs, ?_⟩⟩;have hl := Xi9 qs.xs ps.xs sh.xs;unfold Sp.mk at hl h;exact ⟨⟨by omega, by omega, hl⟩, h⟩
noncomputable def Xu : PC Try.prog := ⟨58, X8, [(false, [.row 3 Jc]), (false, [.bool])], Xb8, X2, Xkv⟩
open Go.RowKit
attribute [local irreducible] Go.Oper.wp
noncomputable def LE.unroll {P : Program} (tt : (W : InW) -> @Tr (@TI W)) (ht : ∀ W : InW, @TabOk W P (tt W)) (hm : P.follows .mixedOrders = true) (T : Tab P) (n m u : Nat) (g : FuncId) (key : Nat) (h1 : (match Ye2 P g key with | [_] => true | _ => false) = true) : LE P where
 g := g
 key := key
 f := fun W tm hp K => @Yyd W (@Yfc W { @cxT W P (tt W) T n m with fn := g } n (Yn7 P g key)) u tm hp K
 ok := fun W body a hbd ha hk tm hp K h => by
  obtain ⟨h2, h3⟩ := Yye h1;rw [h2 body a hbd ha hk];have hP := Yzl P (tt W) T n m;have hL := (Yr9 (T := T) (ht W) hm n m).at g;have := Ylm (P := P) (cd := Yn7 P g key) (fun tm hp K h => by
   have := Ygx (c := { @cxT W P (tt W) T n m with fn := g }) hL (by rw [show ({ @cxT W P (tt W) T n m with fn := g } : Cx).P = P from hP]; exact hm) n (root := Yjr P g) (by
    show ((cxT P (tt W) T n m).P.funcs[g]?).bind (·.body) = _
    rw [hP]; exact Yyl h1) (Yn7 P g key) h3.loop tm hp K h
   rw [show ({ @cxT W P (tt W) T n m with fn := g } : Cx).P = P from hP] at this;exact this) u tm hp K h
  exact this
end Go.Proofs.Ytifhdbgciehicaa
namespace Go.Proofs.Ytifhdbgciehicaa
open Go.RowKit
set_option maxRecDepth 100000
set_option maxHeartbeats 4000000
noncomputable def Xo8 : LE Try.prog := LE.unroll (fun W => @TT W) (fun W => @Xe W) Xa T0 1000 50 14 47 4 (by kernel_rfl)
noncomputable def T18 : Tab Try.prog := ⟨[], [Xo8], []⟩
namespace Sp
def withR (sh : Dt) (q j : Nat) (v : Int) : Nat -> Nat -> Dt
 | _, 0 => []
 | i, n + 1 => [.l (if i = q then (row sh i).set j [.i v] else row sh i)] :: withR sh q j v (i + 1) n
def withD (sh : Dt) (q j : Nat) (v : Int) : Dt := withR sh q j v 0 sh.length
end Sp
def Zbd [W : InW] (sh : Ro Jb) := (↑(sh.xs.length) : Int)
def Zg := (0 : Nat)
def Zh [W : InW] (sh : Ro Jb) := cel sh.xs (Int.toNat Zb) Zg
def Zs [W : InW] (sh : Ro Jb) := cel sh.xs (Int.ofNat (0+1)).toNat Zg
def Zt [W : InW] (sh : Ro Jb) := cel sh.xs (Int.ofNat (1+1)).toNat Zg
def Zu [W : InW] (sh : Ro Jb) := cel sh.xs (Int.ofNat (2+1)).toNat Zg
def Zw [W : InW] (sh : Ro Jb) := cel sh.xs (Int.ofNat (3+1)).toNat Zg
def Zx [W : InW] (sh : Ro Jb) := cel sh.xs (Int.ofNat (4+1)).toNat Zg
def Zba [W : InW] (sh : Ro Jb) := cel sh.xs (Int.ofNat (5+1)).toNat Zg
def Zdj [W : InW] (sh : Ro Jb) := cel sh.xs (Int.ofNat (6+1)).toNat Zg
def Zdk [W : InW] (sh : Ro Jb) := cel sh.xs (Int.ofNat (7+1)).toNat Zg
def Zv [W : InW] (sh : Ro Jb) := cel sh.xs (Int.ofNat (nat_lit 10 + 1)).toNat Zg
def Zbb [W : InW] (sh : Ro Jb) := cel sh.xs (Int.ofNat (nat_lit 11 + 1)).toNat Zg
def Zdi := nat_lit 12 + 1
def Zbx [W : InW] (b_A : Int) := decide (b_A = (↑Zg : Int))
def Zy [W : InW] (sh : Ro Jb) (b_B : Int) := decide (0 <= b_B) && decide (b_B < (↑(List.length (Zh sh).lst) : Int))
def Zbm [W : InW] (sh : Ro Jb) (b_B : Int) := decide (b_B.toNat < List.length (Zh sh).lst)
def Zbn [W : InW] (sh : Ro Jb) (b_B v : Int) := [Cl.l (List.set (Zh sh).lst b_B.toNat [Cl.i v])]
def Zbe [W : InW] (sh : Ro Jb) := cel sh.xs (Int.ofNat (nat_lit 0 + 1)).toNat Zg
def Zl [W : InW] (sh : Ro Jb) := [Cl.l (Zbe sh).lst]
def Zbc [W : InW] (sh : Ro Jb) := cel sh.xs (Int.ofNat (nat_lit 1 + 1)).toNat Zg
def Zm [W : InW] (sh : Ro Jb) := [Cl.l (Zbc sh).lst]
def Zo [W : InW] (sh : Ro Jb) := cel sh.xs (Int.ofNat (nat_lit 2 + 1)).toNat Zg
def Zbf [W : InW] (sh : Ro Jb) := [Cl.l (Zo sh).lst]
def Zp [W : InW] (sh : Ro Jb) := cel sh.xs (Int.ofNat (nat_lit 3 + 1)).toNat Zg
def Zbg [W : InW] (sh : Ro Jb) := [Cl.l (Zp sh).lst]
def Zn [W : InW] (sh : Ro Jb) := cel sh.xs (Int.ofNat (nat_lit 4 + 1)).toNat Zg
def Zbh [W : InW] (sh : Ro Jb) := [Cl.l (Zn sh).lst]
def Zj [W : InW] (sh : Ro Jb) := cel sh.xs (Int.ofNat (nat_lit 5 + 1)).toNat Zg
def Zbi [W : InW] (sh : Ro Jb) := [Cl.l (Zj sh).lst]
def Zi [W : InW] (sh : Ro Jb) := cel sh.xs (Int.ofNat (nat_lit 6 + 1)).toNat Zg
def Zbj [W : InW] (sh : Ro Jb) := [Cl.l (Zi sh).lst]
def Zk [W : InW] (sh : Ro Jb) := cel sh.xs (Int.ofNat (nat_lit 7 + 1)).toNat Zg
def Zbk [W : InW] (sh : Ro Jb) := [Cl.l (Zk sh).lst]
def Zq [W : InW] (sh : Ro Jb) := cel sh.xs (Int.ofNat (nat_lit 8 + 1)).toNat Zg
def Zbo [W : InW] (sh : Ro Jb) := [Cl.l (Zq sh).lst]
def Zbq [W : InW] (sh : Ro Jb) := cel sh.xs (Int.ofNat (nat_lit 9 + 1)).toNat Zg
def Zr [W : InW] (sh : Ro Jb) := [Cl.l (Zbq sh).lst]
def Zch [W : InW] (sh : Ro Jb) := [Cl.l (Zv sh).lst]
def Zdf [W : InW] (sh : Ro Jb) := [Cl.l (Zbb sh).lst]
def Zck [W : InW] (sh : Ro Jb) (b_B : Int) := decide (0 <= b_B) && decide (b_B < (↑(List.length (Zbe sh).lst) : Int))
def Zz [W : InW] (sh : Ro Jb) := [Cl.l (Zh sh).lst]
def Zds [W : InW] (sh : Ro Jb) (b_B v : Int) := [Cl.l (List.set (Zbe sh).lst b_B.toNat [Cl.i v])]
def Zcl [W : InW] (sh : Ro Jb) (b_B : Int) := decide (0 <= b_B) && decide (b_B < (↑(List.length (Zbc sh).lst) : Int))
def Zcw [W : InW] (sh : Ro Jb) (b_B v : Int) := [Cl.l (List.set (Zbc sh).lst b_B.toNat [Cl.i v])]
def Zcm [W : InW] (sh : Ro Jb) (b_B : Int) := decide (0 <= b_B) && decide (b_B < (↑(List.length (Zo sh).lst) : Int))
def Zdm [W : InW] (sh : Ro Jb) (b_B : Int) := decide (b_B.toNat < List.length (Zo sh).lst)
def Zda [W : InW] (sh : Ro Jb) (b_B v : Int) := [Cl.l (List.set (Zo sh).lst b_B.toNat [Cl.i v])]
def Zcn [W : InW] (sh : Ro Jb) (b_B : Int) := decide (0 <= b_B) && decide (b_B < (↑(List.length (Zp sh).lst) : Int))
def Zdn [W : InW] (sh : Ro Jb) (b_B : Int) := decide (b_B.toNat < List.length (Zp sh).lst)
def Zdb [W : InW] (sh : Ro Jb) (b_B v : Int) := [Cl.l (List.set (Zp sh).lst b_B.toNat [Cl.i v])]
def Zby [W : InW] (sh : Ro Jb) (b_B : Int) := decide (0 <= b_B) && decide (b_B < (↑(List.length (Zn sh).lst) : Int))
def Zdo [W : InW] (sh : Ro Jb) (b_B : Int) := decide (b_B.toNat < List.length (Zn sh).lst)
def Zdc [W : InW] (sh : Ro Jb) (b_B v : Int) := [Cl.l (List.set (Zn sh).lst b_B.toNat [Cl.i v])]
def Zbz [W : InW] (sh : Ro Jb) (b_B : Int) := decide (0 <= b_B) && decide (b_B < (↑(List.length (Zj sh).lst) : Int))
def Zdp [W : InW] (sh : Ro Jb) (b_B : Int) := decide (b_B.toNat < List.length (Zj sh).lst)
def Zcs [W : InW] (sh : Ro Jb) (b_B v : Int) := [Cl.l (List.set (Zj sh).lst b_B.toNat [Cl.i v])]
def Zca [W : InW] (sh : Ro Jb) (b_B : Int) := decide (0 <= b_B) && decide (b_B < (↑(List.length (Zi sh).lst) : Int))
def Zcx [W : InW] (sh : Ro Jb) (b_B : Int) := decide (b_B.toNat < List.length (Zi sh).lst)
def Zct [W : InW] (sh : Ro Jb) (b_B v : Int) := [Cl.l (List.set (Zi sh).lst b_B.toNat [Cl.i v])]
def Zcb [W : InW] (sh : Ro Jb) (b_B : Int) := decide (0 <= b_B) && decide (b_B < (↑(List.length (Zk sh).lst) : Int))
def Zcy [W : InW] (sh : Ro Jb) (b_B : Int) := decide (b_B.toNat < List.length (Zk sh).lst)
def Zdd [W : InW] (sh : Ro Jb) (b_B v : Int) := [Cl.l (List.set (Zk sh).lst b_B.toNat [Cl.i v])]
def Zco [W : InW] (sh : Ro Jb) (b_B : Int) := decide (0 <= b_B) && decide (b_B < (↑(List.length (Zq sh).lst) : Int))
def Zdq [W : InW] (sh : Ro Jb) (b_B : Int) := decide (b_B.toNat < List.length (Zq sh).lst)
def Zdg [W : InW] (sh : Ro Jb) (b_B : Int) := decide (0 <= b_B) && decide (b_B < (↑(List.length (Zbq sh).lst) : Int))
def Zcg [W : InW] (b_A : Int) := decide (b_A = (↑(0+1) : Int))
def Zcj [W : InW] (b_A : Int) := decide (b_A = (↑(1+1) : Int))
def Zcp [W : InW] (b_A : Int) := decide (b_A = (↑(2+1) : Int))
def Zcv [W : InW] (b_A : Int) := decide (b_A = (↑(3+1) : Int))
def Zbv [W : InW] (sh : Ro Jb) (b_B : Int) := decide (b_B.toNat < List.length (Zs sh).lst)
def Zce [W : InW] (sh : Ro Jb) (b_B : Int) := decide (b_B.toNat < List.length (Zt sh).lst)
def Zdl [W : InW] (b_A : Int) := decide (b_A = (↑(4+1) : Int))
def Zbt [W : InW] (sh : Ro Jb) := [Cl.l (Zs sh).lst]
def Zbu [W : InW] (sh : Ro Jb) := [Cl.l (Zt sh).lst]
def Zbw [W : InW] (sh : Ro Jb) := [Cl.l (Zu sh).lst]
def Zcd [W : InW] (sh : Ro Jb) := [Cl.l (Zw sh).lst]
def Zci [W : InW] (sh : Ro Jb) := [Cl.l (Zx sh).lst]
def Zcq [W : InW] (sh : Ro Jb) := [Cl.l (Zba sh).lst]
def Zbp [W : InW] (sh : Ro Jb) := [Cl.l (Zdj sh).lst]
def Zbl [W : InW] (sh : Ro Jb) (b_B : Int) := decide (0 <= b_B) && decide (b_B < (↑(List.length (Zs sh).lst) : Int))
def Zcf [W : InW] (sh : Ro Jb) (b_B v : Int) := [Cl.l (List.set (Zs sh).lst b_B.toNat [Cl.i v])]
def Zbr [W : InW] (sh : Ro Jb) (b_B : Int) := decide (0 <= b_B) && decide (b_B < (↑(List.length (Zt sh).lst) : Int))
def Zbs [W : InW] (sh : Ro Jb) (b_B : Int) := decide (0 <= b_B) && decide (b_B < (↑(List.length (Zu sh).lst) : Int))
def Zcr [W : InW] (sh : Ro Jb) (b_B : Int) := decide (b_B.toNat < List.length (Zu sh).lst)
def Zcc [W : InW] (sh : Ro Jb) (b_B : Int) := decide (0 <= b_B) && decide (b_B < (↑(List.length (Zw sh).lst) : Int))
def Zcz [W : InW] (sh : Ro Jb) (b_B : Int) := decide (b_B.toNat < List.length (Zw sh).lst)
def Zdr [W : InW] (sh : Ro Jb) (b_B : Int) := decide (b_B.toNat < List.length (Zx sh).lst)
def Zcu [W : InW] (sh : Ro Jb) (b_B v : Int) := [Cl.l (List.set (Zt sh).lst b_B.toNat [Cl.i v])]
def Zde [W : InW] (sh : Ro Jb) (b_B v : Int) := [Cl.l (List.set (Zu sh).lst b_B.toNat [Cl.i v])]
def Zdh [W : InW] (sh : Ro Jb) (b_B : Int) := decide (0 <= b_B) && decide (b_B < (↑(List.length (Zx sh).lst) : Int))
def Xd5 [W : InW] (sh : Ro Jb) (b_A b_B v : Int) (Q : DS -> Prop) : Prop :=
 Vif (decide (Zb < (Zbd sh))) (Need (decide (Zb <= 0) && decide (Zb < (Zbd sh))) (Need (decide (Int.toNat Zb < sh.xs.length)) (Need (decide ((Zg + List.length (Zh sh).lst) * 8 <= 140737488355328)) (Vif (decide (Int.ofNat (0+1) < (Zbd sh))) (Need (decide (Zb <= Int.ofNat (0+1)) && decide (Int.ofNat (0+1) < (Zbd sh))) (Need (decide ((Int.ofNat (0+1)).toNat < sh.xs.length)) (Need (decide ((Zg + List.length (Zs sh).lst) * 8 <= 140737488355328)) (Vif (decide (Int.ofNat (1+1) < (Zbd sh))) (Need (decide (Zb <= Int.ofNat (1+1)) && decide (Int.ofNat (1+1) < (Zbd sh))) (Need (decide ((Int.ofNat (1+1)).toNat < sh.xs.length)) (Need (decide ((Zg + List.length (Zt sh).lst) * 8 <= 140737488355328)) (Vif (decide (Int.ofNat (2+1) < (Zbd sh))) (Need (decide (Zb <= Int.ofNat (2+1)) && decide (Int.ofNat (2+1) < (Zbd sh))) (Need (decide ((Int.ofNat (2+1)).toNat < sh.xs.length)) (Need (decide ((Zg + List.length (Zu sh).lst) * 8 <= 140737488355328)) (Vif (decide (Int.ofNat (3+1) < (Zbd sh))) (Need (decide (Zb <= Int.ofNat (3+1)) && decide (Int.ofNat (3+1) < (Zbd sh))) (Need (decide ((Int.ofNat (3+1)).toNat < sh.xs.length)) (Need (decide ((Zg + List.length (Zw sh).lst) * 8 <= 140737488355328)) (Vif (decide (Int.ofNat (4+1) < (Zbd sh))) (Need (decide (Zb <= Int.ofNat (4+1)) && decide (Int.ofNat (4+1) < (Zbd sh))) (Need (decide ((Int.ofNat (4+1)).toNat < sh.xs.length)) (Need (decide ((Zg + List.length (Zx sh).lst) * 8 <= 140737488355328)) (Vif (decide (Int.ofNat (5+1) < (Zbd sh))) (Need (decide (Zb <= Int.ofNat (5+1)) && decide (Int.ofNat (5+1) < (Zbd sh))) (Need (decide ((Int.ofNat (5+1)).toNat < sh.xs.length)) (Need (decide ((Zg + List.length (Zba sh).lst) * 8 <= 140737488355328)) (Vif (decide (Int.ofNat (6+1) < (Zbd sh))) (Need (decide (Zb <= Int.ofNat (6+1)) && decide (Int.ofNat (6+1) < (Zbd sh))) (Need (decide ((Int.ofNat (6+1)).toNat < sh.xs.length)) (Need (decide ((Zg + List.length (Zdj sh).lst) * 8 <= 140737488355328)) (Vif (decide (Int.ofNat (7+1) < (Zbd sh))) (Need (decide (Zb <= Int.ofNat (7+1)) && decide (Int.ofNat (7+1) < (Zbd sh))) (Need (decide ((Int.ofNat (7+1)).toNat < sh.xs.length)) (Need (decide ((Zg + List.length (Zdk sh).lst) * 8 <= 140737488355328)) (Vif (decide (Int.ofNat (8+1) < (Zbd sh))) (Need (decide (Zb <= Int.ofNat (8+1)) && decide (Int.ofNat (8+1) < (Zbd sh))) (Need (decide ((Int.ofNat (8+1)).toNat < sh.xs.length)) (Need (decide ((Zg + List.length (cel sh.xs (Int.ofNat (8+1)).toNat Zg).lst) * 8 <= 140737488355328)) (Vif (decide (Int.ofNat (9+1) < (Zbd sh))) (Need (decide (Zb <= Int.ofNat (9+1)) && decide (Int.ofNat (9+1) < (Zbd sh))) (Need (decide ((Int.ofNat (9+1)).toNat < sh.xs.length)) (Need (decide ((Zg + List.length (cel sh.xs (Int.ofNat (9+1)).toNat Zg).lst) * 8 <= 140737488355328)) (Vif (decide (Int.ofNat (10+1) < (Zbd sh))) (Need (decide (Zb <= Int.ofNat (10+1)) && decide (Int.ofNat (10+1) < (Zbd sh))) (Need (decide ((Int.ofNat (10+1)).toNat < sh.xs.length)) (Need (decide ((Zg + List.length (Zv sh).lst) * 8 <= 140737488355328)) (Vif (decide (Int.ofNat (11+1) < (Zbd sh))) (Need (decide (Zb <= Int.ofNat (nat_lit 11 + 1)) && decide (Int.ofNat (nat_lit 11 + 1) < (Zbd sh))) (Need (decide ((Int.ofNat (nat_lit 11 + 1)).toNat < sh.xs.length)) (Need (decide ((Zg + List.length (Zbb sh).lst) * 8 <= 140737488355328)) (Vif (decide (Int.ofNat Zdi < (Zbd sh))) (Need (decide (Zb <= Int.ofNat Zdi) && decide (Int.ofNat Zdi < (Zbd sh))) (Need (decide ((Int.ofNat Zdi).toNat < sh.xs.length)) (Need (decide ((Zg + List.length (cel sh.xs (Int.ofNat Zdi).toNat Zg).lst) * 8 <= 140737488355328)) ((45 : Nat) = 45 + 1)))) (Need (decide (0 <= b_A) && decide (b_A < (↑Zdi : Int))) (Vif (Zbx b_A) (Need (Zy sh b_B) (Need (Zbm sh b_B) (Q [[Cl.l [(Zbn sh b_B v), (Zl sh), (Zm sh), (Zbf sh), (Zbg sh), (Zbh sh), (Zbi sh), (Zbj sh), (Zbk sh), (Zbo sh), (Zr sh), (Zch sh), (Zdf sh)]]]))) (Vif (decide (b_A = (↑(nat_lit 0 + 1) : Int))) (Need (Zck sh b_B) (Need (decide (b_B.toNat < List.length (Zbe sh).lst)) (Q [[Cl.l [(Zz sh), (Zds sh b_B v), (Zm sh), (Zbf sh), (Zbg sh), (Zbh sh), (Zbi sh), (Zbj sh), (Zbk sh), (Zbo sh), (Zr sh), (Zch sh), (Zdf sh)]]]))) (Vif (decide (b_A = (↑(nat_lit 1 + 1) : Int))) (Need (Zcl sh b_B) (Need (decide (b_B.toNat < List.length (Zbc sh).lst)) (Q [[Cl.l [(Zz sh), (Zl sh), (Zcw sh b_B v), (Zbf sh), (Zbg sh), (Zbh sh), (Zbi sh), (Zbj sh), (Zbk sh), (Zbo sh), (Zr sh), (Zch sh), (Zdf sh)]]]))) (Vif (decide (b_A = (↑(nat_lit 2 + 1) : Int))) (Need (Zcm sh b_B) (Need (Zdm sh b_B) (Q [[Cl.l [(Zz sh), (Zl sh), (Zm sh), (Zda sh b_B v), (Zbg sh), (Zbh sh), (Zbi sh), (Zbj sh), (Zbk sh), (Zbo sh), (Zr sh), (Zch sh), (Zdf sh)]]]))) (Vif (decide (b_A = (↑(nat_lit 3 + 1) : Int))) (Need (Zcn sh b_B) (Need (Zdn sh b_B) (Q [[Cl.l [(Zz sh), (Zl sh), (Zm sh), (Zbf sh), (Zdb sh b_B v), (Zbh sh), (Zbi sh), (Zbj sh), (Zbk sh), (Zbo sh), (Zr sh), (Zch sh), (Zdf sh)]]]))) (Vif (decide (b_A = (↑(nat_lit 4 + 1) : Int))) (Need (Zby sh b_B) (Need (Zdo sh b_B) (Q [[Cl.l [(Zz sh), (Zl sh), (Zm sh), (Zbf sh), (Zbg sh), (Zdc sh b_B v), (Zbi sh), (Zbj sh), (Zbk sh), (Zbo sh), (Zr sh), (Zch sh), (Zdf sh)]]]))) (Vif (decide (b_A = (↑(nat_lit 5 + 1) : Int))) (Need (Zbz sh b_B) (Need (Zdp sh b_B) (Q [[Cl.l [(Zz sh), (Zl sh), (Zm sh), (Zbf sh), (Zbg sh), (Zbh sh), (Zcs sh b_B v), (Zbj sh), (Zbk sh), (Zbo sh), (Zr sh), (Zch sh), (Zdf sh)]]]))) (Vif (decide (b_A = (↑(nat_lit 6 + 1) : Int))) (Need (Zca sh b_B) (Need (Zcx sh b_B) (Q [[Cl.l [(Zz sh), (Zl sh), (Zm sh), (Zbf sh), (Zbg sh), (Zbh sh), (Zbi sh), (Zct sh b_B v), (Zbk sh), (Zbo sh), (Zr sh), (Zch sh), (Zdf sh)]]]))) (Vif (decide (b_A = (↑(nat_lit 7 + 1) : Int))) (Need (Zcb sh b_B) (Need (Zcy sh b_B) (Q [[Cl.l [(Zz sh), (Zl sh), (Zm sh), (Zbf sh), (Zbg sh), (Zbh sh), (Zbi sh), (Zbj sh), (Zdd sh b_B v), (Zbo sh), (Zr sh), (Zch sh), (Zdf sh)]]]))) (Vif (decide (b_A = (↑(nat_lit 8 + 1) : Int))) (Need (Zco sh b_B) (Need (Zdq sh b_B) (Q [[Cl.l [(Zz sh), (Zl sh), (Zm sh), (Zbf sh), (Zbg sh), (Zbh sh), (Zbi sh), (Zbj sh), (Zbk sh), [Cl.l (List.set (Zq sh).lst b_B.toNat [Cl.i v])], (Zr sh), (Zch sh), (Zdf sh)]]]))) (Vif (decide (b_A = (↑(nat_lit 9 + 1) : Int))) (Need (Zdg sh b_B) (Need (decide (b_B.toNat < List.length (Zbq sh).lst)) (Q [[Cl.l [(Zz sh), (Zl sh), (Zm sh), (Zbf sh), (Zbg sh), (Zbh sh), (Zbi sh), (Zbj sh), (Zbk sh), (Zbo sh), [Cl.l (List.set (Zbq sh).lst b_B.toNat [Cl.i v])], (Zch sh), (Zdf sh)]]]))) (Vif (decide (b_A = (↑(nat_lit 10 + 1) : Int))) (Need (decide (0 <= b_B) && decide (b_B < (↑(List.length (Zv sh).lst) : Int))) (Need (decide (b_B.toNat < List.length (Zv sh).lst)) (Q [[Cl.l [(Zz sh), (Zl sh), (Zm sh), (Zbf sh), (Zbg sh), (Zbh sh), (Zbi sh), (Zbj sh), (Zbk sh), (Zbo sh), (Zr sh), [Cl.l (List.set (Zv sh).lst b_B.toNat [Cl.i v])], (Zdf sh)]]]))) (Need (decide (0 <= b_B) && decide (b_B < (↑(List.length (Zbb sh).lst) : Int))) (Need (decide (b_B.toNat < List.length (Zbb sh).lst)) (Q [[Cl.l [(Zz sh), (Zl sh), (Zm sh), (Zbf sh), (Zbg sh), (Zbh sh), (Zbi sh), (Zbj sh), (Zbk sh), (Zbo sh), (Zr sh), (Zch sh), [Cl.l (List.set (Zbb sh).lst b_B.toNat [Cl.i v])]]]])))))))))))))))))))) (Need (decide (0 <= b_A) && decide (b_A < (↑(nat_lit 11 + 1) : Int))) (Vif (Zbx b_A) (Need (Zy sh b_B) (Need (Zbm sh b_B) (Q [[Cl.l [(Zbn sh b_B v), (Zl sh), (Zm sh), (Zbf sh), (Zbg sh), (Zbh sh), (Zbi sh), (Zbj sh), (Zbk sh), (Zbo sh), (Zr sh), (Zch sh)]]]))) (Vif (decide (b_A = (↑(nat_lit 0 + 1) : Int))) (Need (Zck sh b_B) (Need (decide (b_B.toNat < List.length (Zbe sh).lst)) (Q [[Cl.l [(Zz sh), (Zds sh b_B v), (Zm sh), (Zbf sh), (Zbg sh), (Zbh sh), (Zbi sh), (Zbj sh), (Zbk sh), (Zbo sh), (Zr sh), (Zch sh)]]]))) (Vif (decide (b_A = (↑(nat_lit 1 + 1) : Int))) (Need (Zcl sh b_B) (Need (decide (b_B.toNat < List.length (Zbc sh).lst)) (Q [[Cl.l [(Zz sh), (Zl sh), (Zcw sh b_B v), (Zbf sh), (Zbg sh), (Zbh sh), (Zbi sh), (Zbj sh), (Zbk sh), (Zbo sh), (Zr sh), (Zch sh)]]]))) (Vif (decide (b_A = (↑(nat_lit 2 + 1) : Int))) (Need (Zcm sh b_B) (Need (Zdm sh b_B) (Q [[Cl.l [(Zz sh), (Zl sh), (Zm sh), (Zda sh b_B v), (Zbg sh), (Zbh sh), (Zbi sh), (Zbj sh), (Zbk sh), (Zbo sh), (Zr sh), (Zch sh)]]]))) (Vif (decide (b_A = (↑(nat_lit 3 + 1) : Int))) (Need (Zcn sh b_B) (Need (Zdn sh b_B) (Q [[Cl.l [(Zz sh), (Zl sh), (Zm sh), (Zbf sh), (Zdb sh b_B v), (Zbh sh), (Zbi sh), (Zbj sh), (Zbk sh), (Zbo sh), (Zr sh), (Zch sh)]]]))) (Vif (decide (b_A = (↑(nat_lit 4 + 1) : Int))) (Need (Zby sh b_B) (Need (Zdo sh b_B) (Q [[Cl.l [(Zz sh), (Zl sh), (Zm sh), (Zbf sh), (Zbg sh), (Zdc sh b_B v), (Zbi sh), (Zbj sh), (Zbk sh), (Zbo sh), (Zr sh), (Zch sh)]]]))) (Vif (decide (b_A = (↑(nat_lit 5 + 1) : Int))) (Need (Zbz sh b_B) (Need (Zdp sh b_B) (Q [[Cl.l [(Zz sh), (Zl sh), (Zm sh), (Zbf sh), (Zbg sh), (Zbh sh), (Zcs sh b_B v), (Zbj sh), (Zbk sh), (Zbo sh), (Zr sh), (Zch sh)]]]))) (Vif (decide (b_A = (↑(nat_lit 6 + 1) : Int))) (Need (Zca sh b_B) (Need (Zcx sh b_B) (Q [[Cl.l [(Zz sh), (Zl sh), (Zm sh), (Zbf sh), (Zbg sh), (Zbh sh), (Zbi sh), (Zct sh b_B v), (Zbk sh), (Zbo sh), (Zr sh), (Zch sh)]]]))) (Vif (decide (b_A = (↑(nat_lit 7 + 1) : Int))) (Need (Zcb sh b_B) (Need (Zcy sh b_B) (Q [[Cl.l [(Zz sh), (Zl sh), (Zm sh), (Zbf sh), (Zbg sh), (Zbh sh), (Zbi sh), (Zbj sh), (Zdd sh b_B v), (Zbo sh), (Zr sh), (Zch sh)]]]))) (Vif (decide (b_A = (↑(nat_lit 8 + 1) : Int))) (Need (Zco sh b_B) (Need (Zdq sh b_B) (Q [[Cl.l [(Zz sh), (Zl sh), (Zm sh), (Zbf sh), (Zbg sh), (Zbh sh), (Zbi sh), (Zbj sh), (Zbk sh), [Cl.l (List.set (Zq sh).lst b_B.toNat [Cl.i v])], (Zr sh), (Zch sh)]]]))) (Vif (decide (b_A = (↑(nat_lit 9 + 1) : Int))) (Need (Zdg sh b_B) (Need (decide (b_B.toNat < List.length (Zbq sh).lst)) (Q [[Cl.l [(Zz sh), (Zl sh), (Zm sh), (Zbf sh), (Zbg sh), (Zbh sh), (Zbi sh), (Zbj sh), (Zbk sh), (Zbo sh), [Cl.l (List.set (Zbq sh).lst b_B.toNat [Cl.i v])], (Zch sh)]]]))) (Need (decide (0 <= b_B) && decide (b_B < (↑(List.length (Zv sh).lst) : Int))) (Need (decide (b_B.toNat < List.length (Zv sh).lst)) (Q [[Cl.l [(Zz sh), (Zl sh), (Zm sh), (Zbf sh), (Zbg sh), (Zbh sh), (Zbi sh), (Zbj sh), (Zbk sh), (Zbo sh), (Zr sh), [Cl.l (List.set (Zv sh).lst b_B.toNat [Cl.i v])]]]]))))))))))))))))))) (Need (decide (0 <= b_A) && decide (b_A < (↑(10+1) : Int))) (Vif (Zbx b_A) (Need (Zy sh b_B) (Need (Zbm sh b_B) (Q [[Cl.l [(Zbn sh b_B v), (Zl sh), (Zm sh), (Zbf sh), (Zbg sh), (Zbh sh), (Zbi sh), (Zbj sh), (Zbk sh), (Zbo sh), (Zr sh)]]]))) (Vif (Zcg b_A) (Need (Zck sh b_B) (Need (decide (b_B.toNat < List.length (Zbe sh).lst)) (Q [[Cl.l [(Zz sh), (Zds sh b_B v), (Zm sh), (Zbf sh), (Zbg sh), (Zbh sh), (Zbi sh), (Zbj sh), (Zbk sh), (Zbo sh), (Zr sh)]]]))) (Vif (Zcj b_A) (Need (Zcl sh b_B) (Need (decide (b_B.toNat < List.length (Zbc sh).lst)) (Q [[Cl.l [(Zz sh), (Zl sh), (Zcw sh b_B v), (Zbf sh), (Zbg sh), (Zbh sh), (Zbi sh), (Zbj sh), (Zbk sh), (Zbo sh), (Zr sh)]]]))) (Vif (Zcp b_A) (Need (Zcm sh b_B) (Need (Zdm sh b_B) (Q [[Cl.l [(Zz sh), (Zl sh), (Zm sh), (Zda sh b_B v), (Zbg sh), (Zbh sh), (Zbi sh), (Zbj sh), (Zbk sh), (Zbo sh), (Zr sh)]]]))) (Vif (Zcv b_A) (Need (Zcn sh b_B) (Need (Zdn sh b_B) (Q [[Cl.l [(Zz sh), (Zl sh), (Zm sh), (Zbf sh), (Zdb sh b_B v), (Zbh sh), (Zbi sh), (Zbj sh), (Zbk sh), (Zbo sh), (Zr sh)]]]))) (Vif (decide (b_A = (↑(nat_lit 4 + 1) : Int))) (Need (Zby sh b_B) (Need (Zdo sh b_B) (Q [[Cl.l [(Zz sh), (Zl sh), (Zm sh), (Zbf sh), (Zbg sh), (Zdc sh b_B v), (Zbi sh), (Zbj sh), (Zbk sh), (Zbo sh), (Zr sh)]]]))) (Vif (decide (b_A = (↑(nat_lit 5 + 1) : Int))) (Need (Zbz sh b_B) (Need (Zdp sh b_B) (Q [[Cl.l [(Zz sh), (Zl sh), (Zm sh), (Zbf sh), (Zbg sh), (Zbh sh), (Zcs sh b_B v), (Zbj sh), (Zbk sh), (Zbo sh), (Zr sh)]]]))) (Vif (decide (b_A = (↑(nat_lit 6 + 1) : Int))) (Need (Zca sh b_B) (Need (Zcx sh b_B) (Q [[Cl.l [(Zz sh), (Zl sh), (Zm sh), (Zbf sh), (Zbg sh), (Zbh sh), (Zbi sh), (Zct sh b_B v), (Zbk sh), (Zbo sh), (Zr sh)]]]))) (Vif (decide (b_A = (↑(nat_lit 7 + 1) : Int))) (Need (Zcb sh b_B) (Need (Zcy sh b_B) (Q [[Cl.l [(Zz sh), (Zl sh), (Zm sh), (Zbf sh), (Zbg sh), (Zbh sh), (Zbi sh), (Zbj sh), (Zdd sh b_B v), (Zbo sh), (Zr sh)]]]))) (Vif (decide (b_A = (↑(nat_lit 8 + 1) : Int))) (Need (Zco sh b_B) (Need (Zdq sh b_B) (Q [[Cl.l [(Zz sh), (Zl sh), (Zm sh), (Zbf sh), (Zbg sh), (Zbh sh), (Zbi sh), (Zbj sh), (Zbk sh), [Cl.l (List.set (Zq sh).lst b_B.toNat [Cl.i v])], (Zr sh)]]]))) (Need (Zdg sh b_B) (Need (decide (b_B.toNat < List.length (Zbq sh).lst)) (Q [[Cl.l [(Zz sh), (Zl sh), (Zm sh), (Zbf sh), (Zbg sh), (Zbh sh), (Zbi sh), (Zbj sh), (Zbk sh), (Zbo sh), [Cl.l (List.set (Zbq sh).lst b_B.toNat [Cl.i v])]]]])))))))))))))))))) (Need (decide (0 <= b_A) && decide (b_A < (↑(9+1) : Int))) (Vif (Zbx b_A) (Need (Zy sh b_B) (Need (Zbm sh b_B) (Q [[Cl.l [(Zbn sh b_B v), (Zl sh), (Zm sh), (Zbf sh), (Zbg sh), (Zbh sh), (Zbi sh), (Zbj sh), (Zbk sh), (Zbo sh)]]]))) (Vif (Zcg b_A) (Need (Zck sh b_B) (Need (Zbv sh b_B) (Q [[Cl.l [(Zz sh), (Zds sh b_B v), (Zm sh), (Zbf sh), (Zbg sh), (Zbh sh), (Zbi sh), (Zbj sh), (Zbk sh), (Zbo sh)]]]))) (Vif (Zcj b_A) (Need (Zcl sh b_B) (Need (Zce sh b_B) (Q [[Cl.l [(Zz sh), (Zl sh), (Zcw sh b_B v), (Zbf sh), (Zbg sh), (Zbh sh), (Zbi sh), (Zbj sh), (Zbk sh), (Zbo sh)]]]))) (Vif (Zcp b_A) (Need (Zcm sh b_B) (Need (Zdm sh b_B) (Q [[Cl.l [(Zz sh), (Zl sh), (Zm sh), (Zda sh b_B v), (Zbg sh), (Zbh sh), (Zbi sh), (Zbj sh), (Zbk sh), (Zbo sh)]]]))) (Vif (Zcv b_A) (Need (Zcn sh b_B) (Need (Zdn sh b_B) (Q [[Cl.l [(Zz sh), (Zl sh), (Zm sh), (Zbf sh), (Zdb sh b_B v), (Zbh sh), (Zbi sh), (Zbj sh), (Zbk sh), (Zbo sh)]]]))) (Vif (Zdl b_A) (Need (Zby sh b_B) (Need (Zdo sh b_B) (Q [[Cl.l [(Zz sh), (Zl sh), (Zm sh), (Zbf sh), (Zbg sh), (Zdc sh b_B v), (Zbi sh), (Zbj sh), (Zbk sh), (Zbo sh)]]]))) (Vif (decide (b_A = (↑(5+1) : Int))) (Need (Zbz sh b_B) (Need (Zdp sh b_B) (Q [[Cl.l [(Zz sh), (Zl sh), (Zm sh), (Zbf sh), (Zbg sh), (Zbh sh), (Zcs sh b_B v), (Zbj sh), (Zbk sh), (Zbo sh)]]]))) (Vif (decide (b_A = (↑(6+1) : Int))) (Need (Zca sh b_B) (Need (Zcx sh b_B) (Q [[Cl.l [(Zz sh), (Zl sh), (Zm sh), (Zbf sh), (Zbg sh), (Zbh sh), (Zbi sh), (Zct sh b_B v), (Zbk sh), (Zbo sh)]]]))) (Vif (decide (b_A = (↑(7+1) : Int))) (Need (Zcb sh b_B) (Need (Zcy sh b_B) (Q [[Cl.l [(Zz sh), (Zl sh), (Zm sh), (Zbf sh), (Zbg sh), (Zbh sh), (Zbi sh), (Zbj sh), (Zdd sh b_B v), (Zbo sh)]]]))) (Need (Zco sh b_B) (Need (Zdq sh b_B) (Q [[Cl.l [(Zz sh), (Zl sh), (Zm sh), (Zbf sh), (Zbg sh), (Zbh sh), (Zbi sh), (Zbj sh), (Zbk sh), [Cl.l (List.set (Zq sh).lst b_B.toNat [Cl.i v])]]]]))))))))))))))))) (Need (decide (0 <= b_A) && decide (b_A < (↑(8+1) : Int))) (Vif (Zbx b_A) (Need (Zy sh b_B) (Need (Zbm sh b_B) (Q [[Cl.l [(Zbn sh b_B v), (Zbt sh), (Zbu sh), (Zbw sh), (Zcd sh), (Zci sh), (Zcq sh), (Zbp sh), [Cl.l (Zdk sh).lst]]]]))) (Vif (Zcg b_A) (Need (Zbl sh b_B) (Need (Zbv sh b_B) (Q [[Cl.l [(Zz sh), (Zcf sh b_B v), (Zbu sh), (Zbw sh), (Zcd sh), (Zci sh), (Zcq sh), (Zbp sh), [Cl.l (Zdk sh).lst]]]]))) (Vif (Zcj b_A) (Need (Zbr sh b_B) (Need (Zce sh b_B) (Q [[Cl.l [(Zz sh), (Zbt sh), (Zcw sh b_B v), (Zbw sh), (Zcd sh), (Zci sh), (Zcq sh), (Zbp sh), [Cl.l (Zdk sh).lst]]]]))) (Vif (Zcp b_A) (Need (Zbs sh b_B) (Need (Zcr sh b_B) (Q [[Cl.l [(Zz sh), (Zl sh), (Zm sh), (Zda sh b_B v), (Zbg sh), (Zbh sh), (Zbi sh), (Zbj sh), (Zbk sh)]]]))) (Vif (Zcv b_A) (Need (Zcc sh b_B) (Need (Zcz sh b_B) (Q [[Cl.l [(Zz sh), (Zl sh), (Zm sh), (Zbf sh), (Zdb sh b_B v), (Zbh sh), (Zbi sh), (Zbj sh), (Zbk sh)]]]))) (Vif (Zdl b_A) (Need (Zby sh b_B) (Need (Zdr sh b_B) (Q [[Cl.l [(Zz sh), (Zl sh), (Zm sh), (Zbf sh), (Zbg sh), (Zdc sh b_B v), (Zbi sh), (Zbj sh), (Zbk sh)]]]))) (Vif (decide (b_A = (↑(5+1) : Int))) (Need (Zbz sh b_B) (Need (decide (b_B.toNat < List.length (Zba sh).lst)) (Q [[Cl.l [(Zz sh), (Zl sh), (Zm sh), (Zbf sh), (Zbg sh), (Zbh sh), (Zcs sh b_B v), (Zbj sh), (Zbk sh)]]]))) (Vif (decide (b_A = (↑(6+1) : Int))) (Need (Zca sh b_B) (Need (Zcx sh b_B) (Q [[Cl.l [(Zz sh), (Zl sh), (Zm sh), (Zbf sh), (Zbg sh), (Zbh sh), (Zbi sh), (Zct sh b_B v), (Zbk sh)]]]))) (Need (Zcb sh b_B) (Need (Zcy sh b_B) (Q [[Cl.l [(Zz sh), (Zl sh), (Zm sh), (Zbf sh), (Zbg sh), (Zbh sh), (Zbi sh), (Zbj sh), (Zdd sh b_B v)]]])))))))))))))))) (Need (decide (0 <= b_A) && decide (b_A < (↑(7+1) : Int))) (Vif (Zbx b_A) (Need (Zy sh b_B) (Need (Zbm sh b_B) (Q [[Cl.l [(Zbn sh b_B v), (Zbt sh), (Zbu sh), (Zbw sh), (Zcd sh), (Zci sh), (Zcq sh), (Zbp sh)]]]))) (Vif (Zcg b_A) (Need (Zbl sh b_B) (Need (Zbv sh b_B) (Q [[Cl.l [(Zz sh), (Zcf sh b_B v), (Zbu sh), (Zbw sh), (Zcd sh), (Zci sh), (Zcq sh), (Zbp sh)]]]))) (Vif (Zcj b_A) (Need (Zbr sh b_B) (Need (Zce sh b_B) (Q [[Cl.l [(Zz sh), (Zbt sh), (Zcu sh b_B v), (Zbw sh), (Zcd sh), (Zci sh), (Zcq sh), (Zbp sh)]]]))) (Vif (Zcp b_A) (Need (Zbs sh b_B) (Need (Zcr sh b_B) (Q [[Cl.l [(Zz sh), (Zbt sh), (Zbu sh), (Zde sh b_B v), (Zcd sh), (Zci sh), (Zcq sh), (Zbp sh)]]]))) (Vif (Zcv b_A) (Need (Zcc sh b_B) (Need (Zcz sh b_B) (Q [[Cl.l [(Zz sh), (Zbt sh), (Zbu sh), (Zbw sh), [Cl.l (List.set (Zw sh).lst b_B.toNat [Cl.i v])], (Zci sh), (Zcq sh), (Zbp sh)]]]))) (Vif (Zdl b_A) (Need (Zdh sh b_B) (Need (Zdr sh b_B) (Q [[Cl.l [(Zz sh), (Zbt sh), (Zbu sh), (Zbw sh), (Zcd sh), [Cl.l (List.set (Zx sh).lst b_B.toNat [Cl.i v])], (Zcq sh), (Zbp sh)]]]))) (Vif (decide (b_A = (↑(5+1) : Int))) (Need (decide (0 <= b_B) && decide (b_B < (↑(List.length (Zba sh).lst) : Int))) (Need (decide (b_B.toNat < List.length (Zba sh).lst)) (Q [[Cl.l [(Zz sh), (Zbt sh), (Zbu sh), (Zbw sh), (Zcd sh), (Zci sh), (Zcs sh b_B v), (Zbp sh)]]]))) (Need (decide (0 <= b_B) && decide (b_B < (↑(List.length (Zdj sh).lst) : Int))) (Need (decide (b_B.toNat < List.length (Zdj sh).lst)) (Q [[Cl.l [(Zz sh), (Zbt sh), (Zbu sh), (Zbw sh), (Zcd sh), (Zci sh), (Zcq sh), (Zct sh b_B v)]]]))))))))))))))) (Need (decide (0 <= b_A) && decide (b_A < (↑(6+1) : Int))) (Vif (Zbx b_A) (Need (Zy sh b_B) (Need (Zbm sh b_B) (Q [[Cl.l [(Zbn sh b_B v), (Zbt sh), (Zbu sh), (Zbw sh), (Zcd sh), (Zci sh), (Zcq sh)]]]))) (Vif (Zcg b_A) (Need (Zbl sh b_B) (Need (Zbv sh b_B) (Q [[Cl.l [(Zz sh), (Zcf sh b_B v), (Zbu sh), (Zbw sh), (Zcd sh), (Zci sh), (Zcq sh)]]]))) (Vif (Zcj b_A) (Need (Zbr sh b_B) (Need (Zce sh b_B) (Q [[Cl.l [(Zz sh), (Zbt sh), (Zcu sh b_B v), (Zbw sh), (Zcd sh), (Zci sh), (Zcq sh)]]]))) (Vif (Zcp b_A) (Need (Zbs sh b_B) (Need (Zcr sh b_B) (Q [[Cl.l [(Zz sh), (Zbt sh), (Zbu sh), (Zde sh b_B v), (Zcd sh), (Zci sh), (Zcq sh)]]]))) (Vif (Zcv b_A) (Need (Zcc sh b_B) (Need (Zcz sh b_B) (Q [[Cl.l [(Zz sh), (Zbt sh), (Zbu sh), (Zbw sh), [Cl.l (List.set (Zw sh).lst b_B.toNat [Cl.i v])], (Zci sh), (Zcq sh)]]]))) (Vif (Zdl b_A) (Need (Zdh sh b_B) (Need (Zdr sh b_B) (Q [[Cl.l [(Zz sh), (Zbt sh), (Zbu sh), (Zbw sh), (Zcd sh), [Cl.l (List.set (Zx sh).lst b_B.toNat [Cl.i v])], (Zcq sh)]]]))) (Need (decide (0 <= b_B) && decide (b_B < (↑(List.length (Zba sh).lst) : Int))) (Need (decide (b_B.toNat < List.length (Zba sh).lst)) (Q [[Cl.l [(Zz sh), (Zbt sh), (Zbu sh), (Zbw sh), (Zcd sh), (Zci sh), [Cl.l (List.set (Zba sh).lst b_B.toNat [Cl.i v])]]]])))))))))))))) (Need (decide (0 <= b_A) && decide (b_A < (↑(5+1) : Int))) (Vif (Zbx b_A) (Need (Zy sh b_B) (Need (Zbm sh b_B) (Q [[Cl.l [(Zbn sh b_B v), (Zbt sh), (Zbu sh), (Zbw sh), (Zcd sh), (Zci sh)]]]))) (Vif (Zcg b_A) (Need (Zbl sh b_B) (Need (Zbv sh b_B) (Q [[Cl.l [(Zz sh), (Zcf sh b_B v), (Zbu sh), (Zbw sh), (Zcd sh), (Zci sh)]]]))) (Vif (Zcj b_A) (Need (Zbr sh b_B) (Need (Zce sh b_B) (Q [[Cl.l [(Zz sh), (Zbt sh), (Zcu sh b_B v), (Zbw sh), (Zcd sh), (Zci sh)]]]))) (Vif (Zcp b_A) (Need (Zbs sh b_B) (Need (Zcr sh b_B) (Q [[Cl.l [(Zz sh), (Zbt sh), (Zbu sh), (Zde sh b_B v), (Zcd sh), (Zci sh)]]]))) (Vif (Zcv b_A) (Need (Zcc sh b_B) (Need (Zcz sh b_B) (Q [[Cl.l [(Zz sh), (Zbt sh), (Zbu sh), (Zbw sh), [Cl.l (List.set (Zw sh).lst b_B.toNat [Cl.i v])], (Zci sh)]]]))) (Need (Zdh sh b_B) (Need (Zdr sh b_B) (Q [[Cl.l [(Zz sh), (Zbt sh), (Zbu sh), (Zbw sh), (Zcd sh), [Cl.l (List.set (Zx sh).lst b_B.toNat [Cl.i v])]]]]))))))))))))) (Need (decide (0 <= b_A) && decide (b_A < (↑(4+1) : Int))) (Vif (Zbx b_A) (Need (Zy sh b_B) (Need (Zbm sh b_B) (Q [[Cl.l [(Zbn sh b_B v), (Zbt sh), (Zbu sh), (Zbw sh), (Zcd sh)]]]))) (Vif (Zcg b_A) (Need (Zbl sh b_B) (Need (Zbv sh b_B) (Q [[Cl.l [(Zz sh), (Zcf sh b_B v), (Zbu sh), (Zbw sh), (Zcd sh)]]]))) (Vif (Zcj b_A) (Need (Zbr sh b_B) (Need (Zce sh b_B) (Q [[Cl.l [(Zz sh), (Zbt sh), (Zcu sh b_B v), (Zbw sh), (Zcd sh)]]]))) (Vif (Zcp b_A) (Need (Zbs sh b_B) (Need (Zcr sh b_B) (Q [[Cl.l [(Zz sh), (Zbt sh), (Zbu sh), (Zde sh b_B v), (Zcd sh)]]]))) (Need (Zcc sh b_B) (Need (Zcz sh b_B) (Q [[Cl.l [(Zz sh), (Zbt sh), (Zbu sh), (Zbw sh), [Cl.l (List.set (Zw sh).lst b_B.toNat [Cl.i v])]]]])))))))))))) (Need (decide (0 <= b_A) && decide (b_A < (↑(3+1) : Int))) (Vif (Zbx b_A) (Need (Zy sh b_B) (Need (Zbm sh b_B) (Q [[Cl.l [(Zbn sh b_B v), (Zbt sh), (Zbu sh), (Zbw sh)]]]))) (Vif (Zcg b_A) (Need (Zbl sh b_B) (Need (Zbv sh b_B) (Q [[Cl.l [(Zz sh), (Zcf sh b_B v), (Zbu sh), (Zbw sh)]]]))) (Vif (Zcj b_A) (Need (Zbr sh b_B) (Need (Zce sh b_B) (Q [[Cl.l [(Zz sh), (Zbt sh), (Zcu sh b_B v), (Zbw sh)]]]))) (Need (Zbs sh b_B) (Need (Zcr sh b_B) (Q [[Cl.l [(Zz sh), (Zbt sh), (Zbu sh), (Zde sh b_B v)]]]))))))))))) (Need (decide (0 <= b_A) && decide (b_A < (↑(2+1) : Int))) (Vif (Zbx b_A) (Need (Zy sh b_B) (Need (Zbm sh b_B) (Q [[Cl.l [(Zbn sh b_B v), (Zbt sh), (Zbu sh)]]]))) (Vif (Zcg b_A) (Need (Zbl sh b_B) (Need (Zbv sh b_B) (Q [[Cl.l [(Zz sh), (Zcf sh b_B v), (Zbu sh)]]]))) (Need (Zbr sh b_B) (Need (Zce sh b_B) (Q [[Cl.l [(Zz sh), (Zbt sh), (Zcu sh b_B v)]]])))))))))) (Need (decide (0 <= b_A) && decide (b_A < (↑(1+1) : Int))) (Vif (Zbx b_A) (Need (Zy sh b_B) (Need (Zbm sh b_B) (Q [[Cl.l [(Zbn sh b_B v), (Zbt sh)]]]))) (Need (Zbl sh b_B) (Need (Zbv sh b_B) (Q [[Cl.l [(Zz sh), (Zcf sh b_B v)]]]))))))))) (Need (decide (0 <= b_A) && decide (b_A < (↑(1 : Nat) : Int))) (Need (Zy sh b_B) (Need (Zbm sh b_B) (Q [[Cl.l [(Zbn sh b_B v)]]])))))))) (false = false /\ False)
theorem Xm0 (W : InW) (sh b_A b_B v Q) : Ywr (cxT Try.prog TT T18 1000 50) 1000 47 [.rs _ sh, .agg [.si .i64 b_A, .si .i64 b_B], .si .i64 v] [] 0 (Y01 [(false, [.fro [.sl Jc]])] Q) (fun _ _ _ _ => Stuck 421) = Xd5 sh b_A b_B v Q := by kernel_rfl
abbrev Xcp : List AT := [.one (.sl Jb), .agg [.int .i64, .int .i64], .one (.int .i64)]
theorem Xoo {pre : DS -> Prop} {res : DS -> DS} (hyp_ : ∀ (W : InW) (sh : Ro Jb) (b_A b_B v : Int), pre [[.l sh.xs], [.i b_A, .i b_B], [.i v]] -> ∀ Q : DS -> Prop, Q (res [[.l sh.xs], [.i b_A, .i b_B], [.i v]]) -> Xd5 sh b_A b_B v Q) : PureOk Try.prog 47 Xcp [(false, [.fro [.sl Jc]])] pre res :=
 PureOk.of' (fun W => @TT W) (fun W => @Xe W) Xa T18 1000 50 fun W sh b_A b_B v hp =>
  (Xm0 W sh b_A b_B v (fun o => o = res [[.l sh.xs], [.i b_A, .i b_B], [.i v]])).mpr (hyp_ W sh b_A b_B v hp _ rfl)
abbrev Xga (ds : DS) : DS := match ds with | [[.l sh], [.i q, .i j], [.i v]] => [[.l (Sp.withD sh q.toNat j.toNat v)]] | _ => []
abbrev Xge (ds : DS) : Prop := match ds with | [[.l sh], [.i q, .i j], [.i v]] => Sp.Few sh /\ (0 <= q /\ q < sh.length) /\ 0 <= j /\ j < (Sp.row sh q.toNat).length | _ => False
theorem Xf [InW] {sh : Dt} {q j v : Int} {Q : DS -> Prop} {n : Nat} (m : Nat) (hq : q = (m : Int)) (h5 : 0 <= j) (h6 : j < (Sp.row sh q.toNat).length) {R : Dt} (h : Q [[.l (Sp.withR sh q.toNat j.toNat v 0 n)]]) (e : Sp.withR sh m j.toNat v 0 n = R) :
  Need (decide (0 <= j) && decide (j < ((Sp.row sh m).length : Int))) (Need (decide (j.toNat < (Sp.row sh m).length)) (Q [[.l R]])) := by
 subst hq;rw [Int.toNat_natCast] at h6 h;rw [e] at h;exact ned (by simp only [Bool.and_eq_true, decide_eq_true_eq]; exact ⟨h5, h6⟩) (nedd (by omega) h)
theorem Xpy : PureOk Try.prog 47 Xcp [(false, [.fro [.sl Jc]])] Xge Xga :=
 Xoo fun W sh q j v hp Q h => by
  obtain ⟨⟨h1, h2⟩, ⟨h3, h4⟩, h5, h6⟩ : Sp.Few sh.xs /\ (0 <= q /\ q < sh.xs.length) /\ 0 <= j /\ j < (Sp.row sh.xs q.toNat).length := hp;have h : Q [[.l (Sp.withR sh.xs q.toNat j.toNat v 0 sh.xs.length)]] := h;unfold Xd5;delta Zbn Zbm Zy Zcf Zz Zbv Zbl Zbt Zcu Zce Zbr Zbu Zde Zcr Zbs Zbw Zcz Zcc Zcd Zdr Zdh Zci Zcq Zct Zbp Zcs Zdd Zbj Zbi Zbh Zbg Zbf Zm Zl Zcy Zcb Zbk Zcx Zca Zbz Zdc Zby Zdb Zda Zcw Zdq Zco Zbo Zdp Zdo Zdn Zcn Zdm Zcm Zcl Zds Zck Zdg Zr Zch Zdf Zh Zs Zbx Zt Zu Zw Zx Zba Zi Zdj Zj Zk Zn Zp Zo Zbc Zbe Zdk Zq Zbq Zv Zbb Zg Zb Zcg Zcj Zcp Zcv Zdl Zdi Zbd;simp only [Nat.zero_add, Nat.reduceAdd, Int.ofNat_eq_natCast, Int.toNat_natCast, show Int.toNat 0 = 0 from rfl, show ∀ k, (cel sh.xs k 0).lst = Sp.row sh.xs k from fun _ => rfl];have hb : ∀ k, (Sp.row sh.xs k).length <= 4 := fun k => by
   rcases Nat.lt_or_ge k sh.xs.length with a | a
   ·exact h2 k a
   ·have : Sp.row sh.xs k = [] := by unfold Sp.row cel; rw [List.getD_eq_getElem?_getD (l := sh.xs), List.getElem?_eq_none a]; rfl
    rw [this]; simp
  refine vifd (fun e => ?_) fun e => by omega
  have b0 := hb 0;refine ned (by simp only [Bool.and_eq_true, decide_eq_true_eq]; omega) (nedd (by omega) (nedd (by omega) ?_));refine vifd (fun e => ?_) fun e => ?_
  rotate_left
  ·rw [show sh.xs.length = 1 by omega] at h;refine ned (by simp only [Bool.and_eq_true, decide_eq_true_eq]; omega) ?_;exact Xf 0 (by omega) h5 h6 h rfl
  have b1 := hb 1;refine ned (by simp only [Bool.and_eq_true, decide_eq_true_eq]; omega) (nedd (by omega) (nedd (by omega) ?_));refine vifd (fun e => ?_) fun e => ?_
  rotate_left
  ·rw [show sh.xs.length = 2 by omega] at h;refine ned (by simp only [Bool.and_eq_true, decide_eq_true_eq]; omega) ?_
   iterate 1 refine vifd (fun e => Xf _ e h5 h6 h rfl) fun _ => ?_
   exact Xf 1 (by omega) h5 h6 h rfl
  have b2 := hb 2;refine ned (by simp only [Bool.and_eq_true, decide_eq_true_eq]; omega) (nedd (by omega) (nedd (by omega) ?_));refine vifd (fun e => ?_) fun e => ?_
  rotate_left
  ·rw [show sh.xs.length = 3 by omega] at h;refine ned (by simp only [Bool.and_eq_true, decide_eq_true_eq]; omega) ?_
   iterate 2 refine vifd (fun e => Xf _ e h5 h6 h rfl) fun _ => ?_
   exact Xf 2 (by omega) h5 h6 h rfl
  have b3 := hb 3;refine ned (by simp only [Bool.and_eq_true, decide_eq_true_eq]; omega) (nedd (by omega) (nedd (by omega) ?_));refine vifd (fun e => ?_) fun e => ?_
  rotate_left
  ·rw [show sh.xs.length = 4 by omega] at h;refine ned (by simp only [Bool.and_eq_true, decide_eq_true_eq]; omega) ?_
   iterate 3 refine vifd (fun e => Xf _ e h5 h6 h rfl) fun _ => ?_
   exact Xf 3 (by omega) h5 h6 h rfl
  have b4 := hb 4;refine ned (by simp only [Bool.and_eq_true, decide_eq_true_eq]; omega) (nedd (by omega) (nedd (by omega) ?_));refine vifd (fun e => ?_) fun e => ?_
  rotate_left
  ·rw [show sh.xs.length = 5 by omega] at h;refine ned (by simp only [Bool.and_eq_true, decide_eq_true_eq]; omega) ?_
   iterate 4 refine vifd (fun e => Xf _ e h5 h6 h rfl) fun _ => ?_
   exact Xf 4 (by omega) h5 h6 h rfl
  have b5 := hb 5;refine ned (by simp only [Bool.and_eq_true, decide_eq_true_eq]; omega) (nedd (by omega) (nedd (by omega) ?_));refine vifd (fun e => ?_) fun e => ?_
  rotate_left
  ·rw [show sh.xs.length = 6 by omega] at h;refine ned (by simp only [Bool.and_eq_true, decide_eq_true_eq]; omega) ?_
   iterate 5 refine vifd (fun e => Xf _ e h5 h6 h rfl) fun _ => ?_
   exact Xf 5 (by omega) h5 h6 h rfl
  have b6 := hb 6;refine ned (by simp only [Bool.and_eq_true, decide_eq_true_eq]; omega) (nedd (by omega) (nedd (by omega) ?_));refine vifd (fun e => ?_) fun e => ?_
  rotate_left
  ·rw [show sh.xs.length = 7 by omega] at h;refine ned (by simp only [Bool.and_eq_true, decide_eq_true_eq]; omega) ?_
   iterate 6 refine vifd (fun e => Xf _ e h5 h6 h rfl) fun _ => ?_
   exact Xf 6 (by omega) h5 h6 h rfl
  have b7 := hb 7;refine ned (by simp only [Bool.and_eq_true, decide_eq_true_eq]; omega) (nedd (by omega) (nedd (by omega) ?_));refine vifd (fun e => ?_) fun e => ?_
  rotate_left
  ·rw [show sh.xs.length = 8 by omega] at h;refine ned (by simp only [Bool.and_eq_true, decide_eq_true_eq]; omega) ?_
   iterate 7 refine vifd (fun e => Xf _ e h5 h6 h rfl) fun _ => ?_
   exact Xf 7 (by omega) h5 h6 h rfl
  have b8 := hb 8;refine ned (by simp only [Bool.and_eq_true, decide_eq_true_eq]; omega) (nedd (by omega) (nedd (by omega) ?_));refine vifd (fun e => ?_) fun e => ?_
  rotate_left
  ·rw [show sh.xs.length = 9 by omega] at h;refine ned (by simp only [Bool.and_eq_true, decide_eq_true_eq]; omega) ?_
   iterate 8 refine vifd (fun e => Xf _ e h5 h6 h rfl) fun _ => ?_
   exact Xf 8 (by omega) h5 h6 h rfl
  have b9 := hb 9;refine ned (by simp only [Bool.and_eq_true, decide_eq_true_eq]; omega) (nedd (by omega) (nedd (by omega) ?_));refine vifd (fun e => ?_) fun e => ?_
  rotate_left
  ·rw [show sh.xs.length = 10 by omega] at h;refine ned (by simp only [Bool.and_eq_true, decide_eq_true_eq]; omega) ?_
   iterate 9 refine vifd (fun e => Xf _ e h5 h6 h rfl) fun _ => ?_
   exact Xf 9 (by omega) h5 h6 h rfl
  have b10 := hb 10;refine ned (by simp only [Bool.and_eq_true, decide_eq_true_eq]; omega) (nedd (by omega) (nedd (by omega) ?_));refine vifd (fun e => ?_) fun e => ?_
  rotate_left
  ·rw [show sh.xs.length = 11 by omega] at h;refine ned (by simp only [Bool.and_eq_true, decide_eq_true_eq]; omega) ?_
   iterate 10 refine vifd (fun e => Xf _ e h5 h6 h rfl) fun _ => ?_
   exact Xf 10 (by omega) h5 h6 h rfl
  have b11 := hb 11;refine ned (by simp only [Bool.and_eq_true, decide_eq_true_eq]; omega) (nedd (by omega) (nedd (by omega) ?_));refine vifd (fun e => ?_) fun e => ?_
  rotate_left
  ·rw [show sh.xs.length = 12 by omega] at h;refine ned (by simp only [Bool.and_eq_true, decide_eq_true_eq]; omega) ?_
   iterate 11 refine vifd (fun e => Xf _ e h5 h6 h rfl) fun _ => ?_
   exact Xf 11 (by omega) h5 h6 h rfl
  omega
noncomputable def Xne : PC Try.prog := ⟨47, Xcp, [(false, [.fro [.sl Jc]])], Xge, Xga, Xpy⟩
open Go.RowKit
namespace Sp
def prow (d : Dt) (i : Nat) : Nat -> Nat -> List (Nat × Nat)
 | _, 0 => []
 | j, n + 1 => (if bx d j = 2 then [(i, j)] else []) ++ prow d i (j + 1) n
def pall (sh : Dt) : Nat -> Nat -> List (Nat × Nat)
 | _, 0 => []
 | i, n + 1 => prow (row sh i) i 0 (row sh i).length ++ pall sh (i + 1) n
def pos (sh : Dt) : List (Nat × Nat) := pall sh 0 sh.length
def prC (p : Nat × Nat) : List Cl := [.i p.1, .i p.2]
theorem unsRow_pos (d : Dt) (i : Nat) : ∀ n j, unsRow d i j n = (prow d i j n).map prC
 | 0, _ => rfl
 | n + 1, j => by
  simp only [unsRow, prow, List.map_append, unsRow_pos d i n]
  split <;> rfl
theorem unsAll_pos (sh : Dt) : ∀ n i, unsAll sh i n = (pall sh i n).map prC
 | 0, _ => rfl
 | n + 1, i => by simp only [unsAll, pall, List.map_append, unsAll_pos sh n, unsRow_pos]
theorem uns_pos (sh : Dt) : uns sh = (pos sh).map prC := unsAll_pos sh _ _
theorem uns_len (sh : Dt) : (uns sh).length = (pos sh).length := by rw [uns_pos, List.length_map]
theorem mem_prow {d : Dt} {i : Nat} {p : Nat × Nat} : ∀ {n j : Nat}, p ∈ prow d i j n ↔ p.1 = i /\ j <= p.2 /\ p.2 < j + n /\ bx d p.2 = 2
 | 0, j => by simp [prow]; omega
 | n + 1, j => by
  simp only [prow, List.mem_append, mem_prow (n := n)]
  by_cases e : bx d j = 2
  ·simp only [e, if_true, List.mem_singleton];constructor
   ·rintro (h | ⟨h1, h2, h3, h4⟩)
    ·subst h; exact ⟨rfl, Nat.le_refl _, by show j < _; omega, e⟩
    ·exact ⟨h1, by omega, by omega, h4⟩
   ·rintro ⟨h1, h2, h3, h4⟩;rcases Nat.eq_or_lt_of_le h2 with c | c
    ·exact .inl (Prod.ext h1 c.symm)
    ·exact .inr ⟨h1, by omega, by omega, h4⟩
  ·simp only [e, if_false, List.not_mem_nil, false_or];constructor
   ·rintro ⟨h1, h2, h3, h4⟩;exact ⟨h1, by omega, by omega, h4⟩
   ·rintro ⟨h1, h2, h3, h4⟩;rcases Nat.eq_or_lt_of_le h2 with c | c
    ·exact absurd (c ▸ h4) e
    ·exact ⟨h1, by omega, by omega, h4⟩
theorem mem_pall {sh : Dt} {p : Nat × Nat} : ∀ {n i : Nat}, p ∈ pall sh i n ↔ i <= p.1 /\ p.1 < i + n /\ p.2 < (row sh p.1).length /\ bx (row sh p.1) p.2 = 2
 | 0, i => by simp [pall]; omega
 | n + 1, i => by
  simp only [pall, List.mem_append, mem_pall (n := n), mem_prow];constructor
  ·rintro (⟨h1, h2, h3, h4⟩ | ⟨h1, h2, h3, h4⟩)
   ·subst h1; exact ⟨Nat.le_refl _, by omega, by omega, h4⟩
   ·exact ⟨by omega, by omega, h3, h4⟩
  ·rintro ⟨h1, h2, h3, h4⟩;rcases Nat.eq_or_lt_of_le h1 with c | c
   ·left; rw [c]; exact ⟨rfl, by omega, by omega, h4⟩
   ·right; exact ⟨by omega, by omega, h3, h4⟩
theorem mem_pos {sh : Dt} {p : Nat × Nat} : p ∈ pos sh ↔ p.1 < sh.length /\ p.2 < (row sh p.1).length /\ bx (row sh p.1) p.2 = 2 := by
 unfold pos; rw [mem_pall]; constructor
 ·rintro ⟨_, h2, h3⟩; exact ⟨by omega, h3⟩
 ·rintro ⟨h2, h3⟩; exact ⟨Nat.zero_le _, by omega, h3⟩
theorem prow_nd (d : Dt) (i : Nat) : ∀ n j, (prow d i j n).Nodup
 | 0, _ => List.nodup_nil
 | n + 1, j => by
  simp only [prow]
  split
  ·refine List.nodup_cons.2 ⟨fun h => ?_, prow_nd d i n (j + 1)⟩;have := (mem_prow.1 h).2.1;simp at this; omega
  ·exact prow_nd d i n (j + 1)
theorem pall_nd (sh : Dt) : ∀ n i, (pall sh i n).Nodup
 | 0, _ => List.nodup_nil
 | n + 1, i => by
  simp only [pall];refine List.nodup_append.2 ⟨prow_nd _ _ _ _, pall_nd sh n (i + 1), fun a ha b hb e => ?_⟩;subst e;have h1 := (mem_prow.1 ha).1;have h2 := (mem_pall.1 hb).1;omega
theorem pos_nd (sh : Dt) : (pos sh).Nodup := pall_nd _ _ _
theorem withR_len (sh : Dt) (q j : Nat) (v : Int) : ∀ n i, (withR sh q j v i n).length = n
 | 0, _ => rfl
 | n + 1, i => by simp [withR, withR_len sh q j v n]
theorem withD_len (sh : Dt) (q j : Nat) (v : Int) : (withD sh q j v).length = sh.length := withR_len _ _ _ _ _ _
theorem row_cons0 (a : Dt) (l : Dt) : row ([.l a] :: l) 0 = a := rfl
theorem row_consS (a : List Cl) (l : Dt) (k : Nat) : row (a :: l) (k + 1) = row l k := rfl
theorem withR_row (sh : Dt) (q j : Nat) (v : Int) : ∀ n i k, k < n -> row (withR sh q j v i n) k = if i + k = q then (row sh (i + k)).set j [.i v] else row sh (i + k)
 | 0, _, _, h => by omega
 | n + 1, i, 0, _ => by simp only [withR, row_cons0, Nat.add_zero]
 | n + 1, i, k + 1, h => by
  simp only [withR, row_consS];rw [withR_row sh q j v n (i + 1) k (by omega), show i + 1 + k = i + (k + 1) by omega]
theorem row_out {sh : Dt} {k : Nat} (h : sh.length <= k) : row sh k = [] := by
 unfold row cel;rw [List.getD_eq_getElem?_getD (l := sh), List.getElem?_eq_none h]; rfl
theorem withD_row (sh : Dt) (q j : Nat) (v : Int) (k : Nat) (hk : k < sh.length) : row (withD sh q j v) k = if k = q then (row sh k).set j [.i v] else row sh k := by
 unfold withD; rw [withR_row _ _ _ _ _ _ _ hk]; simp
theorem withD_rlen (sh : Dt) (q j : Nat) (v : Int) (k : Nat) : (row (withD sh q j v) k).length = (row sh k).length := by
 rcases Nat.lt_or_ge k sh.length with h | h
 ·rw [withD_row _ _ _ _ _ h]; split <;> simp
 ·rw [row_out h, row_out (by rw [withD_len]; exact h)]
theorem bx_set (d : Dt) (j k : Nat) (v : Int) (h : k < d.length) : bx (d.set j [.i v]) k = if k = j then v else bx d k := by
 unfold bx cel;rw [List.getD_eq_getElem?_getD (l := d.set j [.i v]), List.getElem?_set]
 by_cases e : j = k
 ·subst e; simp [h, Cl.int]
 ·simp [e, Ne.symm e]
theorem withD_bx (sh : Dt) (q j : Nat) (v : Int) (k b : Nat) (hk : k < sh.length) (hb : b < (row sh k).length) : bx (row (withD sh q j v) k) b = if (k, b) = (q, j) then v else bx (row sh k) b := by
 rw [withD_row _ _ _ _ _ hk]
 by_cases e : k = q
 ·subst e; rw [if_pos rfl, bx_set _ _ _ _ hb]; simp
 ·rw [if_neg e, if_neg (by simp [e])]
theorem prow_f {d d' : Dt} {i : Nat} {p : Nat × Nat} (h : ∀ j, j < d.length -> (bx d' j = 2 ↔ bx d j = 2 /\ (i, j) ≠ p)) : ∀ n j, j + n <= d.length -> prow d' i j n = (prow d i j n).filter (fun x => decide (x ≠ p))
 | 0, _, _ => rfl
 | n + 1, j, hj => by
  simp only [prow, List.filter_append, prow_f h n (j + 1) (by omega)];have := h j (by omega)
  by_cases e : bx d j = 2
  ·by_cases e2 : (i, j) = p
   ·rw [if_neg (fun c => (this.1 c).2 e2)]; simp [e, e2]
   ·rw [if_pos (this.2 ⟨e, e2⟩)]; simp [e, e2]
  ·rw [if_neg (fun c => e (this.1 c).1)]; simp [e]
theorem pos_with {sh : Dt} {q j : Nat} {v : Int} (hv : v ≠ 2) : pos (withD sh q j v) = (pos sh).filter (fun x => decide (x ≠ (q, j))) := by
 unfold pos;rw [withD_len]
 suffices h : ∀ n i, i + n <= sh.length -> pall (withD sh q j v) i n = (pall sh i n).filter (fun x => decide (x ≠ (q, j))) from h _ _ (by omega)
 intro n
 induction n with
 | zero => intro i _; rfl
 | succ n ih =>
  intro i hi;simp only [pall, List.filter_append, ih (i + 1) (by omega), withD_rlen];rw [prow_f (d := row sh i) (p := (q, j)) (fun b hb => ?_) _ _ (by omega)];rw [withD_bx _ _ _ _ _ _ (by omega) hb]
  by_cases e : (i, b) = (q, j)
  ·rw [if_pos e]; simp [e, hv]
  ·rw [if_neg e]; simp [e]
theorem filter_ne_tl {p : Nat × Nat} : ∀ {l : List (Nat × Nat)}, p ∉ l -> l.filter (fun x => decide (x ≠ p)) = l
 | [], _ => rfl
 | a :: l, h => by
  have h1 : a ≠ p := fun e => h (e ▸ List.mem_cons_self);have h2 : p ∉ l := fun e => h (List.mem_cons_of_mem _ e);simp [h1];intro a b c d;exact h2 (d ▸ c)
theorem filter_ne_len {p : Nat × Nat} : ∀ {l : List (Nat × Nat)}, l.Nodup -> p ∈ l -> (l.filter (fun x => decide (x ≠ p))).length + 1 = l.length
 | [], _, h => by simp at h
 | a :: l, hn, h => by
  have hn := List.nodup_cons.1 hn
  by_cases e : a = p
  ·subst e;rw [List.filter_cons_of_neg (by simp), filter_ne_tl hn.1, List.length_cons]
  ·rw [List.filter_cons_of_pos (by simpa using e), List.length_cons, filter_ne_len hn.2 ((List.mem_cons.1 h).resolve_left fun c => e c.symm), List.length_cons]
theorem pos_with_len {sh : Dt} {q j : Nat} {v : Int} (hv : v ≠ 2) (h : (q, j) ∈ pos sh) : (pos (withD sh q j v)).length + 1 = (pos sh).length := by
 rw [pos_with hv, filter_ne_len (pos_nd sh) h]
theorem pos_with_tl {sh : Dt} {p : Nat × Nat} {ps : List (Nat × Nat)} {v : Int} (hv : v ≠ 2) (h : pos sh = p :: ps) : pos (withD sh p.1 p.2 v) = ps := by
 have hn := pos_nd sh;rw [h] at hn;rw [pos_with hv, h, List.filter_cons_of_neg (by simp), filter_ne_tl (List.nodup_cons.1 hn).1]
theorem Few.withD {sh : Dt} (h : Few sh) (q j : Nat) (v : Int) : Few (withD sh q j v) := by
 refine ⟨by rw [withD_len]; exact h.1, fun i hi => ?_⟩;rw [withD_rlen];rw [withD_len] at hi;exact h.2 i hi
theorem ShapeOk.withD {qs sh : Dt} (h : ShapeOk qs sh) {q j : Nat} {v : Int} (hv : 0 <= v /\ v <= 2) : ShapeOk qs (withD sh q j v) := by
 have hl := h.n;refine ⟨by rw [withD_len]; exact hl, fun i hi => by rw [withD_rlen]; exact h.row_ i hi, fun i b hi hb => ?_⟩;rw [withD_rlen] at hb;rw [withD_bx _ _ _ _ _ _ (by omega) hb]
 split
 ·exact hv
 ·exact h.val i b hi hb
def rdL : Nat -> Dt -> List Dt
 | 0, sh => [sh]
 | n + 1, sh => match pos sh with
  | [] => [sh]
  | p :: _ => rdL n (withD sh p.1 p.2 0) ++ rdL n (withD sh p.1 p.2 1)
def rds (sh : Dt) : List Dt := rdL (pos sh).length sh
def shC (sh : Dt) : List Cl := [.l sh]
def rdD (sh : Dt) : Dt := (rds sh).map shC
theorem rds_nil {sh : Dt} (h : pos sh = []) : rds sh = [sh] := by unfold rds; rw [h]; rfl
theorem rds_cons {sh : Dt} {p : Nat × Nat} {ps : List (Nat × Nat)} (h : pos sh = p :: ps) : rds sh = rds (withD sh p.1 p.2 0) ++ rds (withD sh p.1 p.2 1) := by
 unfold rds;rw [pos_with_tl (by decide) h, pos_with_tl (by decide) h, h];simp only [List.length_cons, rdL, h]
theorem rdL_len : ∀ n sh, (pos sh).length = n -> (rdL n sh).length = 2 ^ n
 | 0, _, _ => rfl
 | n + 1, sh, h => by
  obtain ⟨p, ps, e⟩ : ∃ p ps, pos sh = p :: ps := by
   cases hp : pos sh with
   | nil => rw [hp] at h; simp at h
   | cons p ps => exact ⟨p, ps, rfl⟩
  rw [e] at h;simp only [rdL, e];rw [List.length_append, rdL_len n _ (by rw [pos_with_tl (by decide) e]; simpa using h), rdL_len n _ (by rw [pos_with_tl (by decide) e]; simpa using h), Nat.pow_succ];omega
theorem rds_len (sh : Dt) : (rds sh).length = 2 ^ (pos sh).length := rdL_len _ sh rfl
theorem rds_ind {P : Dt -> Prop} {sh : Dt} (h0 : P sh) (hs : ∀ s q j v, P s -> (q, j) ∈ pos s -> v = 0 \/ v = 1 -> P (withD s q j v)) : ∀ r ∈ rds sh, P r := by
 suffices h : ∀ n s, (pos s).length = n -> P s -> ∀ r ∈ rds s, P r from h _ sh rfl h0
 intro n
 induction n with
 | zero =>
  intro s hl hp r hr;rw [rds_nil (List.length_eq_zero_iff.1 hl), List.mem_singleton] at hr;exact hr ▸ hp
 | succ n ih =>
  intro s hl hp r hr;cases e : pos s with
  | nil => rw [e] at hl; simp at hl
  | cons p ps =>
   rw [rds_cons e, List.mem_append] at hr;have hm : (p.1, p.2) ∈ pos s := by rw [e]; exact List.mem_cons_self
   rw [e] at hl;rcases hr with hr | hr
   ·exact ih _ (by rw [pos_with_tl (by decide) e]; simpa using hl) (hs _ _ _ _ hp hm (.inl rfl)) r hr
   ·exact ih _ (by rw [pos_with_tl (by decide) e]; simpa using hl) (hs _ _ _ _ hp hm (.inr rfl)) r hr
theorem rds_shape {sh : Dt} : ∀ r ∈ rds sh, r.length = sh.length /\ ∀ i, (row r i).length = (row sh i).length :=
 rds_ind (P := fun r => r.length = sh.length /\ ∀ i, (row r i).length = (row sh i).length) ⟨rfl, fun _ => rfl⟩ fun s q j v h _ _ => ⟨by rw [withD_len]; exact h.1, fun i => by rw [withD_rlen]; exact h.2 i⟩
end Sp
end Go.Proofs.Ytifhdbgciehicaa
