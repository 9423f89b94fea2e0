/-
  'AnswerTurned': for every input the law returns true, and what is handed in reads as before. No condition.
-/
import Derived.Test.YtifhdbgciehicaaQd
import Derived.IntWalk
import Derived.Test.YtifhdbgciehicaaProg
set_option linter.unusedVariables false
set_option linter.unusedSectionVars false
set_option linter.unusedSimpArgs false
noncomputable section
namespace Go.Proofs.Ytifhdbgciehicaa
abbrev Ja : List Ty := [.int .i64, .int .i64]
abbrev Jb : List Ty := [.sl [.int .i64]]
abbrev Jc : List Ty := [.int .i64]
abbrev Iv11 : List Ty := [.int .i64, .int .i64, .int .i64, .int .i64, .int .i64, .int .i64, .int .i64, .int .i64, .int .i64, .int .i64, .int .i64]
abbrev Iv5 : List Ty := [.int .i64, .int .i64, .int .i64, .int .i64, .int .i64]
abbrev Iv4 : List Ty := [.int .i64, .int .i64, .int .i64, .int .i64]
abbrev Ivs : List Ty := [.str, .int .i64, .int .i64, .int .i64]
open Go.RowKit
theorem vif [InW] {b : Bool} {A B : Prop} (h : b = true -> A) (h2 : b = false -> B) : Vif b A B := ⟨h, h2⟩
theorem vifd [InW] {p : Prop} {_ : Decidable p} {A B : Prop} (h : p -> A) (h2 : ¬ p -> B) : Vif (decide p) A B := ⟨fun e => h (of_decide_eq_true e), fun e => h2 (of_decide_eq_false e)⟩
theorem ned [InW] {b : Bool} {A : Prop} (h : b = true) (h2 : A) : Need b A := ⟨h, h2⟩
theorem nedd [InW] {p : Prop} {_ : Decidable p} {A : Prop} (h : p) (h2 : A) : Need (decide p) A := ⟨decide_eq_true h, h2⟩
theorem ar64 [InW] {n : Int} {K : Int -> Prop} (h : -9223372036854775808 <= n /\ n <= 9223372036854775807) (k : K n) : Ar .i64 n K := ⟨by rw [IntWalk.i64_in n h]; exact k⟩
theorem notT {b : Bool} (h : (!b) = true) : b = false := by cases b <;> simp_all
theorem notF {b : Bool} (h : (!b) = false) : b = true := by cases b <;> simp_all
theorem vifn [InW] {p : Prop} {_ : Decidable p} {A B : Prop} (h : ¬ p -> A) (h2 : p -> B) : Vif (!decide p) A B := ⟨fun e => h (of_decide_eq_false (notT e)), fun e => h2 (of_decide_eq_true (notF e))⟩
theorem vifb [InW] {b : Bool} {A B : Prop} (h : b = false -> A) (h2 : b = true -> B) : Vif (!b) A B := ⟨fun e => h (notT e), fun e => h2 (notF e)⟩
theorem Xb {p A : Prop} (h : p) (h2 : A) : Pre p A := ⟨h, h2⟩
theorem ned2 [InW] {p q : Prop} {_ : Decidable p} {_ : Decidable q} {K : Prop} (h : p /\ q) (hK : K) : Need (decide p && decide q) K := ⟨by simp [h], hK⟩
namespace Sp
def inr (n lo hi : Int) : Bool := decide (lo <= n) && decide (n <= hi)
def outs (lo hi : Int) (xs : Dt) : Nat -> Nat -> Bool
 | _, 0 => false
 | i, n + 1 => !inr (cel xs i 0).int lo hi || outs lo hi xs (i + 1) n
def out (lo hi : Int) (xs : Dt) : Bool := outs lo hi xs 0 xs.length
def outI (lo hi : Int) (xs : Dt) : Nat -> Nat -> Nat
 | i, 0 => i
 | i, n + 1 => if inr (cel xs i 0).int lo hi = true then outI lo hi xs (i + 1) n else i
def hasE (f : Nat -> Int) : Nat -> Nat -> Bool
 | _, 0 => false
 | i, n + 1 => !decide (f i = 0) || hasE f (i + 1) n
def idxE (f : Nat -> Int) : Nat -> Nat -> Nat
 | i, 0 => i
 | i, n + 1 => if f i = 0 then idxE f (i + 1) n else i
def allF (f : Nat -> Bool) : Nat -> Nat -> Bool
 | _, 0 => true
 | i, n + 1 => f i && allF f (i + 1) n
theorem allF_iff {f : Nat -> Bool} : ∀ {n i : Nat}, allF f i n = true ↔ ∀ k, i <= k -> k < i + n -> f k = true
 | 0, i => by simp [allF]; omega
 | n + 1, i => by
  simp only [allF, Bool.and_eq_true, allF_iff (n := n)];constructor
  ·rintro ⟨h1, h2⟩ k a b;rcases Nat.eq_or_lt_of_le a with e | e
   ·exact e ▸ h1
   ·exact h2 k (by omega) (by omega)
  ·exact fun h => ⟨h i (by omega) (by omega), fun k a b => h k (by omega) (by omega)⟩
def anyF (f : Nat -> Bool) : Nat -> Nat -> Bool
 | _, 0 => false
 | i, n + 1 => f i || anyF f (i + 1) n
theorem anyF_iff {f : Nat -> Bool} : ∀ {n i : Nat}, anyF f i n = true ↔ ∃ k, i <= k /\ k < i + n /\ f k = true
 | 0, i => by simp [anyF]; omega
 | n + 1, i => by
  simp only [anyF, Bool.or_eq_true, anyF_iff (n := n)];constructor
  ·rintro (h | ⟨k, a, b, c⟩)
   ·exact ⟨i, by omega, by omega, h⟩
   ·exact ⟨k, by omega, by omega, c⟩
  ·rintro ⟨k, a, b, c⟩;rcases Nat.eq_or_lt_of_le a with e | e
   ·exact .inl (e ▸ c)
   ·exact .inr ⟨k, by omega, by omega, c⟩
def fstF (f : Nat -> Bool) : Nat -> Nat -> Nat
 | i, 0 => i
 | i, n + 1 => if f i then i else fstF f (i + 1) n
theorem fstF_spec {f : Nat -> Bool} : ∀ {n i : Nat}, anyF f i n = true -> i <= fstF f i n /\ fstF f i n < i + n /\ f (fstF f i n) = true /\ ∀ k, i <= k -> k < fstF f i n -> f k = false
 | 0, i, h => by simp [anyF] at h
 | n + 1, i, h => by
  unfold fstF
  by_cases e : f i = true
  ·rw [if_pos e];exact ⟨by omega, by omega, e, fun k a b => by omega⟩
  ·rw [if_neg e];simp only [anyF, e, Bool.false_or, Bool.or_eq_true, Bool.false_eq_true, false_or] at h;obtain ⟨h1, h2, h3, h4⟩ := fstF_spec h;refine ⟨by omega, by omega, h3, fun k a b => ?_⟩;rcases Nat.eq_or_lt_of_le a with e2 | e2
   ·subst e2; simpa using e
   ·exact h4 k (by omega) b
def sumF (f : Nat -> Int) : Nat -> Nat -> Int -> Int
 | _, 0, a => a
 | i, n + 1, a => sumF f (i + 1) n (a + f i)
theorem hasE_ix {f : Nat -> Int} : ∀ {n i : Nat}, hasE f i n = true -> i <= idxE f i n /\ idxE f i n < i + n /\ f (idxE f i n) ≠ 0
 | 0, i, h => by simp [hasE] at h
 | n + 1, i, h => by
  unfold idxE
  by_cases e : f i = 0
  ·rw [if_pos e];simp only [hasE, e, decide_true, Bool.not_true, Bool.false_or] at h;have := hasE_ix h;exact ⟨by omega, by omega, this.2.2⟩
  ·rw [if_neg e]; exact ⟨by omega, by omega, e⟩
theorem hasE_no {f : Nat -> Int} : ∀ {n i : Nat}, hasE f i n = false -> ∀ k, i <= k -> k < i + n -> f k = 0
 | 0, i, _, k, a, b => by omega
 | n + 1, i, h, k, a, b => by
  simp only [hasE, Bool.or_eq_false_iff, Bool.not_eq_false', decide_eq_true_eq] at h;rcases Nat.eq_or_lt_of_le a with e | e
  ·exact e ▸ h.1
  ·exact hasE_no h.2 k (by omega) (by omega)
theorem hasE_of {f : Nat -> Int} : ∀ {n i : Nat}, (∀ k, i <= k -> k < i + n -> f k = 0) -> hasE f i n = false
 | 0, i, _ => rfl
 | n + 1, i, h => by
  simp only [hasE, h i (by omega) (by omega), decide_true, Bool.not_true, Bool.false_or];exact hasE_of fun k a b => h k (by omega) (by omega)
theorem inr_iff {n lo hi : Int} : inr n lo hi = true ↔ lo <= n /\ n <= hi := by simp [inr]
end Sp
theorem Xc3 [InW] {f : Nat -> Int} {i n : Nat} {K1 : Nat -> Int -> Prop} {K0 : Prop} (h : Vif (Sp.hasE f i (n + 1)) (K1 (Sp.idxE f i (n + 1)) (f (Sp.idxE f i (n + 1)))) K0) :
  (f i ≠ 0 -> K1 i (f i)) /\ (f i = 0 -> Vif (Sp.hasE f (i + 1) n) (K1 (Sp.idxE f (i + 1) n) (f (Sp.idxE f (i + 1) n))) K0) := by
 simp only [Sp.hasE, Sp.idxE] at h;refine ⟨fun e => ?_, fun e => ?_⟩
 ·have := h.1 (by simp [e]);simpa [e] using this
 ·simpa [e] using h
theorem vifq [InW] {p q : Prop} {_ : Decidable p} {_ : Decidable q} {A B : Prop} (h : ¬ (p ↔ q) -> A) (h2 : (p ↔ q) -> B) : Vif (!(decide p == decide q)) A B :=
 ⟨fun e => h (by simpa using notT e), fun e => h2 (by simpa using notF e)⟩
theorem Xd [InW] {p : Prop} {_ : Decidable p} {A B : Prop} (h : p -> A) (h2 : ¬ p -> B) : Vif (!(decide p == false)) A B :=
 ⟨fun e => h (by simpa using e), fun e => h2 (by simpa using e)⟩
theorem Xc [InW] {p : Prop} {_ : Decidable p} {A B : Prop} (h : p -> A) (h2 : ¬ p -> B) : Vif (!(false == decide p)) A B :=
 ⟨fun e => h (by simpa using e), fun e => h2 (by simpa using e)⟩
theorem out1 (lo hi n : Int) : Sp.out lo hi [[Cl.i n]] = !Sp.inr n lo hi := by simp [Sp.out, Sp.outs, cel, Cl.int]
theorem out2 (lo hi n m : Int) : Sp.out lo hi [[Cl.i n], [Cl.i m]] = (!Sp.inr n lo hi || !Sp.inr m lo hi) := by simp [Sp.out, Sp.outs, cel, Cl.int]
set_option maxRecDepth 100000
def tTab [InW] : TI := ⟨some false, some 1, some [.v (.nilFunc)], [], none, none⟩
def tTaw [InW] : Tr TI := .node .nil tTab .nil
def tTaa [InW] : Tr TI := .node .nil ⟨none, none, none, [], none, none⟩ .nil
def tTag [InW] : Tr TI := .node tTaw tTab tTaa
def tTac [InW] : Tr TI := .node tTag tTab (.node (.node .nil ⟨some true, some 11, some [.v (.int .u64 0), .v (.int .u64 0), .v (.int .u32 0), .v (.int .u8 0), .v (.int .u8 0), .v (.int .u8 0), .v (.int .u8 0), .v (.nilFunc), .v (.pointer none), .v (.int .i32 0), .v (.int .i32 0)], [(some (0, 1)), (some (1, 1)), (some (2, 1)), (some (3, 1)), (some (4, 1)), (some (5, 1)), (some (6, 1)), (some (7, 1)), (some (8, 1)), (some (9, 1)), (some (10, 1))], none, none⟩ .nil) tTab tTaa)
def tTad [InW] : TI := ⟨some false, some 1, some [.v (.pointer none)], [], none, none⟩
def tTbb [InW] : Tr TI := .node .nil tTad .nil
def tTav [InW] : List AV := [.v (.int .i64 0), .v (.int .i64 0)]
def tTaf [InW] : TI := ⟨some true, some 2, some tTav, [(some (0, 1)), (some (1, 1))], none, none⟩
def tTao [InW] : List AV := [.v (.slice none 0 0)]
def tTae [InW] : Tr TI := .node tTaa tTab tTaa
def tTba [InW] : List (Option (Nat × Nat)) := [(some (0, 1)), (some (1, 1)), (some (2, 1)), (some (3, 1))]
def tTap [InW] : TI := ⟨some true, some 4, some [.v (.int .i64 0), .v (.int .i64 0), .v (.bool false), .v (.int .u8 0)], tTba, none, none⟩
def tTax [InW] : List AV := [.v (.int .i64 0), .v (.int .i64 0), .v (.int .i64 0), .v (.int .i64 0), .v (.int .i64 0)]
def tTai [InW] : TI := ⟨some true, some 5, some tTax, [(some (0, 1)), (some (1, 1)), (some (2, 1)), (some (3, 1)), (some (4, 1))], none, none⟩
def tTay [InW] : Tr TI := .node .nil ⟨some true, some 0, some [], [(some (0, 0))], none, none⟩ .nil
def tTak [InW] : TI := ⟨some false, some 1, some [.v (.int .i64 0)], [], none, none⟩
def tTaq [InW] : TI := ⟨some false, some 1, (some [.v (.tuple #[.int .i64 0, .int .i64 0])]), [], none, none⟩
def tTaz [InW] : TI := ⟨some true, some 1, some [.v (.pointer none)], [(some (0, 1))], none, none⟩
def tTah [InW] : Tr TI := .node (.node .nil ⟨some true, some 4, some [.v (.pointer none), .v (.pointer none), .v (.pointer none), .v (.string ByteArray.empty)], tTba, none, none⟩ .nil) tTab tTaa
def tTas [InW] : TI := ⟨some false, some 1, some [.v (.string ByteArray.empty)], [], none, none⟩
def tTbc [InW] : Tr TI := .node tTag tTab tTae
def tTal [InW] : TI := ⟨some false, some 1, some [.v (.int .u64 0)], [], none, none⟩
def tTar [InW] : TI := ⟨some true, some 3, some [.v (.slice none 0 0), .v (.slice none 0 0), .v (.int .i64 0)], [(some (0, 1)), (some (1, 1)), (some (2, 1))], none, none⟩
def tTan [InW] : TI := ⟨some false, some 1, some [.v (.int .u8 0)], [], none, none⟩
def tTaj [InW] : TI := ⟨some true, some 5, some [.v (.slice none 0 0), .v (.slice none 0 0), .v (.int .i64 0), .v (.slice none 0 0), .v (.slice none 0 0)], [(some (0, 3)), (some (3, 1)), (some (4, 1))], none, none⟩
def tTam [InW] : TI := ⟨some false, some 1, (some [.v (.tuple #[.slice none 0 0, .int .i64 0])]), [], none, none⟩
def tTat [InW] : TI := ⟨some false, some 1, some [.v (.int .i32 0)], [], none, none⟩
def tTau [InW] : TI := ⟨some true, some 2, some [.v (.string ByteArray.empty), .v (.int .u64 0)], [(some (0, 1)), (some (1, 1))], none, none⟩
def TT [InW] : Tr TI :=
 (.node (.node (.node (.node (.node tTac tTad (.node (.node tTbb tTaf tTaa) ⟨some false, some 1, some tTao, [], (some (26, 1, 24, tTao)), none⟩ tTae)) tTap (.node (.node (.node tTaw tTai tTaa) ⟨some false, some 1, some tTao, [], (some (44, 2, 16, tTav)), none⟩ (.node tTaa ⟨some false, some 1, some [.v (.map none)], [], none, none⟩ tTaa)) ⟨some false, some 1, some tTao, [], (some (3, 1, 8, [.v (.int .i64 0)])), none⟩ (.node (.node tTay tTab tTaa) tTab tTae))) tTak (.node (.node (.node (.node (.node .nil ⟨some false, some 1, (some [.v (.tuple #[.int .i64 0, .bool false])]), [], none, none⟩ .nil) tTab tTaa) tTaq tTae) tTaz (.node tTah ⟨some false, some 1, some tTao, [], (some (80, 2, 16, tTav)), none⟩ tTae)) tTas (.node (.node (.node tTaw ⟨some true, some 4, some [.v (.int .u8 0), .v (.int .u8 0), .v (.int .u8 0), .v (.int .u8 0)], [], none, (some (4, 1, false))⟩ tTaa) tTaf tTae) tTak (.node (.node tTaw ⟨some false, some 1, (some [.v (.tuple #[.slice none 0 0, .bool false])]), [], none, none⟩ tTaa) tTab tTae)))) tTab (.node (.node (.node (.node tTag tTab (.node tTbb tTab tTaa)) tTad tTbc) tTas (.node (.node (.node (.node .nil tTal .nil) ⟨some false, some 1, some tTao, [], (some (5, 1, 1, [.v (.int .u8 0)])), none⟩ tTaa) tTab (.node tTaa ⟨some true, some 2, some tTav, [], none, (some (2, 1, false))⟩ tTaa)) tTar (.node (.node (.node .nil tTan .nil) tTaj tTaa) tTab tTae))) tTan (.node (.node (.node (.node tTaw ⟨some true, some 2, some [.v (.int .u16 0), .v (.int .u16 0)], [], none, (some (2, 1, false))⟩ tTaa) tTam tTae) tTat (.node (.node (.node .nil ⟨some true, some 0, some [], [], none, (some (0, 1, false))⟩ .nil) tTad tTaa) tTab tTae)) tTau (.node (.node (.node tTbb ⟨some false, some 1, some tTao, [], (some (58, 1, 2, [.v (.int .u16 0)])), none⟩ tTaa) ⟨some false, some 1, (some [.v (.tuple #[.agg #[.int .i64 0, .int .i64 0], .int .i64 0, .int .i64 0])]), [], none, none⟩ tTae) tTab (.node (.node (.node .nil tTat .nil) tTab tTaa) tTab (.node tTaa tTak tTaa)))))) ⟨some false, some 1, (some [.v (.tuple #[])]), [], none, none⟩ (.node (.node (.node (.node tTac tTad (.node (.node (.node .nil tTaq .nil) tTaf tTaa) ⟨some false, some 1, (some [.v (.tuple #[.agg #[.slice none 0 0, .slice none 0 0, .int .i64 0], .int .i64 0])]), [], none, none⟩ tTae)) tTap (.node (.node (.node (.node .nil tTal .nil) tTab tTaa) tTam tTae) tTar (.node (.node tTaw tTaj tTaa) tTab (.node tTaa tTal tTaa)))) ⟨some false, some 1, some [.v (.bool false)], [], none, none⟩ (.node (.node tTbc ⟨some false, some 1, some [.v (.nilIface)], [], none, none⟩ (.node tTah tTam tTae)) tTal (.node (.node tTag tTaf tTae) ⟨some false, some 1, (some [.v (.tuple #[.int .i64 0, .int .i64 0, .int .i64 0])]), [], none, none⟩ (.node (.node tTbb tTab tTaa) tTab tTae)))) tTak (.node (.node (.node tTbc tTaz tTbc) tTas (.node (.node tTag tTab (.node tTaa ⟨some false, some 1, (some [.v (.tuple #[.agg #[.int .i64 0, .int .i64 0], .bool false])]), [], none, none⟩ tTaa)) ⟨some false, some 1, some tTao, [], (some (23, 1, 24, tTao)), none⟩ (.node (.node (.node .nil tTan .nil) tTab tTaa) ⟨some false, some 1, some [.v (.int .u16 0)], [], none, none⟩ tTae))) tTan (.node (.node (.node (.node (.node .nil ⟨some false, some 1, some [.v (.int .u32 0)], [], none, none⟩ .nil) tTai tTaa) tTab (.node tTaa ⟨some false, some 1, some tTao, [], (some (4, 1, 1, [.v (.bool false)])), none⟩ tTaa)) ⟨some false, some 1, some tTao, [], (some (71, 5, 40, tTax)), none⟩ (.node (.node tTay ⟨some false, some 1, (some [.v (.tuple #[.pointer none, .int .i64 0])]), [], none, none⟩ tTaa) tTab tTae)) tTau (.node (.node tTag tTab (.node tTaa ⟨some false, some 1, (some [.v (.tuple #[.int .i64 0, .agg #[.int .i64 0, .int .i64 0]])]), [], none, none⟩ tTaa)) ⟨some false, some 1, (some [.v (.tuple #[.slice none 0 0, .bool false, .int .i64 0])]), [], none, none⟩ (.node (.node (.node .nil tTat .nil) ⟨some false, some 1, (some [.v (.tuple #[.bool false, .bool false])]), [], none, none⟩ tTaa) tTab (.node tTaa tTaq tTaa)))))))
theorem Xe [InW] : TabOk Try.prog TT := TabOk.of 8 (by kernel_rfl)
theorem Xa : Try.prog.follows .mixedOrders = true := by kernel_rfl
attribute [local irreducible] Go.Oper.wp
section
variable [W : InW]
def nthQ : List AV -> Nat -> AV
 | [], _ => .junk
 | x :: xs, n => match n with | 0 => x | n + 1 => nthQ xs n
def likeQ : Pt -> AV -> Bool
 | .lit v, x => (match x with | .v u => Yco u v | _ => false)
 | .row _, x => (match x with | .rw _ => true | .sl _ 0 0 _ => true | _ => false)
 | _, _ => true
def Xof : List (Nat × Pt) -> List AV -> Bool
 | [], _ => true
 | p :: ps, tm => match likeQ p.2 (nthQ tm p.1) with | true => Xof ps tm | false => false
end
def LE.pick {P : Program} (T : List (Nat × Pt)) (a b : LE P) (hg : b.g = a.g) (hk : b.key = a.key) : LE P where
 g := a.g
 key := a.key
 f := fun W tm hp K => match @Xof W T tm with | true => a.f W tm hp K | false => b.f W tm hp K
 ok := fun W body c h1 h2 h3 tm hp K h => by
  dsimp only at h
  split at h
  ·exact a.ok W body c h1 h2 h3 tm hp K h
  ·exact b.ok W body c (by rw [hg]; exact h1) h2 (by rw [hk]; exact h3) tm hp K h
end Go.Proofs.Ytifhdbgciehicaa
namespace Go.Proofs.Ytifhdbgciehicaa
open Go.RowKit
attribute [local irreducible] Go.Oper.wp
section
variable [W : InW]
end
end Go.Proofs.Ytifhdbgciehicaa
namespace Go.Proofs.Ytifhdbgciehicaa
open Go.RowKit
set_option maxRecDepth 100000
def T0 : Tab Try.prog := ⟨[], [], []⟩
abbrev Xe9 (ds : DS) : DS := match ds with | [[.i n], [.i lo], [.i hi]] => [[.b (Sp.inr n lo hi)]] | _ => []
abbrev Xbu (ds : DS) : DS := match ds with | [[.i n]] => [[.b (Sp.inr n (-240) 240)]] | _ => []
abbrev Xc8 (ds : DS) : DS := match ds with | [[.i lo], [.i hi], [.l xs]] => [[.b (Sp.out lo hi xs)]] | _ => []
def Xo2 [W : InW] (n lo hi : Int) (Q : DS -> Prop) : Prop :=
 Vif (decide (lo <= n)) (Q [[Cl.b (decide (n <= hi))]]) (Q [[Cl.b false]])
theorem vc_in (W : InW) (n lo hi Q) : Ywx (cxT Try.prog TT T0 1000 50) 1000 52 [.si .i64 n, .si .i64 lo, .si .i64 hi] [] 0 (Y04 [(false, [.bool])] Q) (fun _ _ _ _ => Stuck 421) = Xo2 n lo hi Q := by kernel_rfl
abbrev Xht : List AT := [.one (.int .i64), .one (.int .i64), .one (.int .i64)]
theorem ok_in {pre : DS -> Prop} {res : DS -> DS} (hyp_ : ∀ (W : InW) (n lo hi : Int), pre [[.i n], [.i lo], [.i hi]] -> ∀ Q : DS -> Prop, Q (res [[.i n], [.i lo], [.i hi]]) -> Xo2 n lo hi Q) : PureOk Try.prog 52 Xht [(false, [.bool])] pre res :=
 PureOk.of' (fun W => @TT W) (fun W => @Xe W) Xa T0 1000 50 fun W n lo hi hp =>
  (vc_in W n lo hi (fun o => o = res [[.i n], [.i lo], [.i hi]])).mpr (hyp_ W n lo hi hp _ rfl)
theorem okin : PureOk Try.prog 52 Xht [(false, [.bool])] (fun _ => True) Xe9 :=
 ok_in fun W n lo hi _ Q h => vif (fun e => by simpa [Xe9, Sp.inr, e] using h) fun e => by simpa [Xe9, Sp.inr, e] using h
def Xit : PC Try.prog := ⟨52, Xht, [(false, [.bool])], fun _ => True, Xe9, okin⟩
def T0a : Tab Try.prog := ⟨[Xit], [], []⟩
def Xc0 [W : InW] (n : Int) (Q : DS -> Prop) : Prop :=
 Pre True (Q [[Cl.b (Sp.inr n (-240 : Int) (240 : Int))]])
theorem Xgt (W : InW) (n Q) : Ywx (cxT Try.prog TT T0a 1000 50) 1000 53 [.si .i64 n] [] 0 (Y04 [(false, [.bool])] Q) (fun _ _ _ _ => Stuck 421) = Xc0 n Q := by kernel_rfl
abbrev X0 : List AT := [.one (.int .i64)]
theorem Xhc {pre : DS -> Prop} {res : DS -> DS} (hyp_ : ∀ (W : InW) (n : Int), pre [[.i n]] -> ∀ Q : DS -> Prop, Q (res [[.i n]]) -> Xc0 n Q) : PureOk Try.prog 53 X0 [(false, [.bool])] pre res :=
 PureOk.of' (fun W => @TT W) (fun W => @Xe W) Xa T0a 1000 50 fun W n hp =>
  (Xgt W n (fun o => o = res [[.i n]])).mpr (hyp_ W n hp _ rfl)
theorem Xiz : PureOk Try.prog 53 X0 [(false, [.bool])] (fun _ => True) Xbu :=
 Xhc fun W n _ Q h => ⟨trivial, h⟩
def Xcu : PC Try.prog := ⟨53, X0, [(false, [.bool])], fun _ => True, Xbu, Xiz⟩
def Xe0 [InW] (e : List Ed) (K : Nat -> List Ed -> Prop) : Prop := match e with
 | [.ro _ xs, .i n, .i i, .i lo, .i hi] => Pre (n = xs.xs.length /\ 0 <= i /\ i <= n) (Vif (Sp.outs lo hi xs.xs i.toNat (xs.xs.length - i.toNat)) (K 1 [.i (Sp.outI lo hi xs.xs i.toNat (xs.xs.length - i.toNat)), .i lo, .i hi]) (K 0 [.i lo, .i hi]))
 | _ => False
def Xgi : LC where
 len := 19
 T := [(0, .rs Jc), (1, (.fn (.func 81) [] [(.ptr 1 0), (.ptr 4 0)])), (7, .int .i64), (8, .int .i64)]
 H := [(1, .blk 3 [.int .i64]), (4, .blk 3 [.int .i64])]
 W := ([4, 5] ++ rg 9 10)
 outs := [⟨.exit 0, [(1, (.fn (.func 81) [] [(.ptr 1 0), (.ptr 4 0)]))], [(1, .blk 3 [.int .i64]), (4, .blk 3 [.int .i64])], ([0, 4, 5] ++ rg 7 12)⟩, ⟨.ret, [(1, (.fn (.func 81) [] [(.ptr 1 0), (.ptr 4 0)])), (4, .int .i64)], [(1, .blk 3 [.int .i64]), (4, .blk 3 [.int .i64])], ([0, 5] ++ rg 7 12)⟩]
 spec := Xe0
def Xd6 [W : InW] (xs : Ro Jc) (n i lo hi : Int) (A : List Ed -> Prop) (K : Nat -> List Ed -> Prop) : Prop :=
 Vif (decide (i < n)) (Need (decide (0 <= i) && decide (i < (↑(xs.xs.length) : Int))) (Need (decide (i.toNat < xs.xs.length)) (Vif (decide ((cel xs.xs i.toNat (0 : Nat)).int < lo)) (K (0+1) [.i i, .i lo, .i hi]) (Vif (decide (hi < (cel xs.xs i.toNat (0 : Nat)).int)) (K (0+1) [.i i, .i lo, .i hi]) (Ar .i64 (i + 1) fun z => A [.ro _ xs, .i n, .i z, .i lo, .i hi]))))) (K 0 [.i lo, .i hi])
theorem Xkk (W : InW) (xs n i lo hi A K) : Yfc { cxT Try.prog TT T0 1000 50 with fn := 88 } 1000 (Yn8 Try.prog 88 3) (Yd8 19 [(0, .rs _ xs), (1, .fn (.func 81) [] [.ptr 1 0, .ptr 4 0]), (7, .si .i64 n), (8, .si .i64 i)] ([4, 5] ++ rg 9 10)) [(1, .blk 3 [.si .i64 lo]), (4, .blk 3 [.si .i64 hi])] (Yug Xgi A K) = Xd6 xs n i lo hi A K := by kernel_rfl
def Xfu : Prop := ∀ (W : InW) (body a : Code), (Try.prog.funcs[88]?).bind (·.body) = some body -> a ∈ Y0 body -> Yfw a = 3 -> @Ymr W Try.prog a (@Yto W Xgi)
theorem Xly (meas : [InW] -> List Ed -> Nat) (hyp_ : ∀ (W : InW) xs n i lo hi K, Xe0 [.ro _ xs, .i n, .i i, .i lo, .i hi] K -> ∀ A : List Ed -> Prop, (∀ e, meas e < meas [.ro _ xs, .i n, .i i, .i lo, .i hi] -> Xe0 e K -> A e) -> Xd6 xs n i lo hi A K) : Xfu :=
 LE.okOf' (fun W => @TT W) (fun W => @Xe W) Xa T0 1000 50 (by kernel_rfl) Xgi (fun W => @meas W) fun W xs n i lo hi K hs =>
  (Xkk W xs n i lo hi (fun e => meas e < meas [.ro _ xs, .i n, .i i, .i lo, .i hi] /\ Xe0 e K) K).mpr (hyp_ W xs n i lo hi K hs _ fun e h1 h2 => ⟨h1, h2⟩)
theorem Xn6 : Xfu := Xly (fun e => match e with | .ro _ xs :: .i n :: .i i :: _ => (n - i).toNat | _ => 0) fun W xs n i lo hi K hs A hA => by
 obtain ⟨⟨rfl, h0, h1⟩, hk⟩ := hs;unfold Xd6;have hm := xs.len;simp only [maxLen] at hm;refine vifd (fun e => ?_) fun e => ?_
 ·rw [show xs.xs.length - i.toNat = (xs.xs.length - (i.toNat + 1)) + 1 by omega] at hk;have hc : (cel xs.xs i.toNat 0).int < lo \/ hi < (cel xs.xs i.toNat 0).int -> K 1 [.i i, .i lo, .i hi] := fun h => by
   have hf : Sp.inr (cel xs.xs i.toNat 0).int lo hi = false := by simp only [Sp.inr, Bool.and_eq_false_iff, decide_eq_false_iff_not]; omega
   have := hk.1 (by simp [Sp.outs, hf]);unfold Sp.outI at this;rw [if_neg (by simp [hf]), Int.toNat_of_nonneg h0] at this;exact this
  refine ned (by simp; omega) (nedd (by omega) (vifd (fun e2 => hc (.inl e2)) fun e2 => vifd (fun e3 => hc (.inr e3)) fun e3 => ar64 (by omega) (hA _ ?_ ?_)))
  ·show ((xs.xs.length : Int) - (i + 1)).toNat < ((xs.xs.length : Int) - i).toNat
   omega
  ·have hf : Sp.inr (cel xs.xs i.toNat 0).int lo hi = true := by simp only [Sp.inr, Bool.and_eq_true, decide_eq_true_eq]; omega
   refine ⟨⟨rfl, by omega, by omega⟩, ?_⟩;rw [show (i + 1).toNat = i.toNat + 1 by omega];simp only [Sp.outs, hf, Bool.not_true, Bool.false_or, Sp.outI, if_true] at hk;exact hk
 ·rw [show xs.xs.length - i.toNat = 0 by omega] at hk;exact hk.2 rfl
def Xoy : LE Try.prog := ⟨88, 3, fun W => @Yto W Xgi, Xn6⟩
def T1 : Tab Try.prog := ⟨[], [Xoy], []⟩
def Xhx [W : InW] (lo hi : Int) (xs : Ro Jc) (Q : DS -> Prop) : Prop :=
 Pre ((↑(xs.xs.length) : Int) = (↑(xs.xs.length) : Int) /\ (0 : Int) <= 0 /\ (0 : Int) <= (↑(xs.xs.length) : Int)) (Vif (Sp.outs lo hi xs.xs (Int.toNat (0 : Int)) (xs.xs.length - Int.toNat (0 : Int))) (Q [[Cl.b (decide ((0 : Int) <= (↑(Sp.outI lo hi xs.xs (Int.toNat (0 : Int)) (xs.xs.length - Int.toNat (0 : Int))) : Int)))]]) (Q [[Cl.b false]]))
theorem Xm3 (W : InW) (lo hi xs Q) : Ywx (cxT Try.prog TT T1 1000 50) 1000 51 [.si .i64 lo, .si .i64 hi, .rs _ xs] [] 0 (Y04 [(false, [.bool])] Q) (fun _ _ _ _ => Stuck 421) = Xhx lo hi xs Q := by kernel_rfl
abbrev Xde : List AT := [.one (.int .i64), .one (.int .i64), .one (.sl Jc)]
theorem Xnn {pre : DS -> Prop} {res : DS -> DS} (hyp_ : ∀ (W : InW) (lo hi : Int) (xs : Ro Jc), pre [[.i lo], [.i hi], [.l xs.xs]] -> ∀ Q : DS -> Prop, Q (res [[.i lo], [.i hi], [.l xs.xs]]) -> Xhx lo hi xs Q) : PureOk Try.prog 51 Xde [(false, [.bool])] pre res :=
 PureOk.of' (fun W => @TT W) (fun W => @Xe W) Xa T1 1000 50 fun W lo hi xs hp =>
  (Xm3 W lo hi xs (fun o => o = res [[.i lo], [.i hi], [.l xs.xs]])).mpr (hyp_ W lo hi xs hp _ rfl)
theorem okout : PureOk Try.prog 51 Xde [(false, [.bool])] (fun _ => True) Xc8 :=
 Xnn fun W lo hi xs _ Q h => by
  unfold Xhx;simp only [Xc8, Sp.out] at h;rw [show Int.toNat 0 = 0 from rfl, Nat.sub_zero];refine ⟨⟨rfl, by omega, by omega⟩, vif (fun e => ?_) fun e => ?_⟩
  ·rw [e] at h;rw [decide_eq_true (by omega)];exact h
  ·rw [e] at h;exact h
def Xct : PC Try.prog := ⟨51, Xde, [(false, [.bool])], fun _ => True, Xc8, okout⟩
set_option maxHeartbeats 1600000
abbrev tyQ : List Ty := [.int .i64, .int .i64, .int .i64, .int .i64, .int .i64]
namespace Sp
def qPart (qs : Dt) (i : Nat) : Int := (cel qs i 0).int
def qBoxes (qs : Dt) (i : Nat) : Int := (cel qs i 1).int
def qRight (qs : Dt) (i : Nat) : Int := (cel qs i 2).int
def qPts (qs : Dt) (i : Nat) : Int := (cel qs i 3).int
def qMin (qs : Dt) (i : Nat) : Int := (cel qs i 4).int
def qErr (np : Nat) (qs : Dt) (i : Nat) : Int :=
 if inr (qPart qs i) 0 ((np : Int) - 1) then (if inr (qBoxes qs i) 2 4 then (if inr (qRight qs i) 0 (qBoxes qs i - 1) then (if inr (qPts qs i) 0 20 && inr (qMin qs i) 0 20 then 0 else 7) else 4) else 7) else 4
def pErr (ps : Dt) (i : Nat) : Int := if inr (cel ps i 0).int (-240) 240 then 0 else 7
def chk (qs ps : Dt) (all : Int) : Int × Int × Int :=
  if inr qs.length 1 12 && inr ps.length 1 4 then
    (if hasE (qErr ps.length qs) 0 qs.length then (2, idxE (qErr ps.length qs) 0 qs.length, qErr ps.length qs (idxE (qErr ps.length qs) 0 qs.length))
     else if hasE (pErr ps) 0 ps.length then (3, idxE (pErr ps) 0 ps.length, pErr ps (idxE (pErr ps) 0 ps.length))
     else if inr all (-240) 240 then (0, 0, 0) else (4, 0, 7))
  else (1, 0, 3)
def chkP (qs ps : Dt) (all : Int) : Int := (chk qs ps all).1
def chkI (qs ps : Dt) (all : Int) : Int := (chk qs ps all).2.1
def chkE (qs ps : Dt) (all : Int) : Int := (chk qs ps all).2.2
end Sp
abbrev Xs (ds : DS) : DS := match ds with | [[.l qs, .l ps, .i all]] => [[.i (Sp.chkP qs ps all)], [.i (Sp.chkI qs ps all)], [.i (Sp.chkE qs ps all)]] | _ => []
def T2 : Tab Try.prog := ⟨[Xit, Xcu, Xct], [], []⟩
def Xet [InW] (e : List Ed) (K : Nat -> List Ed -> Prop) : Prop := match e with
 | [.i i, .ro _ qs, .ro _ ps, .i all] => Pre (0 <= i /\ i <= qs.xs.length) (Vif (Sp.hasE (Sp.qErr ps.xs.length qs.xs) i.toNat (qs.xs.length - i.toNat))
   (K 1 [.i (Sp.idxE (Sp.qErr ps.xs.length qs.xs) i.toNat (qs.xs.length - i.toNat)), .i (Sp.qErr ps.xs.length qs.xs (Sp.idxE (Sp.qErr ps.xs.length qs.xs) i.toNat (qs.xs.length - i.toNat)))]) (K 0 [.ro _ qs, .ro _ ps, .i all]))
 | _ => False
def Xgb : LC where
 len := 84
 T := [(1, (.ptr 1 0)), (5, .int .i64)]
 H := [(1, .blk 25 [.rs tyQ, .rs Jc, .int .i64])]
 W := ([2, 3, 4, 6] ++ rg 20 45)
 outs := [⟨.exit 0, [(1, (.ptr 1 0))], [(1, .blk 25 [.rs tyQ, .rs Jc, .int .i64])], (rg 2 5 ++ rg 20 45)⟩, ⟨.ret, [(2, (.lit (.int .i64 2))), (3, .int .i64), (4, .int .i64)], [], ([1, 5, 6] ++ rg 20 45)⟩]
 spec := Xet
def Xdz [W : InW] (i : Int) (qs : Ro tyQ) (ps : Ro Jc) (all : Int) (A : List Ed -> Prop) (K : Nat -> List Ed -> Prop) : Prop :=
 Vif (decide (i < (↑(qs.xs.length) : Int))) (Need (decide (0 <= i) && decide (i < (↑(qs.xs.length) : Int))) (Need (decide (i.toNat < qs.xs.length)) (Ar .i64 ((↑(ps.xs.length) : Int) - 1) fun z => Pre True (Vif (!Sp.inr (cel qs.xs i.toNat (0 : Nat)).int (0 : Int) z) (K (0+1) [.i i, .i (4 : Int)]) (Pre True (Vif (!Sp.inr (cel qs.xs i.toNat (0+1)).int (2 : Int) (4 : Int)) (K (0+1) [.i i, .i (7 : Int)]) (Ar .i64 ((cel qs.xs i.toNat (0+1)).int - 1) fun z => Pre True (Vif (!Sp.inr (cel qs.xs i.toNat ((0 : Nat) + 1 + 1)).int (0 : Int) z) (K (0+1) [.i i, .i (4 : Int)]) (Pre True (Vif (!Sp.inr (cel qs.xs i.toNat ((0 : Nat) + 1 + 1 + 1)).int (0 : Int) (20 : Int)) (K (0+1) [.i i, .i (7 : Int)]) (Pre True (Vif (!Sp.inr (cel qs.xs i.toNat ((0 : Nat) + 1 + 1 + 1 + 1)).int (0 : Int) (20 : Int)) (K (0+1) [.i i, .i (7 : Int)]) (Ar .i64 (i + 1) fun z => A [.i z, .ro _ qs, .ro _ ps, .i all]))))))))))))) (K 0 [.ro _ qs, .ro _ ps, .i all])
theorem Xkd (W : InW) (i qs ps all A K) : Yfc { cxT Try.prog TT T2 1000 50 with fn := 18 } 1000 (Yn8 Try.prog 18 5) (Yd8 84 [(1, .ptr 1 0), (5, .si .i64 i)] ([2, 3, 4, 6] ++ rg 20 45)) [(1, .blk 25 [.rs _ qs, .rs _ ps, .si .i64 all])] (Yug Xgb A K) = Xdz i qs ps all A K := by kernel_rfl
def Xfn : Prop := ∀ (W : InW) (body a : Code), (Try.prog.funcs[18]?).bind (·.body) = some body -> a ∈ Y0 body -> Yfw a = 5 -> @Ymr W Try.prog a (@Yto W Xgb)
theorem Xlr (meas : [InW] -> List Ed -> Nat) (hyp_ : ∀ (W : InW) i qs ps all K, Xet [.i i, .ro _ qs, .ro _ ps, .i all] K -> ∀ A : List Ed -> Prop, (∀ e, meas e < meas [.i i, .ro _ qs, .ro _ ps, .i all] -> Xet e K -> A e) -> Xdz i qs ps all A K) : Xfn :=
 LE.okOf' (fun W => @TT W) (fun W => @Xe W) Xa T2 1000 50 (by kernel_rfl) Xgb (fun W => @meas W) fun W i qs ps all K hs =>
  (Xkd W i qs ps all (fun e => meas e < meas [.i i, .ro _ qs, .ro _ ps, .i all] /\ Xet e K) K).mpr (hyp_ W i qs ps all K hs _ fun e h1 h2 => ⟨h1, h2⟩)
theorem Xfa (np : Nat) (qs : Dt) (i : Nat) : Sp.qErr np qs i = if Sp.inr (cel qs i 0).int 0 ((np : Int) - 1) then (if Sp.inr (cel qs i 1).int 2 4 then (if Sp.inr (cel qs i 2).int 0 ((cel qs i 1).int - 1) then (if Sp.inr (cel qs i 3).int 0 20 && Sp.inr (cel qs i 4).int 0 20 then 0 else 7) else 4) else 7) else 4 := rfl
theorem Xnz : Xfn := Xlr (fun e => match e with | [.i i, .ro _ qs, _, _] => ((qs.xs.length : Int) - i).toNat | _ => 0) fun W i qs ps all K hs A hA => by
 obtain ⟨⟨h0, h1⟩, hk⟩ := hs;unfold Xdz;have hm := qs.len;have hm2 := ps.len;simp only [maxLen] at hm hm2;refine vifd (fun e => ?_) fun e => ?_
 ·rw [show qs.xs.length - i.toNat = (qs.xs.length - (i.toNat + 1)) + 1 by omega] at hk;obtain ⟨g1, g2⟩ := Xc3 (K1 := fun j e => K 1 [.i j, .i e]) hk;rw [Int.toNat_of_nonneg h0] at g1;have ez : (i + 1).toNat = i.toNat + 1 := by omega
  have hA' : Sp.qErr ps.xs.length qs.xs i.toNat = 0 -> A [.i (i + 1), .ro _ qs, .ro _ ps, .i all] := fun f => hA _ (by show ((qs.xs.length : Int) - (i + 1)).toNat < ((qs.xs.length : Int) - i).toNat; omega) ⟨⟨by omega, by omega⟩, by rw [ez]; exact g2 f⟩;have bad : ∀ n, Sp.qErr ps.xs.length qs.xs i.toNat = n -> n ≠ 0 -> K 1 [.i i, .i n] := fun n hn h => by rw [<- hn]; exact g1 (by rw [hn]; exact h)
  have eN := Lib.hid (Xfa ps.xs.length qs.xs i.toNat);have i1 := fun h => Sp.inr_iff.1 (show Sp.inr (cel qs.xs i.toNat 1).int 2 4 = true from h);clear g1 g2 hk hA;generalize Sp.qErr ps.xs.length qs.xs i.toNat = E at *;simp only [Nat.zero_add, Nat.reduceAdd]
  repeat' (first | (with_reducible refine ar64 (by have := i1 (by assumption); omega) ?_) | omega|intro _|with_reducible first|apply vifd|apply vifn|apply vifq|apply Xd|apply Xc|apply vifb|apply vif|apply nedd|apply ned2|apply ned|apply ar64|apply Xb|exact True.intro|assumption|rfl|apply And.intro)
  all_goals first | exact bad _ (by rw [eN.out]; simp [*]) (by omega) | exact hA' (by rw [eN.out]; simp [*]) | (have := i1 (by assumption); omega) | skip
  all_goals trace_state
 ·rw [show qs.xs.length - i.toNat = 0 by omega] at hk;exact hk.2 rfl
def Xor : LE Try.prog := ⟨18, 5, fun W => @Yto W Xgb, Xnz⟩
def Xeu [InW] (e : List Ed) (K : Nat -> List Ed -> Prop) : Prop := match e with
 | [.i i, .ro _ qs, .ro _ ps, .i all] => Pre (0 <= i /\ i <= ps.xs.length) (Vif (Sp.hasE (Sp.pErr ps.xs) i.toNat (ps.xs.length - i.toNat))
   (K 1 [.i (Sp.idxE (Sp.pErr ps.xs) i.toNat (ps.xs.length - i.toNat)), .i (Sp.pErr ps.xs (Sp.idxE (Sp.pErr ps.xs) i.toNat (ps.xs.length - i.toNat)))]) (K 0 [.ro _ qs, .ro _ ps, .i all]))
 | _ => False
def Xgc : LC where
 len := 84
 T := [(1, (.ptr 1 0)), (7, .int .i64)]
 H := [(1, .blk 25 [.rs tyQ, .rs Jc, .int .i64])]
 W := ([2, 3, 4] ++ rg 65 15)
 outs := [⟨.exit 2, [(1, (.ptr 1 0))], [(1, .blk 25 [.rs tyQ, .rs Jc, .int .i64])], ([2, 3, 4, 7] ++ rg 65 15)⟩, ⟨.ret, [(2, (.lit (.int .i64 3))), (3, .int .i64), (4, .int .i64)], [], ([1, 7] ++ rg 65 15)⟩]
 spec := Xeu
def Xd0 [W : InW] (i : Int) (qs : Ro tyQ) (ps : Ro Jc) (all : Int) (A : List Ed -> Prop) (K : Nat -> List Ed -> Prop) : Prop :=
 Vif (decide (i < (↑(ps.xs.length) : Int))) (Need (decide (0 <= i) && decide (i < (↑(ps.xs.length) : Int))) (Need (decide (i.toNat < ps.xs.length)) (Pre True (Vif (!Sp.inr (cel ps.xs i.toNat (0 : Nat)).int (-240 : Int) (240 : Int)) (K (0+1) [.i i, .i (7 : Int)]) (Ar .i64 (i + 1) fun z => A [.i z, .ro _ qs, .ro _ ps, .i all]))))) (K 0 [.ro _ qs, .ro _ ps, .i all])
theorem Xke (W : InW) (i qs ps all A K) : Yfc { cxT Try.prog TT T2 1000 50 with fn := 18 } 1000 (Yn8 Try.prog 18 17) (Yd8 84 [(1, .ptr 1 0), (7, .si .i64 i)] ([2, 3, 4] ++ rg 65 15)) [(1, .blk 25 [.rs _ qs, .rs _ ps, .si .i64 all])] (Yug Xgc A K) = Xd0 i qs ps all A K := by kernel_rfl
def Xfo : Prop := ∀ (W : InW) (body a : Code), (Try.prog.funcs[18]?).bind (·.body) = some body -> a ∈ Y0 body -> Yfw a = 17 -> @Ymr W Try.prog a (@Yto W Xgc)
theorem Xls (meas : [InW] -> List Ed -> Nat) (hyp_ : ∀ (W : InW) i qs ps all K, Xeu [.i i, .ro _ qs, .ro _ ps, .i all] K -> ∀ A : List Ed -> Prop, (∀ e, meas e < meas [.i i, .ro _ qs, .ro _ ps, .i all] -> Xeu e K -> A e) -> Xd0 i qs ps all A K) : Xfo :=
 LE.okOf' (fun W => @TT W) (fun W => @Xe W) Xa T2 1000 50 (by kernel_rfl) Xgc (fun W => @meas W) fun W i qs ps all K hs =>
  (Xke W i qs ps all (fun e => meas e < meas [.i i, .ro _ qs, .ro _ ps, .i all] /\ Xeu e K) K).mpr (hyp_ W i qs ps all K hs _ fun e h1 h2 => ⟨h1, h2⟩)
theorem Xfb (ps : Dt) (i : Nat) : Sp.pErr ps i = if Sp.inr (cel ps i 0).int (-240) 240 then 0 else 7 := rfl
theorem Xn0 : Xfo := Xls (fun e => match e with | [.i i, _, .ro _ ps, _] => ((ps.xs.length : Int) - i).toNat | _ => 0) fun W i qs ps all K hs A hA => by
 obtain ⟨⟨h0, h1⟩, hk⟩ := hs;unfold Xd0;have hm := ps.len;simp only [maxLen] at hm;refine vifd (fun e => ?_) fun e => ?_
 ·rw [show ps.xs.length - i.toNat = (ps.xs.length - (i.toNat + 1)) + 1 by omega] at hk;obtain ⟨g1, g2⟩ := Xc3 (K1 := fun j e => K 1 [.i j, .i e]) hk;rw [Int.toNat_of_nonneg h0] at g1;have ez : (i + 1).toNat = i.toNat + 1 := by omega
  have hA' : Sp.pErr ps.xs i.toNat = 0 -> A [.i (i + 1), .ro _ qs, .ro _ ps, .i all] := fun f => hA _ (by show ((ps.xs.length : Int) - (i + 1)).toNat < ((ps.xs.length : Int) - i).toNat; omega) ⟨⟨by omega, by omega⟩, by rw [ez]; exact g2 f⟩;have bad : ∀ n, Sp.pErr ps.xs i.toNat = n -> n ≠ 0 -> K 1 [.i i, .i n] := fun n hn h => by rw [<- hn]; exact g1 (by rw [hn]; exact h)
  have eN := Lib.hid (Xfb ps.xs i.toNat);clear g1 g2 hk hA;generalize Sp.pErr ps.xs i.toNat = E at *;simp only [Nat.zero_add, Nat.reduceAdd]
  repeat' (first | omega|intro _|with_reducible first|apply vifd|apply vifn|apply vifq|apply Xd|apply Xc|apply vifb|apply vif|apply nedd|apply ned2|apply ned|apply ar64|apply Xb|exact True.intro|assumption|rfl|apply And.intro)
  all_goals first | exact bad _ (by rw [eN.out]; simp [*]) (by omega) | exact hA' (by rw [eN.out]; simp [*])
 ·rw [show ps.xs.length - i.toNat = 0 by omega] at hk;exact hk.2 rfl
def Xos : LE Try.prog := ⟨18, 17, fun W => @Yto W Xgc, Xn0⟩
def T3 : Tab Try.prog := ⟨[Xit, Xcu], [Xor, Xos], []⟩
def Zb := (0 : Int)
def Za := Int.toNat Zb
def Xbq [W : InW] (kQ : Ro tyQ) (kP : Ro Jc) (kA : Int) (Q : DS -> Prop) : Prop :=
 Pre True (Vif (!Sp.inr (↑(kQ.xs.length) : Int) (1 : Int) (12 : Int)) (Q [[Cl.i 1], [Cl.i 0], [Cl.i 3]]) (Pre True (Vif (!Sp.inr (↑(kP.xs.length) : Int) (1 : Int) (4 : Int)) (Q [[Cl.i 1], [Cl.i 0], [Cl.i 3]]) (Pre (Zb <= 0 /\ Zb <= (↑(kQ.xs.length) : Int)) (Vif (Sp.hasE (Sp.qErr (kP.xs.length) kQ.xs) Za (kQ.xs.length - Int.toNat Zb)) (Q [[Cl.i 2], [Cl.i (↑(Sp.idxE (Sp.qErr (kP.xs.length) kQ.xs) Za (kQ.xs.length - Int.toNat Zb)) : Int)], [Cl.i (Sp.qErr (kP.xs.length) kQ.xs (Sp.idxE (Sp.qErr (kP.xs.length) kQ.xs) Za (kQ.xs.length - Int.toNat Zb)))]]) (Pre (Zb <= 0 /\ Zb <= (↑(kP.xs.length) : Int)) (Vif (Sp.hasE (Sp.pErr kP.xs) Za (kP.xs.length - Int.toNat Zb)) (Q [[Cl.i 3], [Cl.i (↑(Sp.idxE (Sp.pErr kP.xs) Za (kP.xs.length - Int.toNat Zb)) : Int)], [Cl.i (Sp.pErr kP.xs (Sp.idxE (Sp.pErr kP.xs) Za (kP.xs.length - Int.toNat Zb)))]]) (Pre True (Vif (!Sp.inr kA (-240 : Int) (240 : Int)) (Q [[Cl.i 4], [Cl.i 0], [Cl.i 7]]) (Q [[Cl.i 0], [Cl.i 0], [Cl.i 0]]))))))))))
theorem Xgr (W : InW) (kQ kP kA Q) : Ywx (cxT Try.prog TT T3 1000 50) 1000 18 [.agg [.rs _ kQ, .rs _ kP, .si .i64 kA]] [] 0 (Y04 [(false, [.int .i64]), (false, [.int .i64]), (false, [.int .i64])] Q) (fun _ _ _ _ => Stuck 421) = Xbq kQ kP kA Q := by kernel_rfl
abbrev Xy : List AT := [.agg [.sl tyQ, .sl Jc, .int .i64]]
theorem Xha {pre : DS -> Prop} {res : DS -> DS} (hyp_ : ∀ (W : InW) (kQ : Ro tyQ) (kP : Ro Jc) (kA : Int), pre [[.l kQ.xs, .l kP.xs, .i kA]] -> ∀ Q : DS -> Prop, Q (res [[.l kQ.xs, .l kP.xs, .i kA]]) -> Xbq kQ kP kA Q) : PureOk Try.prog 18 Xy [(false, [.int .i64]), (false, [.int .i64]), (false, [.int .i64])] pre res :=
 PureOk.of' (fun W => @TT W) (fun W => @Xe W) Xa T3 1000 50 fun W kQ kP kA hp =>
  (Xgr W kQ kP kA (fun o => o = res [[.l kQ.xs, .l kP.xs, .i kA]])).mpr (hyp_ W kQ kP kA hp _ rfl)
theorem Xhp {qs ps : Dt} {all : Int} {Q : Int × Int × Int -> Prop} (h : Q (Sp.chk qs ps all)) :
  let c := Sp.inr qs.length 1 12 && Sp.inr ps.length 1 4
  (c = false -> Q (1, 0, 3)) /\
  (c = true -> Sp.hasE (Sp.qErr ps.length qs) 0 qs.length = true -> Q (2, Sp.idxE (Sp.qErr ps.length qs) 0 qs.length, Sp.qErr ps.length qs (Sp.idxE (Sp.qErr ps.length qs) 0 qs.length))) /\
  (c = true -> Sp.hasE (Sp.qErr ps.length qs) 0 qs.length = false -> Sp.hasE (Sp.pErr ps) 0 ps.length = true -> Q (3, Sp.idxE (Sp.pErr ps) 0 ps.length, Sp.pErr ps (Sp.idxE (Sp.pErr ps) 0 ps.length))) /\
  (c = true -> Sp.hasE (Sp.qErr ps.length qs) 0 qs.length = false -> Sp.hasE (Sp.pErr ps) 0 ps.length = false -> Sp.inr all (-240) 240 = false -> Q (4, 0, 7)) /\
  (c = true -> Sp.hasE (Sp.qErr ps.length qs) 0 qs.length = false -> Sp.hasE (Sp.pErr ps) 0 ps.length = false -> Sp.inr all (-240) 240 = true -> Q (0, 0, 0)) := by
 intro c;unfold Sp.chk at h;refine ⟨fun e => ?_, fun e e1 => ?_, fun e e1 e2 => ?_, fun e e1 e2 e3 => ?_, fun e e1 e2 e3 => ?_⟩
 ·rw [if_neg (by show ¬ c = true; simp [e])] at h; exact h
 ·rw [if_pos (show c = true from e), if_pos e1] at h; exact h
 ·rw [if_pos (show c = true from e), if_neg (by simp [e1]), if_pos e2] at h; exact h
 ·rw [if_pos (show c = true from e), if_neg (by simp [e1]), if_neg (by simp [e2]), if_neg (by simp [e3])] at h; exact h
 ·rw [if_pos (show c = true from e), if_neg (by simp [e1]), if_neg (by simp [e2]), if_pos e3] at h; exact h
theorem Xiw : PureOk Try.prog 18 Xy [(false, [.int .i64]), (false, [.int .i64]), (false, [.int .i64])] (fun _ => True) Xs :=
 Xha fun W qs ps all hp Q h => by
  unfold Xbq;delta Za Zb;obtain ⟨q0, q1, q2, q3, q4⟩ := Xhp (Q := fun r => Q [[.i r.1], [.i r.2.1], [.i r.2.2]]) h;clear h;simp only [show Int.toNat 0 = 0 from rfl, Nat.sub_zero]
  repeat' (first | omega|intro _|with_reducible first|apply vifd|apply vifn|apply vifq|apply Xd|apply Xc|apply vifb|apply vif|apply nedd|apply ned2|apply ned|apply ar64|apply Xb|exact True.intro|assumption|rfl|apply And.intro)
  all_goals first | exact q4 (by simp [*]) (by assumption) (by assumption) (by assumption) | exact q3 (by simp [*]) (by assumption) (by assumption) (by assumption) | exact q2 (by simp [*]) (by assumption) (by assumption) | exact q1 (by simp [*]) (by assumption) | exact q0 (by simp [*])
def Xg4 : PC Try.prog := ⟨18, Xy, [(false, [.int .i64]), (false, [.int .i64]), (false, [.int .i64])], fun _ => True, Xs, Xiw⟩
def Xey [InW] (e : List Ed) (K : Nat -> List Ed -> Prop) : Prop := match e with
 | [.ro _ q2, .i n, .i i, .ro _ qs, .ro _ ps, .i all] => Pre (0 <= i /\ i <= qs.xs.length /\ n = qs.xs.length /\ q2.xs = qs.xs) (Vif (Sp.hasE (Sp.qErr ps.xs.length qs.xs) i.toNat (qs.xs.length - i.toNat))
   (K 1 [.i (Sp.idxE (Sp.qErr ps.xs.length qs.xs) i.toNat (qs.xs.length - i.toNat)), .i (Sp.qErr ps.xs.length qs.xs (Sp.idxE (Sp.qErr ps.xs.length qs.xs) i.toNat (qs.xs.length - i.toNat)))]) (K 0 [.ro _ qs, .ro _ ps, .i all]))
 | _ => False
def Xgg : LC where
 len := 80
 T := [(1, (.ptr 1 0)), (22, .rs tyQ), (23, .int .i64), (24, .int .i64)]
 H := [(1, .blk 25 [.rs tyQ, .rs Jc, .int .i64])]
 W := (rg 2 5 ++ rg 25 38)
 outs := [⟨.exit 0, [(1, (.ptr 1 0))], [(1, .blk 25 [.rs tyQ, .rs Jc, .int .i64])], (rg 2 5 ++ rg 22 41)⟩, ⟨.ret, [(2, (.lit (.int .i64 2))), (3, .int .i64), (4, .int .i64)], [], ([1, 5, 6] ++ rg 22 41)⟩]
 spec := Xey
def Xd4 [W : InW] (q2 : Ro tyQ) (n i : Int) (qs : Ro tyQ) (ps : Ro Jc) (all : Int) (A : List Ed -> Prop) (K : Nat -> List Ed -> Prop) : Prop :=
 Vif (decide (i < n)) (Need (decide (0 <= i) && decide (i < (↑(q2.xs.length) : Int))) (Need (decide (i.toNat < q2.xs.length)) (Ar .i64 ((↑(ps.xs.length) : Int) - 1) fun z => Pre True (Vif (Sp.out Zb z [[Cl.i (cel q2.xs i.toNat (0 : Nat)).int]]) (K (0+1) [.i i, .i (4 : Int)]) (Pre True (Vif (Sp.out (2 : Int) (4 : Int) [[Cl.i (cel q2.xs i.toNat (0+1)).int]]) (K (0+1) [.i i, .i (7 : Int)]) (Ar .i64 ((cel q2.xs i.toNat (0+1)).int - 1) fun z => Pre True (Vif (Sp.out Zb z [[Cl.i (cel q2.xs i.toNat ((0 : Nat) + 1 + 1)).int]]) (K (0+1) [.i i, .i (4 : Int)]) (Pre True (Vif (Sp.out Zb (20 : Int) [[Cl.i (cel q2.xs i.toNat ((0 : Nat) + 1 + 1 + 1)).int], [Cl.i (cel q2.xs i.toNat ((0 : Nat) + 1 + 1 + 1 + 1)).int]]) (K (0+1) [.i i, .i (7 : Int)]) (Ar .i64 (i + 1) fun z => A [.ro _ q2, .i n, .i z, .ro _ qs, .ro _ ps, .i all]))))))))))) (K 0 [.ro _ qs, .ro _ ps, .i all])
theorem Xki (W : InW) (q2 n i qs ps all A K) : Yfc { cxT Try.prog TT T2 1000 50 with fn := 17 } 1000 (Yn8 Try.prog 17 5) (Yd8 80 [(1, .ptr 1 0), (22, .rs _ q2), (23, .si .i64 n), (24, .si .i64 i)] (rg 2 5 ++ rg 25 38)) [(1, .blk 25 [.rs _ qs, .rs _ ps, .si .i64 all])] (Yug Xgg A K) = Xd4 q2 n i qs ps all A K := by kernel_rfl
def Xfs : Prop := ∀ (W : InW) (body a : Code), (Try.prog.funcs[17]?).bind (·.body) = some body -> a ∈ Y0 body -> Yfw a = 5 -> @Ymr W Try.prog a (@Yto W Xgg)
theorem Xlw (meas : [InW] -> List Ed -> Nat) (hyp_ : ∀ (W : InW) q2 n i qs ps all K, Xey [.ro _ q2, .i n, .i i, .ro _ qs, .ro _ ps, .i all] K -> ∀ A : List Ed -> Prop, (∀ e, meas e < meas [.ro _ q2, .i n, .i i, .ro _ qs, .ro _ ps, .i all] -> Xey e K -> A e) -> Xd4 q2 n i qs ps all A K) : Xfs :=
 LE.okOf' (fun W => @TT W) (fun W => @Xe W) Xa T2 1000 50 (by kernel_rfl) Xgg (fun W => @meas W) fun W q2 n i qs ps all K hs =>
  (Xki W q2 n i qs ps all (fun e => meas e < meas [.ro _ q2, .i n, .i i, .ro _ qs, .ro _ ps, .i all] /\ Xey e K) K).mpr (hyp_ W q2 n i qs ps all K hs _ fun e h1 h2 => ⟨h1, h2⟩)
theorem Xn4 : Xfs := Xlw (fun e => match e with | [_, _, .i i, .ro _ qs, _, _] => ((qs.xs.length : Int) - i).toNat | _ => 0) fun W q2 n i qs ps all K hs A hA => by
 obtain ⟨⟨h0, h1, rfl, hq⟩, hk⟩ := hs;unfold Xd4;delta Zb;have hm := qs.len;have hm2 := ps.len;simp only [maxLen] at hm hm2;refine vifd (fun e => ?_) fun e => ?_
 ·rw [show qs.xs.length - i.toNat = (qs.xs.length - (i.toNat + 1)) + 1 by omega] at hk;obtain ⟨g1, g2⟩ := Xc3 (K1 := fun j e => K 1 [.i j, .i e]) hk;rw [Int.toNat_of_nonneg h0] at g1;have ez : (i + 1).toNat = i.toNat + 1 := by omega
  have hA' : Sp.qErr ps.xs.length qs.xs i.toNat = 0 -> A [.ro _ q2, .i qs.xs.length, .i (i + 1), .ro _ qs, .ro _ ps, .i all] := fun f => hA _ (by show ((qs.xs.length : Int) - (i + 1)).toNat < ((qs.xs.length : Int) - i).toNat; omega) ⟨⟨by omega, by omega, rfl, hq⟩, by rw [ez]; exact g2 f⟩;have bad : ∀ n, Sp.qErr ps.xs.length qs.xs i.toNat = n -> n ≠ 0 -> K 1 [.i i, .i n] := fun n hn h => by rw [<- hn]; exact g1 (by rw [hn]; exact h)
  have eN := Lib.hid (Xfa ps.xs.length qs.xs i.toNat);have i1 := fun h => Sp.inr_iff.1 (show Sp.inr (cel qs.xs i.toNat 1).int 2 4 = true from h);clear g1 g2 hk hA;generalize Sp.qErr ps.xs.length qs.xs i.toNat = E at *;have hl2 : q2.xs.length = qs.xs.length := by rw [hq]
  simp only [Nat.zero_add, Nat.reduceAdd, out1, out2, hq]
  repeat' (first | (with_reducible refine ar64 (by have := i1 (by assumption); omega) ?_) | omega|intro _|with_reducible first|apply vifd|apply vifn|apply vifq|apply Xd|apply Xc|apply vifb|apply vif|apply nedd|apply ned2|apply ned|apply ar64|apply Xb|exact True.intro|assumption|rfl|apply And.intro)
  all_goals first | (refine bad 7 ?_ (by omega); rw [eN.out]; simp_all; done) | (refine bad 4 ?_ (by omega); rw [eN.out]; simp_all; done) | (refine hA' ?_; rw [eN.out]; simp_all; done) | (refine bad 7 ?_ (by omega); rw [eN.out]; simp_all; grind)
 ·rw [show qs.xs.length - i.toNat = 0 by omega] at hk;exact hk.2 rfl
def Xow : LE Try.prog := ⟨17, 5, fun W => @Yto W Xgg, Xn4⟩
def Xez [InW] (e : List Ed) (K : Nat -> List Ed -> Prop) : Prop := match e with
 | [.ro _ q2, .i n, .i i, .ro _ qs, .ro _ ps, .i all] => Pre (0 <= i /\ i <= ps.xs.length /\ n = ps.xs.length /\ q2.xs = ps.xs) (Vif (Sp.hasE (Sp.pErr ps.xs) i.toNat (ps.xs.length - i.toNat))
   (K 1 [.i (Sp.idxE (Sp.pErr ps.xs) i.toNat (ps.xs.length - i.toNat)), .i (Sp.pErr ps.xs (Sp.idxE (Sp.pErr ps.xs) i.toNat (ps.xs.length - i.toNat)))]) (K 0 [.ro _ qs, .ro _ ps, .i all]))
 | _ => False
def Xgh : LC where
 len := 80
 T := [(1, (.ptr 1 0)), (64, .rs Jc), (65, .int .i64), (66, .int .i64)]
 H := [(1, .blk 25 [.rs tyQ, .rs Jc, .int .i64])]
 W := ([2, 3, 4, 7, 8] ++ rg 67 9)
 outs := [⟨.exit 3, [(1, (.ptr 1 0))], [(1, .blk 25 [.rs tyQ, .rs Jc, .int .i64])], ([2, 3, 4, 7, 8] ++ rg 64 12)⟩, ⟨.ret, [(2, (.lit (.int .i64 3))), (3, .int .i64), (4, .int .i64)], [], ([1, 7, 8] ++ rg 64 12)⟩]
 spec := Xez
def Xd5 [W : InW] (q2 : Ro Jc) (n i : Int) (qs : Ro tyQ) (ps : Ro Jc) (all : Int) (A : List Ed -> Prop) (K : Nat -> List Ed -> Prop) : Prop :=
 Vif (decide (i < n)) (Need (decide (0 <= i) && decide (i < (↑(q2.xs.length) : Int))) (Need (decide (i.toNat < q2.xs.length)) (Pre True (Vif (Sp.out (-240 : Int) (240 : Int) [[Cl.i (cel q2.xs i.toNat (0 : Nat)).int]]) (K (0+1) [.i i, .i (7 : Int)]) (Ar .i64 (i + 1) fun z => A [.ro _ q2, .i n, .i z, .ro _ qs, .ro _ ps, .i all]))))) (K 0 [.ro _ qs, .ro _ ps, .i all])
theorem Xkj (W : InW) (q2 n i qs ps all A K) : Yfc { cxT Try.prog TT T2 1000 50 with fn := 17 } 1000 (Yn8 Try.prog 17 17) (Yd8 80 [(1, .ptr 1 0), (64, .rs _ q2), (65, .si .i64 n), (66, .si .i64 i)] ([2, 3, 4, 7, 8] ++ rg 67 9)) [(1, .blk 25 [.rs _ qs, .rs _ ps, .si .i64 all])] (Yug Xgh A K) = Xd5 q2 n i qs ps all A K := by kernel_rfl
def Xft : Prop := ∀ (W : InW) (body a : Code), (Try.prog.funcs[17]?).bind (·.body) = some body -> a ∈ Y0 body -> Yfw a = 17 -> @Ymr W Try.prog a (@Yto W Xgh)
theorem Xlx (meas : [InW] -> List Ed -> Nat) (hyp_ : ∀ (W : InW) q2 n i qs ps all K, Xez [.ro _ q2, .i n, .i i, .ro _ qs, .ro _ ps, .i all] K -> ∀ A : List Ed -> Prop, (∀ e, meas e < meas [.ro _ q2, .i n, .i i, .ro _ qs, .ro _ ps, .i all] -> Xez e K -> A e) -> Xd5 q2 n i qs ps all A K) : Xft :=
 LE.okOf' (fun W => @TT W) (fun W => @Xe W) Xa T2 1000 50 (by kernel_rfl) Xgh (fun W => @meas W) fun W q2 n i qs ps all K hs =>
  (Xkj W q2 n i qs ps all (fun e => meas e < meas [.ro _ q2, .i n, .i i, .ro _ qs, .ro _ ps, .i all] /\ Xez e K) K).mpr (hyp_ W q2 n i qs ps all K hs _ fun e h1 h2 => ⟨h1, h2⟩)
theorem Xn5 : Xft := Xlx (fun e => match e with | [_, _, .i i, _, .ro _ ps, _] => ((ps.xs.length : Int) - i).toNat | _ => 0) fun W q2 n i qs ps all K hs A hA => by
 obtain ⟨⟨h0, h1, rfl, hq⟩, hk⟩ := hs;unfold Xd5;have hm := ps.len;simp only [maxLen] at hm;refine vifd (fun e => ?_) fun e => ?_
 ·rw [show ps.xs.length - i.toNat = (ps.xs.length - (i.toNat + 1)) + 1 by omega] at hk;obtain ⟨g1, g2⟩ := Xc3 (K1 := fun j e => K 1 [.i j, .i e]) hk;rw [Int.toNat_of_nonneg h0] at g1;have ez : (i + 1).toNat = i.toNat + 1 := by omega
  have hA' : Sp.pErr ps.xs i.toNat = 0 -> A [.ro _ q2, .i ps.xs.length, .i (i + 1), .ro _ qs, .ro _ ps, .i all] := fun f => hA _ (by show ((ps.xs.length : Int) - (i + 1)).toNat < ((ps.xs.length : Int) - i).toNat; omega) ⟨⟨by omega, by omega, rfl, hq⟩, by rw [ez]; exact g2 f⟩;have bad : ∀ n, Sp.pErr ps.xs i.toNat = n -> n ≠ 0 -> K 1 [.i i, .i n] := fun n hn h => by rw [<- hn]; exact g1 (by rw [hn]; exact h)
  have eN := Lib.hid (Xfb ps.xs i.toNat);clear g1 g2 hk hA;generalize Sp.pErr ps.xs i.toNat = E at *;have hl2 : q2.xs.length = ps.xs.length := by rw [hq]
  simp only [Nat.zero_add, Nat.reduceAdd, out1, hq]
  repeat' (first | omega|intro _|with_reducible first|apply vifd|apply vifn|apply vifq|apply Xd|apply Xc|apply vifb|apply vif|apply nedd|apply ned2|apply ned|apply ar64|apply Xb|exact True.intro|assumption|rfl|apply And.intro)
  all_goals first | exact bad _ (by rw [eN.out]; simp_all) (by omega) | exact hA' (by rw [eN.out]; simp_all)
 ·rw [show ps.xs.length - i.toNat = 0 by omega] at hk;exact hk.2 rfl
def Xox : LE Try.prog := ⟨17, 17, fun W => @Yto W Xgh, Xn5⟩
def T4 : Tab Try.prog := ⟨[Xct], [Xow, Xox], []⟩
def Xbr [W : InW] (kQ : Ro tyQ) (kP : Ro Jc) (kA : Int) (Q : DS -> Prop) : Prop :=
 Pre True (Vif (Sp.out (1 : Int) (12 : Int) [[Cl.i (↑(kQ.xs.length) : Int)]]) (Q [[Cl.i 1], [Cl.i 0], [Cl.i 3]]) (Pre True (Vif (Sp.out (1 : Int) (4 : Int) [[Cl.i (↑(kP.xs.length) : Int)]]) (Q [[Cl.i 1], [Cl.i 0], [Cl.i 3]]) (Pre (Zb <= 0 /\ Zb <= (↑(kQ.xs.length) : Int) /\ (↑(kQ.xs.length) : Int) = (↑(kQ.xs.length) : Int) /\ kQ.xs = kQ.xs) (Vif (Sp.hasE (Sp.qErr (kP.xs.length) kQ.xs) Za (kQ.xs.length - Int.toNat Zb)) (Q [[Cl.i 2], [Cl.i (↑(Sp.idxE (Sp.qErr (kP.xs.length) kQ.xs) Za (kQ.xs.length - Int.toNat Zb)) : Int)], [Cl.i (Sp.qErr (kP.xs.length) kQ.xs (Sp.idxE (Sp.qErr (kP.xs.length) kQ.xs) Za (kQ.xs.length - Int.toNat Zb)))]]) (Pre (Zb <= 0 /\ Zb <= (↑(kP.xs.length) : Int) /\ (↑(kP.xs.length) : Int) = (↑(kP.xs.length) : Int) /\ kP.xs = kP.xs) (Vif (Sp.hasE (Sp.pErr kP.xs) Za (kP.xs.length - Int.toNat Zb)) (Q [[Cl.i 3], [Cl.i (↑(Sp.idxE (Sp.pErr kP.xs) Za (kP.xs.length - Int.toNat Zb)) : Int)], [Cl.i (Sp.pErr kP.xs (Sp.idxE (Sp.pErr kP.xs) Za (kP.xs.length - Int.toNat Zb)))]]) (Pre True (Vif (Sp.out (-240 : Int) (240 : Int) [[Cl.i kA]]) (Q [[Cl.i 4], [Cl.i 0], [Cl.i 7]]) (Q [[Cl.i 0], [Cl.i 0], [Cl.i 0]]))))))))))
theorem Xgs (W : InW) (kQ kP kA Q) : Ywx (cxT Try.prog TT T4 1000 50) 1000 17 [.agg [.rs _ kQ, .rs _ kP, .si .i64 kA]] [] 0 (Y04 [(false, [.int .i64]), (false, [.int .i64]), (false, [.int .i64])] Q) (fun _ _ _ _ => Stuck 421) = Xbr kQ kP kA Q := by kernel_rfl
abbrev Xz : List AT := [.agg [.sl tyQ, .sl Jc, .int .i64]]
theorem Xhb {pre : DS -> Prop} {res : DS -> DS} (hyp_ : ∀ (W : InW) (kQ : Ro tyQ) (kP : Ro Jc) (kA : Int), pre [[.l kQ.xs, .l kP.xs, .i kA]] -> ∀ Q : DS -> Prop, Q (res [[.l kQ.xs, .l kP.xs, .i kA]]) -> Xbr kQ kP kA Q) : PureOk Try.prog 17 Xz [(false, [.int .i64]), (false, [.int .i64]), (false, [.int .i64])] pre res :=
 PureOk.of' (fun W => @TT W) (fun W => @Xe W) Xa T4 1000 50 fun W kQ kP kA hp =>
  (Xgs W kQ kP kA (fun o => o = res [[.l kQ.xs, .l kP.xs, .i kA]])).mpr (hyp_ W kQ kP kA hp _ rfl)
theorem Xiy : PureOk Try.prog 17 Xz [(false, [.int .i64]), (false, [.int .i64]), (false, [.int .i64])] (fun _ => True) Xs :=
 Xhb fun W qs ps all hp Q h => by
  unfold Xbr;delta Za Zb;obtain ⟨q0, q1, q2, q3, q4⟩ := Xhp (Q := fun r => Q [[.i r.1], [.i r.2.1], [.i r.2.2]]) h;clear h;simp only [show Int.toNat 0 = 0 from rfl, Nat.sub_zero, out1]
  repeat' (first | omega|intro _|with_reducible first|apply vifd|apply vifn|apply vifq|apply Xd|apply Xc|apply vifb|apply vif|apply nedd|apply ned2|apply ned|apply ar64|apply Xb|exact True.intro|assumption|rfl|apply And.intro)
  all_goals first | exact q4 (by simp [*]) (by assumption) (by assumption) (by assumption) | exact q3 (by simp [*]) (by assumption) (by assumption) (by assumption) | exact q2 (by simp [*]) (by assumption) (by assumption) | exact q1 (by simp [*]) (by assumption) | exact q0 (by simp [*])
def Xbc : PC Try.prog := ⟨17, Xz, [(false, [.int .i64]), (false, [.int .i64]), (false, [.int .i64])], fun _ => True, Xs, Xiy⟩
abbrev Xh (ds : DS) : DS := [[.b true]]
abbrev Xm (ds : DS) : Prop := match ds with | [[.l a], [.l b]] => a = b | _ => False
abbrev Xcs (ds : DS) : Prop := match ds with | [[.l a, .l p, .i n], [.l b, .l q, .i m]] => a = b /\ p = q /\ n = m | _ => False
def Xc4 [InW] (ts : List Ty) (e : List Ed) (K : Nat -> List Ed -> Prop) : Prop := match e with
 | [.ro _ a, .ro _ b, .i i] => Pre (0 <= i /\ i <= a.xs.length /\ a.xs = b.xs) (K 0 [])
 | _ => False
def Xbz [InW] (e : List Ed) (K : Nat -> List Ed -> Prop) : Prop := Xc4 [] e K
def X5 [InW] (e : List Ed) (K : Nat -> List Ed -> Prop) : Prop := Xc4 [] e K
def X4 [InW] (e : List Ed) (K : Nat -> List Ed -> Prop) : Prop := Xc4 [] e K
def Xb3 : LC where
 len := 26
 T := [(0, .rs Jc), (1, .rs Jc), (5, .int .i64)]
 H := []
 W := ([4] ++ rg 11 15)
 outs := [⟨.exit 0, [], [], ([0, 1, 4, 5] ++ rg 11 15)⟩, ⟨.ret, [(4, (.lit (.bool false)))], [], ([0, 1, 5] ++ rg 11 15)⟩]
 spec := Xbz
def Xcl [W : InW] (a b : Ro Jc) (i : Int) (A : List Ed -> Prop) (K : Nat -> List Ed -> Prop) : Prop :=
 Vif (decide (i < (↑(a.xs.length) : Int))) (Need (decide (0 <= i) && decide (i < (↑(a.xs.length) : Int))) (Need (decide (i.toNat < a.xs.length)) (Need (decide (0 <= i) && decide (i < (↑(b.xs.length) : Int))) (Need (decide (i.toNat < b.xs.length)) (Vif (!decide ((cel a.xs i.toNat (0 : Nat)).int = (cel b.xs i.toNat (0 : Nat)).int)) (K (0+1) []) (Ar .i64 (i + 1) fun z => A [.ro _ a, .ro _ b, .i z])))))) (K 0 [])
theorem Xh5 (W : InW) (a b i A K) : Yfc { cxT Try.prog TT T0 1000 50 with fn := 21 } 1000 (Yn8 Try.prog 21 5) (Yd8 26 [(0, .rs _ a), (1, .rs _ b), (5, .si .i64 i)] ([4] ++ rg 11 15)) [] (Yug Xb3 A K) = Xcl a b i A K := by kernel_rfl
def Xcw : Prop := ∀ (W : InW) (body a : Code), (Try.prog.funcs[21]?).bind (·.body) = some body -> a ∈ Y0 body -> Yfw a = 5 -> @Ymr W Try.prog a (@Yto W Xb3)
theorem Xi1 (meas : [InW] -> List Ed -> Nat) (hyp_ : ∀ (W : InW) a b i K, Xbz [.ro _ a, .ro _ b, .i i] K -> ∀ A : List Ed -> Prop, (∀ e, meas e < meas [.ro _ a, .ro _ b, .i i] -> Xbz e K -> A e) -> Xcl a b i A K) : Xcw :=
 LE.okOf' (fun W => @TT W) (fun W => @Xe W) Xa T0 1000 50 (by kernel_rfl) Xb3 (fun W => @meas W) fun W a b i K hs =>
  (Xh5 W a b i (fun e => meas e < meas [.ro _ a, .ro _ b, .i i] /\ Xbz e K) K).mpr (hyp_ W a b i K hs _ fun e h1 h2 => ⟨h1, h2⟩)
theorem Xml : Xcw := Xi1 (fun e => match e with | [.ro _ a, _, .i i] => ((a.xs.length : Int) - i).toNat | _ => 0) fun W a b i K hs A hA => by
 obtain ⟨⟨h0, h1, h2⟩, hk⟩ := hs; have hm := a.len; simp only [maxLen] at hm; have hA' := hA [.ro _ a, .ro _ b, .i (i + 1)]; have hlt : i < a.xs.length -> ((a.xs.length : Int) - (i + 1)).toNat < ((a.xs.length : Int) - i).toNat := by omega
 have hl : a.xs.length = b.xs.length := by rw [h2]
 unfold Xcl;simp only [Nat.zero_add, Nat.reduceAdd, h2]
 repeat' (first | omega|intro _|with_reducible first|apply vifd|apply vifn|apply vifq|apply Xd|apply Xc|apply vifb|apply vif|apply nedd|apply ned2|apply ned|apply ar64|apply Xb|exact True.intro|assumption|rfl|apply And.intro)
 all_goals first | exact hk | (exact hA' (hlt (by omega)) ⟨⟨by omega, by omega, h2⟩, hk⟩) | simp_all
def Xms : LE Try.prog := ⟨21, 5, fun W => @Yto W Xb3, Xml⟩
def X9 : LC where
 len := 26
 T := [(0, .rs Ja), (1, .rs Ja), (5, .int .i64)]
 H := []
 W := ([4] ++ rg 11 15)
 outs := [⟨.exit 0, [], [], ([0, 1, 4, 5] ++ rg 11 15)⟩, ⟨.ret, [(4, (.lit (.bool false)))], [], ([0, 1, 5] ++ rg 11 15)⟩]
 spec := X5
def Xbt [W : InW] (a b : Ro Ja) (i : Int) (A : List Ed -> Prop) (K : Nat -> List Ed -> Prop) : Prop :=
 Vif (decide (i < (↑(a.xs.length) : Int))) (Need (decide (0 <= i) && decide (i < (↑(a.xs.length) : Int))) (Need (decide (i.toNat < a.xs.length)) (Need (decide (0 <= i) && decide (i < (↑(b.xs.length) : Int))) (Need (decide (i.toNat < b.xs.length)) (Vif (!(decide ((cel a.xs i.toNat (0 : Nat)).int = (cel b.xs i.toNat (0 : Nat)).int) && (decide ((cel a.xs i.toNat (0+1)).int = (cel b.xs i.toNat (0+1)).int) && true))) (K (0+1) []) (Ar .i64 (i + 1) fun z => A [.ro _ a, .ro _ b, .i z])))))) (K 0 [])
theorem Xgq (W : InW) (a b i A K) : Yfc { cxT Try.prog TT T0 1000 50 with fn := 29 } 1000 (Yn8 Try.prog 29 5) (Yd8 26 [(0, .rs _ a), (1, .rs _ b), (5, .si .i64 i)] ([4] ++ rg 11 15)) [] (Yug X9 A K) = Xbt a b i A K := by kernel_rfl
def Xbw : Prop := ∀ (W : InW) (body a : Code), (Try.prog.funcs[29]?).bind (·.body) = some body -> a ∈ Y0 body -> Yfw a = 5 -> @Ymr W Try.prog a (@Yto W X9)
theorem Xg9 (meas : [InW] -> List Ed -> Nat) (hyp_ : ∀ (W : InW) a b i K, X5 [.ro _ a, .ro _ b, .i i] K -> ∀ A : List Ed -> Prop, (∀ e, meas e < meas [.ro _ a, .ro _ b, .i i] -> X5 e K -> A e) -> Xbt a b i A K) : Xbw :=
 LE.okOf' (fun W => @TT W) (fun W => @Xe W) Xa T0 1000 50 (by kernel_rfl) X9 (fun W => @meas W) fun W a b i K hs =>
  (Xgq W a b i (fun e => meas e < meas [.ro _ a, .ro _ b, .i i] /\ X5 e K) K).mpr (hyp_ W a b i K hs _ fun e h1 h2 => ⟨h1, h2⟩)
theorem Xjf : Xbw := Xg9 (fun e => match e with | [.ro _ a, _, .i i] => ((a.xs.length : Int) - i).toNat | _ => 0) fun W a b i K hs A hA => by
 obtain ⟨⟨h0, h1, h2⟩, hk⟩ := hs; have hm := a.len; simp only [maxLen] at hm; have hA' := hA [.ro _ a, .ro _ b, .i (i + 1)]; have hlt : i < a.xs.length -> ((a.xs.length : Int) - (i + 1)).toNat < ((a.xs.length : Int) - i).toNat := by omega
 have hl : a.xs.length = b.xs.length := by rw [h2]
 unfold Xbt;simp only [Nat.zero_add, Nat.reduceAdd, h2]
 repeat' (first | omega|intro _|with_reducible first|apply vifd|apply vifn|apply vifq|apply Xd|apply Xc|apply vifb|apply vif|apply nedd|apply ned2|apply ned|apply ar64|apply Xb|exact True.intro|assumption|rfl|apply And.intro)
 all_goals first | exact hk | (exact hA' (hlt (by omega)) ⟨⟨by omega, by omega, h2⟩, hk⟩) | simp_all
def Xjh : LE Try.prog := ⟨29, 5, fun W => @Yto W X9, Xjf⟩
def X8 : LC where
 len := 26
 T := [(0, .rs Ja), (1, .rs Ja), (5, .int .i64)]
 H := []
 W := ([4] ++ rg 11 15)
 outs := [⟨.exit 0, [], [], ([0, 1, 4, 5] ++ rg 11 15)⟩, ⟨.ret, [(4, (.lit (.bool false)))], [], ([0, 1, 5] ++ rg 11 15)⟩]
 spec := X4
def Xbs [W : InW] (a b : Ro Ja) (i : Int) (A : List Ed -> Prop) (K : Nat -> List Ed -> Prop) : Prop :=
 Vif (decide (i < (↑(a.xs.length) : Int))) (Need (decide (0 <= i) && decide (i < (↑(a.xs.length) : Int))) (Need (decide (i.toNat < a.xs.length)) (Need (decide (0 <= i) && decide (i < (↑(b.xs.length) : Int))) (Need (decide (i.toNat < b.xs.length)) (Vif (!(decide ((cel a.xs i.toNat (0 : Nat)).int = (cel b.xs i.toNat (0 : Nat)).int) && (decide ((cel a.xs i.toNat (0+1)).int = (cel b.xs i.toNat (0+1)).int) && true))) (K (0+1) []) (Ar .i64 (i + 1) fun z => A [.ro _ a, .ro _ b, .i z])))))) (K 0 [])
theorem Xgp (W : InW) (a b i A K) : Yfc { cxT Try.prog TT T0 1000 50 with fn := 37 } 1000 (Yn8 Try.prog 37 5) (Yd8 26 [(0, .rs _ a), (1, .rs _ b), (5, .si .i64 i)] ([4] ++ rg 11 15)) [] (Yug X8 A K) = Xbs a b i A K := by kernel_rfl
def Xbv : Prop := ∀ (W : InW) (body a : Code), (Try.prog.funcs[37]?).bind (·.body) = some body -> a ∈ Y0 body -> Yfw a = 5 -> @Ymr W Try.prog a (@Yto W X8)
theorem Xg8 (meas : [InW] -> List Ed -> Nat) (hyp_ : ∀ (W : InW) a b i K, X4 [.ro _ a, .ro _ b, .i i] K -> ∀ A : List Ed -> Prop, (∀ e, meas e < meas [.ro _ a, .ro _ b, .i i] -> X4 e K -> A e) -> Xbs a b i A K) : Xbv :=
 LE.okOf' (fun W => @TT W) (fun W => @Xe W) Xa T0 1000 50 (by kernel_rfl) X8 (fun W => @meas W) fun W a b i K hs =>
  (Xgp W a b i (fun e => meas e < meas [.ro _ a, .ro _ b, .i i] /\ X4 e K) K).mpr (hyp_ W a b i K hs _ fun e h1 h2 => ⟨h1, h2⟩)
theorem Xje : Xbv := Xg8 (fun e => match e with | [.ro _ a, _, .i i] => ((a.xs.length : Int) - i).toNat | _ => 0) fun W a b i K hs A hA => by
 obtain ⟨⟨h0, h1, h2⟩, hk⟩ := hs; have hm := a.len; simp only [maxLen] at hm; have hA' := hA [.ro _ a, .ro _ b, .i (i + 1)]; have hlt : i < a.xs.length -> ((a.xs.length : Int) - (i + 1)).toNat < ((a.xs.length : Int) - i).toNat := by omega
 have hl : a.xs.length = b.xs.length := by rw [h2]
 unfold Xbs;simp only [Nat.zero_add, Nat.reduceAdd, h2]
 repeat' (first | omega|intro _|with_reducible first|apply vifd|apply vifn|apply vifq|apply Xd|apply Xc|apply vifb|apply vif|apply nedd|apply ned2|apply ned|apply ar64|apply Xb|exact True.intro|assumption|rfl|apply And.intro)
 all_goals first | exact hk | (exact hA' (hlt (by omega)) ⟨⟨by omega, by omega, h2⟩, hk⟩) | simp_all
def Xjg : LE Try.prog := ⟨37, 5, fun W => @Yto W X8, Xje⟩
def T5 : Tab Try.prog := ⟨[], [Xms, Xjh, Xjg], []⟩
def Xdn [W : InW] (a b : Ro Jc) (Q : DS -> Prop) : Prop :=
 Vif (!decide ((↑(a.xs.length) : Int) = (↑(b.xs.length) : Int))) (Q [[Cl.b false]]) (Pre ((0 : Int) <= 0 /\ (0 : Int) <= (↑(a.xs.length) : Int) /\ a.xs = b.xs) (Q [[Cl.b true]]))
theorem Xk4 (W : InW) (a b Q) : Ywx (cxT Try.prog TT T5 1000 50) 1000 21 [.rs _ a, .rs _ b] [] 0 (Y04 [(false, [.bool])] Q) (fun _ _ _ _ => Stuck 421) = Xdn a b Q := by kernel_rfl
abbrev Xcd : List AT := [.one (.sl Jc), .one (.sl Jc)]
theorem Xmj {pre : DS -> Prop} {res : DS -> DS} (hyp_ : ∀ (W : InW) (a b : Ro Jc), pre [[.l a.xs], [.l b.xs]] -> ∀ Q : DS -> Prop, Q (res [[.l a.xs], [.l b.xs]]) -> Xdn a b Q) : PureOk Try.prog 21 Xcd [(false, [.bool])] pre res :=
 PureOk.of' (fun W => @TT W) (fun W => @Xe W) Xa T5 1000 50 fun W a b hp =>
  (Xk4 W a b (fun o => o = res [[.l a.xs], [.l b.xs]])).mpr (hyp_ W a b hp _ rfl)
theorem Xnl : PureOk Try.prog 21 Xcd [(false, [.bool])] Xm Xh :=
 Xmj fun W a b hp Q h => by
  have hp : a.xs = b.xs := hp;have hl : a.xs.length = b.xs.length := by rw [hp]
  unfold Xdn;simp only [hl, show Int.toNat 0 = 0 from rfl]
  repeat' (first | omega|intro _|with_reducible first|apply vifd|apply vifn|apply vifq|apply Xd|apply Xc|apply vifb|apply vif|apply nedd|apply ned2|apply ned|apply ar64|apply Xb|exact True.intro|assumption|rfl|apply And.intro)
  all_goals first | exact h | exact ⟨⟨by omega, by omega, hp⟩, h⟩ | simp_all
def Xb1 : PC Try.prog := ⟨21, Xcd, [(false, [.bool])], Xm, Xh, Xnl⟩
def Xcj [W : InW] (a b : Ro Ja) (Q : DS -> Prop) : Prop :=
 Vif (!decide ((↑(a.xs.length) : Int) = (↑(b.xs.length) : Int))) (Q [[Cl.b false]]) (Pre ((0 : Int) <= 0 /\ (0 : Int) <= (↑(a.xs.length) : Int) /\ a.xs = b.xs) (Q [[Cl.b true]]))
theorem Xig (W : InW) (a b Q) : Ywx (cxT Try.prog TT T5 1000 50) 1000 29 [.rs _ a, .rs _ b] [] 0 (Y04 [(false, [.bool])] Q) (fun _ _ _ _ => Stuck 421) = Xcj a b Q := by kernel_rfl
abbrev Xbo : List AT := [.one (.sl Ja), .one (.sl Ja)]
theorem Xjc {pre : DS -> Prop} {res : DS -> DS} (hyp_ : ∀ (W : InW) (a b : Ro Ja), pre [[.l a.xs], [.l b.xs]] -> ∀ Q : DS -> Prop, Q (res [[.l a.xs], [.l b.xs]]) -> Xcj a b Q) : PureOk Try.prog 29 Xbo [(false, [.bool])] pre res :=
 PureOk.of' (fun W => @TT W) (fun W => @Xe W) Xa T5 1000 50 fun W a b hp =>
  (Xig W a b (fun o => o = res [[.l a.xs], [.l b.xs]])).mpr (hyp_ W a b hp _ rfl)
theorem Xma : PureOk Try.prog 29 Xbo [(false, [.bool])] Xm Xh :=
 Xjc fun W a b hp Q h => by
  have hp : a.xs = b.xs := hp;have hl : a.xs.length = b.xs.length := by rw [hp]
  unfold Xcj;simp only [hl, show Int.toNat 0 = 0 from rfl]
  repeat' (first | omega|intro _|with_reducible first|apply vifd|apply vifn|apply vifq|apply Xd|apply Xc|apply vifb|apply vif|apply nedd|apply ned2|apply ned|apply ar64|apply Xb|exact True.intro|assumption|rfl|apply And.intro)
  all_goals first | exact h | exact ⟨⟨by omega, by omega, hp⟩, h⟩ | simp_all
def Xiu : PC Try.prog := ⟨29, Xbo, [(false, [.bool])], Xm, Xh, Xma⟩
def Xcf [W : InW] (a b : Ro Ja) (Q : DS -> Prop) : Prop :=
 Vif (!decide ((↑(a.xs.length) : Int) = (↑(b.xs.length) : Int))) (Q [[Cl.b false]]) (Pre ((0 : Int) <= 0 /\ (0 : Int) <= (↑(a.xs.length) : Int) /\ a.xs = b.xs) (Q [[Cl.b true]]))
theorem Xic (W : InW) (a b Q) : Ywx (cxT Try.prog TT T5 1000 50) 1000 37 [.rs _ a, .rs _ b] [] 0 (Y04 [(false, [.bool])] Q) (fun _ _ _ _ => Stuck 421) = Xcf a b Q := by kernel_rfl
abbrev Xbl : List AT := [.one (.sl Ja), .one (.sl Ja)]
theorem Xi8 {pre : DS -> Prop} {res : DS -> DS} (hyp_ : ∀ (W : InW) (a b : Ro Ja), pre [[.l a.xs], [.l b.xs]] -> ∀ Q : DS -> Prop, Q (res [[.l a.xs], [.l b.xs]]) -> Xcf a b Q) : PureOk Try.prog 37 Xbl [(false, [.bool])] pre res :=
 PureOk.of' (fun W => @TT W) (fun W => @Xe W) Xa T5 1000 50 fun W a b hp =>
  (Xic W a b (fun o => o = res [[.l a.xs], [.l b.xs]])).mpr (hyp_ W a b hp _ rfl)
theorem Xld : PureOk Try.prog 37 Xbl [(false, [.bool])] Xm Xh :=
 Xi8 fun W a b hp Q h => by
  have hp : a.xs = b.xs := hp;have hl : a.xs.length = b.xs.length := by rw [hp]
  unfold Xcf;simp only [hl, show Int.toNat 0 = 0 from rfl]
  repeat' (first | omega|intro _|with_reducible first|apply vifd|apply vifn|apply vifq|apply Xd|apply Xc|apply vifb|apply vif|apply nedd|apply ned2|apply ned|apply ar64|apply Xb|exact True.intro|assumption|rfl|apply And.intro)
  all_goals first | exact h | exact ⟨⟨by omega, by omega, hp⟩, h⟩ | simp_all
def Xiq : PC Try.prog := ⟨37, Xbl, [(false, [.bool])], Xm, Xh, Xld⟩
def Xby [InW] (e : List Ed) (K : Nat -> List Ed -> Prop) : Prop := match e with
 | [.i i, .ro _ qs, .ro _ ps, .i all, .ro _ qt, .ro _ pt, .i alt] => Pre (0 <= i /\ i <= qs.xs.length /\ qs.xs = qt.xs) (K 0 [])
 | _ => False
def T6 : Tab Try.prog := ⟨[Xb1], [], []⟩
def Xb2 : LC where
 len := 46
 T := [(2, (.ptr 1 0)), (3, (.ptr 4 0)), (5, .int .i64)]
 H := [(1, .blk 25 [.rs Iv5, .rs Jc, .int .i64]), (4, .blk 25 [.rs Iv5, .rs Jc, .int .i64])]
 W := ([4] ++ rg 28 18)
 outs := [⟨.exit 0, [], [], (rg 2 4 ++ rg 28 18)⟩, ⟨.ret, [(4, (.lit (.bool false)))], [], ([2, 3, 5] ++ rg 28 18)⟩]
 spec := Xby
def Xck [W : InW] (i : Int) (qs : Ro Iv5) (ps : Ro Jc) (all : Int) (qt : Ro Iv5) (pt : Ro Jc) (alt : Int) (A : List Ed -> Prop) (K : Nat -> List Ed -> Prop) : Prop :=
 Vif (decide (i < (↑(qs.xs.length) : Int))) (Need (decide (0 <= i) && decide (i < (↑(qs.xs.length) : Int))) (Need (decide (i.toNat < qs.xs.length)) (Need (decide (0 <= i) && decide (i < (↑(qt.xs.length) : Int))) (Need (decide (i.toNat < qt.xs.length)) (Vif (!(decide ((cel qs.xs i.toNat (0 : Nat)).int = (cel qt.xs i.toNat (0 : Nat)).int) && (decide ((cel qs.xs i.toNat (0+1)).int = (cel qt.xs i.toNat (0+1)).int) && (decide ((cel qs.xs i.toNat ((0 : Nat) + 1 + 1)).int = (cel qt.xs i.toNat ((0 : Nat) + 1 + 1)).int) && (decide ((cel qs.xs i.toNat ((0 : Nat) + 1 + 1 + 1)).int = (cel qt.xs i.toNat ((0 : Nat) + 1 + 1 + 1)).int) && (decide ((cel qs.xs i.toNat ((0 : Nat) + 1 + 1 + 1 + 1)).int = (cel qt.xs i.toNat ((0 : Nat) + 1 + 1 + 1 + 1)).int) && true)))))) (K (0+1) []) (Ar .i64 (i + 1) fun z => A [.i z, .ro _ qs, .ro _ ps, .i all, .ro _ qt, .ro _ pt, .i alt])))))) (K 0 [])
theorem Xh4 (W : InW) (i qs ps all qt pt alt A K) : Yfc { cxT Try.prog TT T6 1000 50 with fn := 34 } 1000 (Yn8 Try.prog 34 5) (Yd8 46 [(2, .ptr 1 0), (3, .ptr 4 0), (5, .si .i64 i)] ([4] ++ rg 28 18)) [(1, .blk 25 [.rs _ qs, .rs _ ps, .si .i64 all]), (4, .blk 25 [.rs _ qt, .rs _ pt, .si .i64 alt])] (Yug Xb2 A K) = Xck i qs ps all qt pt alt A K := by kernel_rfl
def Xcv : Prop := ∀ (W : InW) (body a : Code), (Try.prog.funcs[34]?).bind (·.body) = some body -> a ∈ Y0 body -> Yfw a = 5 -> @Ymr W Try.prog a (@Yto W Xb2)
theorem Xi0 (meas : [InW] -> List Ed -> Nat) (hyp_ : ∀ (W : InW) i qs ps all qt pt alt K, Xby [.i i, .ro _ qs, .ro _ ps, .i all, .ro _ qt, .ro _ pt, .i alt] K -> ∀ A : List Ed -> Prop, (∀ e, meas e < meas [.i i, .ro _ qs, .ro _ ps, .i all, .ro _ qt, .ro _ pt, .i alt] -> Xby e K -> A e) -> Xck i qs ps all qt pt alt A K) : Xcv :=
 LE.okOf' (fun W => @TT W) (fun W => @Xe W) Xa T6 1000 50 (by kernel_rfl) Xb2 (fun W => @meas W) fun W i qs ps all qt pt alt K hs =>
  (Xh4 W i qs ps all qt pt alt (fun e => meas e < meas [.i i, .ro _ qs, .ro _ ps, .i all, .ro _ qt, .ro _ pt, .i alt] /\ Xby e K) K).mpr (hyp_ W i qs ps all qt pt alt K hs _ fun e h1 h2 => ⟨h1, h2⟩)
theorem Xmk : Xcv := Xi0 (fun e => match e with | [.i i, .ro _ a, _, _, _, _, _] => ((a.xs.length : Int) - i).toNat | _ => 0) fun W i a ps all b pt alt K hs A hA => by
 obtain ⟨⟨h0, h1, h2⟩, hk⟩ := hs;have hm := a.len;simp only [maxLen] at hm;have hA' := hA [.i (i + 1), .ro _ a, .ro _ ps, .i all, .ro _ b, .ro _ pt, .i alt];have hlt : i < a.xs.length -> ((a.xs.length : Int) - (i + 1)).toNat < ((a.xs.length : Int) - i).toNat := by omega
 have hl : a.xs.length = b.xs.length := by rw [h2]
 unfold Xck;simp only [Nat.zero_add, Nat.reduceAdd, h2]
 repeat' (first | omega|intro _|with_reducible first|apply vifd|apply vifn|apply vifq|apply Xd|apply Xc|apply vifb|apply vif|apply nedd|apply ned2|apply ned|apply ar64|apply Xb|exact True.intro|assumption|rfl|apply And.intro)
 all_goals first | exact hk | (exact hA' (hlt (by omega)) ⟨⟨by omega, by omega, h2⟩, hk⟩) | simp_all
def Xmr : LE Try.prog := ⟨34, 5, fun W => @Yto W Xb2, Xmk⟩
def T7 : Tab Try.prog := ⟨[Xb1], [Xmr], []⟩
def Xdm [W : InW] (a_Qs : Ro Iv5) (a_Ps : Ro Jc) (a_All : Int) (b_Qs : Ro Iv5) (b_Ps : Ro Jc) (b_All : Int) (Q : DS -> Prop) : Prop :=
 Vif (!decide ((↑(a_Qs.xs.length) : Int) = (↑(b_Qs.xs.length) : Int))) (Q [[Cl.b false]]) (Pre (a_Ps.xs = b_Ps.xs) (Vif (!true) (Q [[Cl.b false]]) (Vif (!decide (a_All = b_All)) (Q [[Cl.b false]]) (Pre ((0 : Int) <= 0 /\ (0 : Int) <= (↑(a_Qs.xs.length) : Int) /\ a_Qs.xs = b_Qs.xs) (Q [[Cl.b true]])))))
theorem Xk3 (W : InW) (a_Qs a_Ps a_All b_Qs b_Ps b_All Q) : Ywx (cxT Try.prog TT T7 1000 50) 1000 34 [.agg [.rs _ a_Qs, .rs _ a_Ps, .si .i64 a_All], .agg [.rs _ b_Qs, .rs _ b_Ps, .si .i64 b_All]] [] 0 (Y04 [(false, [.bool])] Q) (fun _ _ _ _ => Stuck 421) = Xdm a_Qs a_Ps a_All b_Qs b_Ps b_All Q := by kernel_rfl
abbrev Xcc : List AT := [.agg [.sl Iv5, .sl Jc, .int .i64], .agg [.sl Iv5, .sl Jc, .int .i64]]
theorem Xmi {pre : DS -> Prop} {res : DS -> DS} (hyp_ : ∀ (W : InW) (a_Qs : Ro Iv5) (a_Ps : Ro Jc) (a_All : Int) (b_Qs : Ro Iv5) (b_Ps : Ro Jc) (b_All : Int), pre [[.l a_Qs.xs, .l a_Ps.xs, .i a_All], [.l b_Qs.xs, .l b_Ps.xs, .i b_All]] -> ∀ Q : DS -> Prop, Q (res [[.l a_Qs.xs, .l a_Ps.xs, .i a_All], [.l b_Qs.xs, .l b_Ps.xs, .i b_All]]) -> Xdm a_Qs a_Ps a_All b_Qs b_Ps b_All Q) : PureOk Try.prog 34 Xcc [(false, [.bool])] pre res :=
 PureOk.of' (fun W => @TT W) (fun W => @Xe W) Xa T7 1000 50 fun W a_Qs a_Ps a_All b_Qs b_Ps b_All hp =>
  (Xk3 W a_Qs a_Ps a_All b_Qs b_Ps b_All (fun o => o = res [[.l a_Qs.xs, .l a_Ps.xs, .i a_All], [.l b_Qs.xs, .l b_Ps.xs, .i b_All]])).mpr (hyp_ W a_Qs a_Ps a_All b_Qs b_Ps b_All hp _ rfl)
theorem Xnk : PureOk Try.prog 34 Xcc [(false, [.bool])] Xcs Xh :=
 Xmi fun W a pa na b pb nb hp Q h => by
  obtain ⟨h1, h2, h3⟩ : a.xs = b.xs /\ pa.xs = pb.xs /\ na = nb := hp;have hl : a.xs.length = b.xs.length := by rw [h1]
  unfold Xdm;subst h3;simp only [hl, show Int.toNat 0 = 0 from rfl]
  repeat' (first | omega|intro _|with_reducible first|apply vifd|apply vifn|apply vifq|apply Xd|apply Xc|apply vifb|apply vif|apply nedd|apply ned2|apply ned|apply ar64|apply Xb|exact True.intro|assumption|rfl|apply And.intro)
  all_goals first | exact h | exact ⟨⟨by omega, by omega, h1⟩, h⟩ | simp_all
def Xlb : PC Try.prog := ⟨34, Xcc, [(false, [.bool])], Xcs, Xh, Xnk⟩
namespace Sp
def bx (d : Dt) (j : Nat) : Int := (cel d j 0).int
def ansD (d : Dt) : Nat -> Nat -> Int -> Bool
 | _, 0, _ => false
 | i, n + 1, a => if bx d i = 1 then (if 0 <= a then true else ansD d (i + 1) n i) else ansD d (i + 1) n a
def ansL (d : Dt) : Nat -> Nat -> Int -> Int
 | _, 0, a => a
 | i, n + 1, a => if bx d i = 1 then ansL d (i + 1) n i else ansL d (i + 1) n a
def ansOf (d : Dt) : Int := if ansD d 0 d.length (-1) then -1 else ansL d 0 d.length (-1)
def ptsV (right pts minus : Int) (d : Dt) : Int := if ansOf d = right then pts else if 0 <= ansOf d then 0 - minus else 0
def num (xs : Dt) (i : Nat) : Int := (cel xs i 0).int
def total (xs : Dt) : Int := sumF (num xs) 0 xs.length 0
def Low (xs : Dt) : Prop := xs.length <= 1000 /\ ∀ i, i < xs.length -> -1000 <= num xs i /\ num xs i <= 1000
end Sp
abbrev Xgz (ds : DS) : DS := match ds with | [[.l d]] => [[.i (Sp.total d)]] | _ => []
abbrev Xg2 (ds : DS) : Prop := match ds with | [[.l d]] => Sp.Low d | _ => False
namespace Sp
def row (sh : Dt) (i : Nat) : Dt := (cel sh i 0).lst
def unsRow (d : Dt) (i : Int) : Nat -> Nat -> Dt
 | _, 0 => []
 | j, n + 1 => (if bx d j = 2 then [[.i i, .i j]] else []) ++ unsRow d i (j + 1) n
def unsAll (sh : Dt) : Nat -> Nat -> Dt
 | _, 0 => []
 | i, n + 1 => unsRow (row sh i) i 0 (row sh i).length ++ unsAll sh (i + 1) n
def uns (sh : Dt) : Dt := unsAll sh 0 sh.length
def Few (sh : Dt) : Prop := sh.length <= 12 /\ ∀ i, i < sh.length -> (row sh i).length <= 4
theorem unsRow_len (d : Dt) (i : Int) : ∀ n j, (unsRow d i j n).length <= n
 | 0, _ => Nat.le_refl _
 | n + 1, j => by
  have := unsRow_len d i n (j + 1);simp only [unsRow, List.length_append]
  split <;> simp <;> omega
end Sp
def Xej [InW] (e : List Ed) (K : Nat -> List Ed -> Prop) : Prop := match e with
 | [.ro _ sh, .i i, .i j, .l acc] => Pre (0 <= i /\ i < sh.xs.length /\ 0 <= j /\ j <= (Sp.row sh.xs i.toNat).length /\ (acc.length : Int) <= 4 * i + j /\ Sp.Few sh.xs) (K 0 [.ro _ sh, .i i, .l (acc ++ Sp.unsRow (Sp.row sh.xs i.toNat) i j.toNat ((Sp.row sh.xs i.toNat).length - j.toNat))])
 | _ => False
def Xf1 : LC where
 len := 36
 T := [(0, .rs Jb), (3, (.row 3)), (4, .int .i64), (5, .int .i64)]
 H := [(3, .arr 44 Ja)]
 W := (rg 12 23)
 outs := [⟨.exit 2, [(0, .rs Jb), (3, (.row 6)), (4, .int .i64)], [(6, .arr 44 Ja)], ([5] ++ rg 12 23)⟩]
 spec := Xej
def Xdp [W : InW] (sh : Ro Jb) (i j : Int) (acc : Dt) (A : List Ed -> Prop) (K : Nat -> List Ed -> Prop) : Prop :=
 Need (decide (0 <= i) && decide (i < (↑(sh.xs.length) : Int))) (Need (decide (i.toNat < sh.xs.length)) (Vif (decide (j < (↑(List.length (cel sh.xs i.toNat (0 : Nat)).lst) : Int))) (Need (decide (0 <= i) && decide (i < (↑(sh.xs.length) : Int))) (Need (decide (i.toNat < sh.xs.length)) (Need (decide (0 <= j) && decide (j < (↑(List.length (cel sh.xs i.toNat (0 : Nat)).lst) : Int))) (Need (decide (j.toNat < List.length (cel sh.xs i.toNat (0 : Nat)).lst)) (Vif (decide ((cel (cel sh.xs i.toNat (0 : Nat)).lst j.toNat (0 : Nat)).int = 2)) (Need (decide ((acc.length + [[Cl.i i, Cl.i j]].length) * 16 <= 140737488355328)) (Ar .i64 (j + 1) fun z => A [.ro [Ty.sl [Ty.int IntKind.i64]] sh, .i i, .i z, .l (acc ++ [[Cl.i i, Cl.i j]])])) (Ar .i64 (j + 1) fun z => A [.ro [Ty.sl [Ty.int IntKind.i64]] sh, .i i, .i z, .l acc])))))) (K 0 [.ro [Ty.sl [Ty.int IntKind.i64]] sh, .i i, .l acc])))
theorem Xj3 (W : InW) (sh i j acc A K) : Yfc { cxT Try.prog TT T0 1000 50 with fn := 45 } 1000 (Yn8 Try.prog 45 7) (Yd8 36 [(0, .rs _ sh), (3, .rw 3), (4, .si .i64 i), (5, .si .i64 j)] (rg 12 23)) [(3, .arr 44 Ja acc)] (Yug Xf1 A K) = Xdp sh i j acc A K := by kernel_rfl
def Xfd : Prop := ∀ (W : InW) (body a : Code), (Try.prog.funcs[45]?).bind (·.body) = some body -> a ∈ Y0 body -> Yfw a = 7 -> @Ymr W Try.prog a (@Yto W Xf1)
theorem Xlh (meas : [InW] -> List Ed -> Nat) (hyp_ : ∀ (W : InW) sh i j acc K, Xej [.ro _ sh, .i i, .i j, .l acc] K -> ∀ A : List Ed -> Prop, (∀ e, meas e < meas [.ro _ sh, .i i, .i j, .l acc] -> Xej e K -> A e) -> Xdp sh i j acc A K) : Xfd :=
 LE.okOf' (fun W => @TT W) (fun W => @Xe W) Xa T0 1000 50 (by kernel_rfl) Xf1 (fun W => @meas W) fun W sh i j acc K hs =>
  (Xj3 W sh i j acc (fun e => meas e < meas [.ro _ sh, .i i, .i j, .l acc] /\ Xej e K) K).mpr (hyp_ W sh i j acc K hs _ fun e h1 h2 => ⟨h1, h2⟩)
theorem Xnp : Xfd := Xlh (fun e => match e with | [.ro _ sh, .i i, .i j, _] => (((Sp.row sh.xs i.toNat).length : Int) - j).toNat | _ => 0) fun W sh i j acc K hs A hA => by
 obtain ⟨⟨h0, h1, h2, h3, h4, h5⟩, hk⟩ := hs;have hm := sh.len;have hrow := h5.2 i.toNat (by omega);have h51 := h5.1;simp only [maxLen] at hm;unfold Xdp;simp only [List.length_cons, List.length_nil, show (cel sh.xs i.toNat 0).lst = Sp.row sh.xs i.toNat from rfl];have ej : ((j.toNat : Nat) : Int) = j := Int.toNat_of_nonneg h2;have ez : (j + 1).toNat = j.toNat + 1 := by omega
 have hlt : j < (Sp.row sh.xs i.toNat).length -> (((Sp.row sh.xs i.toNat).length : Int) - (j + 1)).toNat < (((Sp.row sh.xs i.toNat).length : Int) - j).toNat := by omega
 by_cases hj : j < (Sp.row sh.xs i.toNat).length
 ·rw [show (Sp.row sh.xs i.toNat).length - j.toNat = ((Sp.row sh.xs i.toNat).length - (j.toNat + 1)) + 1 by omega] at hk;simp only [Sp.unsRow, Sp.bx, ej] at hk
  by_cases c : (cel (Sp.row sh.xs i.toNat) j.toNat 0).int = 2
  ·simp only [c, if_true] at hk;rw [<- List.append_assoc] at hk;have hA' := hA [.ro _ sh, .i i, .i (j + 1), .l (acc ++ [[.i i, .i j]])] (hlt hj) ⟨⟨h0, h1, by omega, by omega, by simp; omega, h5⟩, by rw [ez]; exact hk⟩;clear hA hk
   repeat' (first | omega|intro _|with_reducible first|apply vifd|apply vifn|apply vifq|apply Xd|apply Xc|apply vifb|apply vif|apply nedd|apply ned2|apply ned|apply ar64|apply Xb|exact True.intro|assumption|rfl|apply And.intro)
   all_goals first | contradiction | exact hA' | (simp; omega)
  ·simp only [c, if_false, List.nil_append] at hk;have hA' := hA [.ro _ sh, .i i, .i (j + 1), .l acc] (hlt hj) ⟨⟨h0, h1, by omega, by omega, by omega, h5⟩, by rw [ez]; exact hk⟩;clear hA hk
   repeat' (first | omega|intro _|with_reducible first|apply vifd|apply vifn|apply vifq|apply Xd|apply Xc|apply vifb|apply vif|apply nedd|apply ned2|apply ned|apply ar64|apply Xb|exact True.intro|assumption|rfl|apply And.intro)
   all_goals first | contradiction | exact hA'
 ·rw [show (Sp.row sh.xs i.toNat).length - j.toNat = 0 by omega] at hk;simp only [Sp.unsRow, List.append_nil] at hk;clear hA
  repeat' (first | omega|intro _|with_reducible first|apply vifd|apply vifn|apply vifq|apply Xd|apply Xc|apply vifb|apply vif|apply nedd|apply ned2|apply ned|apply ar64|apply Xb|exact True.intro|assumption|rfl|apply And.intro)
  all_goals exact hk
def Xoh : LE Try.prog := ⟨45, 7, fun W => @Yto W Xf1, Xnp⟩
def T11 : Tab Try.prog := ⟨[], [Xoh], []⟩
def Xei [InW] (e : List Ed) (K : Nat -> List Ed -> Prop) : Prop := match e with
 | [.ro _ sh, .i i, .l acc] => Pre (0 <= i /\ i <= sh.xs.length /\ (acc.length : Int) <= 4 * i /\ Sp.Few sh.xs) (K 0 [.l (acc ++ Sp.unsAll sh.xs i.toNat (sh.xs.length - i.toNat))])
 | _ => False
def Xf0 : LC where
 len := 36
 T := [(0, .rs Jb), (3, (.row 3)), (4, .int .i64)]
 H := [(3, .arr 44 Ja)]
 W := (rg 5 30)
 outs := [⟨.exit 0, [(3, (.row 6))], [(6, .arr 44 Ja)], ([0] ++ rg 4 31)⟩]
 spec := Xei
def Xdo [W : InW] (sh : Ro Jb) (i : Int) (acc : Dt) (A : List Ed -> Prop) (K : Nat -> List Ed -> Prop) : Prop :=
 Vif (decide (i < (↑(sh.xs.length) : Int))) (Pre (0 <= i /\ i < (↑(sh.xs.length) : Int) /\ Zb <= 0 /\ Zb <= (↑(List.length (Sp.row sh.xs i.toNat)) : Int) /\ (↑(acc.length) : Int) <= 4 * i + 0 /\ Sp.Few sh.xs) (Ar .i64 (i + 1) fun z => A [.ro [Ty.sl [Ty.int IntKind.i64]] sh, .i z, .l (acc ++ Sp.unsRow (Sp.row sh.xs i.toNat) i (Int.toNat Zb) (List.length (Sp.row sh.xs i.toNat) - Int.toNat Zb))])) (K 0 [.l acc])
theorem Xj2 (W : InW) (sh i acc A K) : Yfc { cxT Try.prog TT T11 1000 50 with fn := 45 } 1000 (Yn8 Try.prog 45 4) (Yd8 36 [(0, .rs _ sh), (3, .rw 3), (4, .si .i64 i)] (rg 5 30)) [(3, .arr 44 Ja acc)] (Yug Xf0 A K) = Xdo sh i acc A K := by kernel_rfl
def Xfc : Prop := ∀ (W : InW) (body a : Code), (Try.prog.funcs[45]?).bind (·.body) = some body -> a ∈ Y0 body -> Yfw a = 4 -> @Ymr W Try.prog a (@Yto W Xf0)
theorem Xlg (meas : [InW] -> List Ed -> Nat) (hyp_ : ∀ (W : InW) sh i acc K, Xei [.ro _ sh, .i i, .l acc] K -> ∀ A : List Ed -> Prop, (∀ e, meas e < meas [.ro _ sh, .i i, .l acc] -> Xei e K -> A e) -> Xdo sh i acc A K) : Xfc :=
 LE.okOf' (fun W => @TT W) (fun W => @Xe W) Xa T11 1000 50 (by kernel_rfl) Xf0 (fun W => @meas W) fun W sh i acc K hs =>
  (Xj2 W sh i acc (fun e => meas e < meas [.ro _ sh, .i i, .l acc] /\ Xei e K) K).mpr (hyp_ W sh i acc K hs _ fun e h1 h2 => ⟨h1, h2⟩)
theorem Xno : Xfc := Xlg (fun e => match e with | [.ro _ sh, .i i, _] => ((sh.xs.length : Int) - i).toNat | _ => 0) fun W sh i acc K hs A hA => by
 obtain ⟨⟨h0, h1, h4, h5⟩, hk⟩ := hs;have hm := sh.len;have h51 := h5.1;simp only [maxLen] at hm;unfold Xdo;delta Zb;simp only [show Int.toNat 0 = 0 from rfl, Nat.sub_zero, show (cel sh.xs i.toNat 0).lst = Sp.row sh.xs i.toNat from rfl];have ei : ((i.toNat : Nat) : Int) = i := Int.toNat_of_nonneg h0;have ez : (i + 1).toNat = i.toNat + 1 := by omega
 by_cases hj : i < sh.xs.length
 ·rw [show sh.xs.length - i.toNat = (sh.xs.length - (i.toNat + 1)) + 1 by omega] at hk;simp only [Sp.unsAll, ei] at hk;rw [<- List.append_assoc] at hk;have hrow := h5.2 i.toNat (by omega);have hl := Sp.unsRow_len (Sp.row sh.xs i.toNat) i (Sp.row sh.xs i.toNat).length 0;have hA' := hA [.ro _ sh, .i (i + 1), .l (acc ++ Sp.unsRow (Sp.row sh.xs i.toNat) i 0 (Sp.row sh.xs i.toNat).length)] (show ((sh.xs.length : Int) - (i + 1)).toNat < ((sh.xs.length : Int) - i).toNat by omega) ⟨⟨by omega, by omega, by simp; omega, h5⟩, by rw [ez]; exact hk⟩;clear hA hk
  repeat' (first | (with_reducible refine Xb ⟨by omega, by omega, by omega, by omega, by omega, h5⟩ ?_) | omega|intro _|with_reducible first|apply vifd|apply vifn|apply vifq|apply Xd|apply Xc|apply vifb|apply vif|apply nedd|apply ned2|apply ned|apply ar64|apply Xb|exact True.intro|assumption|rfl|apply And.intro)
  all_goals first | exact hA' | skip
 ·rw [show sh.xs.length - i.toNat = 0 by omega] at hk;simp only [Sp.unsAll, List.append_nil] at hk;clear hA
  repeat' (first | omega|intro _|with_reducible first|apply vifd|apply vifn|apply vifq|apply Xd|apply Xc|apply vifb|apply vif|apply nedd|apply ned2|apply ned|apply ar64|apply Xb|exact True.intro|assumption|rfl|apply And.intro)
  all_goals exact hk
def Xog : LE Try.prog := ⟨45, 4, fun W => @Yto W Xf0, Xno⟩
def T12 : Tab Try.prog := ⟨[], [Xog], []⟩
def Xhw [W : InW] (sh : Ro Jb) (Q : DS -> Prop) : Prop :=
 Pre ((0 : Int) <= 0 /\ (0 : Int) <= (↑(sh.xs.length) : Int) /\ (↑(0 : Nat) : Int) <= 4 * 0 /\ Sp.Few sh.xs) (Q [[Cl.l (Sp.unsAll sh.xs (Int.toNat (0 : Int)) (sh.xs.length - Int.toNat (0 : Int)))]])
theorem Xm2 (W : InW) (sh Q) : Ywx (cxT Try.prog TT T12 1000 50) 1000 45 [.rs _ sh] [] 0 (Y04 [(false, [.row 44 Ja])] Q) (fun _ _ _ _ => Stuck 421) = Xhw sh Q := by kernel_rfl
abbrev Xdd : List AT := [.one (.sl Jb)]
theorem Xnm {pre : DS -> Prop} {res : DS -> DS} (hyp_ : ∀ (W : InW) (sh : Ro Jb), pre [[.l sh.xs]] -> ∀ Q : DS -> Prop, Q (res [[.l sh.xs]]) -> Xhw sh Q) : PureOk Try.prog 45 Xdd [(false, [.row 44 Ja])] pre res :=
 PureOk.of' (fun W => @TT W) (fun W => @Xe W) Xa T12 1000 50 fun W sh hp =>
  (Xm2 W sh (fun o => o = res [[.l sh.xs]])).mpr (hyp_ W sh hp _ rfl)
abbrev Xc5 (ds : DS) : DS := match ds with | [[.l sh]] => [[.l (Sp.uns sh)]] | _ => []
abbrev Xg1 (ds : DS) : Prop := match ds with | [[.l sh]] => Sp.Few sh | _ => False
theorem okuns : PureOk Try.prog 45 Xdd [(false, [.row 44 Ja])] Xg1 Xc5 :=
 Xnm fun W sh hp Q h => by
  have hp : Sp.Few sh.xs := hp;unfold Xhw;simp only [show Int.toNat 0 = 0 from rfl, Nat.sub_zero, List.nil_append];simp only [Xc5, Sp.uns] at h;exact ⟨⟨by omega, by omega, by simp, hp⟩, h⟩
def Xm4 : PC Try.prog := ⟨45, Xdd, [(false, [.row 44 Ja])], Xg1, Xc5, okuns⟩
namespace Sp
structure KeyOk (qs ps : Dt) (all : Int) : Prop where
 n1 : 1 <= qs.length
 n2 : qs.length <= 12
 p1 : 1 <= ps.length
 p2 : ps.length <= 4
 part : ∀ i, i < qs.length -> 0 <= qPart qs i /\ qPart qs i < ps.length
 boxes : ∀ i, i < qs.length -> 2 <= qBoxes qs i /\ qBoxes qs i <= 4
 right : ∀ i, i < qs.length -> 0 <= qRight qs i /\ qRight qs i < qBoxes qs i
 pts : ∀ i, i < qs.length -> 0 <= qPts qs i /\ qPts qs i <= 20
 minus : ∀ i, i < qs.length -> 0 <= qMin qs i /\ qMin qs i <= 20
 need : ∀ i, i < ps.length -> -240 <= (cel ps i 0).int /\ (cel ps i 0).int <= 240
 all_ : -240 <= all /\ all <= 240
theorem qErr_ok {np : Nat} {qs : Dt} {i : Nat} (h : qErr np qs i = 0) : (0 <= qPart qs i /\ qPart qs i < np) /\ (2 <= qBoxes qs i /\ qBoxes qs i <= 4) /\ (0 <= qRight qs i /\ qRight qs i < qBoxes qs i) /\ (0 <= qPts qs i /\ qPts qs i <= 20) /\ (0 <= qMin qs i /\ qMin qs i <= 20) := by
 unfold qErr at h
 split at h
 ·rename_i h1
  split at h
  ·rename_i h2
   split at h
   ·rename_i h3
    split at h
    ·rename_i h4;rw [Bool.and_eq_true] at h4;have a := inr_iff.1 h1;have b := inr_iff.1 h2;have c := inr_iff.1 h3;have d := inr_iff.1 h4.1;have e := inr_iff.1 h4.2;omega
    ·omega
   ·omega
  ·omega
 ·omega
theorem qErr_of {np : Nat} {qs : Dt} {i : Nat} (a : 0 <= qPart qs i /\ qPart qs i < np) (b : 2 <= qBoxes qs i /\ qBoxes qs i <= 4) (c : 0 <= qRight qs i /\ qRight qs i < qBoxes qs i) (d : 0 <= qPts qs i /\ qPts qs i <= 20) (e : 0 <= qMin qs i /\ qMin qs i <= 20) : qErr np qs i = 0 := by
 unfold qErr;rw [if_pos (inr_iff.2 (by omega)), if_pos (inr_iff.2 (by omega)), if_pos (inr_iff.2 (by omega)), if_pos (by rw [Bool.and_eq_true]; exact ⟨inr_iff.2 d, inr_iff.2 e⟩)]
theorem chkE_iff {qs ps : Dt} {all : Int} : chkE qs ps all = 0 ↔ KeyOk qs ps all := by
 constructor
 ·intro h;unfold chkE chk at h
  split at h
  ·rename_i h1;rw [Bool.and_eq_true] at h1;have a := inr_iff.1 h1.1;have b := inr_iff.1 h1.2
   split at h
   ·rename_i h2;exact absurd h (hasE_ix h2).2.2
   ·rename_i h2
    split at h
    ·rename_i h3;exact absurd h (hasE_ix h3).2.2
    ·rename_i h3
     split at h
     ·rename_i h4;have hq := fun i (hi : i < qs.length) => qErr_ok (hasE_no (by simpa using h2) i (by omega) (by omega));have hp := fun i (hi : i < ps.length) => hasE_no (by simpa using h3) i (by omega) (by omega);refine ⟨by omega, by omega, by omega, by omega, fun i hi => (hq i hi).1, fun i hi => (hq i hi).2.1, fun i hi => (hq i hi).2.2.1, fun i hi => (hq i hi).2.2.2.1, fun i hi => (hq i hi).2.2.2.2, fun i hi => ?_, inr_iff.1 h4⟩;have := hp i hi;unfold pErr at this
      split at this
      ·rename_i h5; exact inr_iff.1 h5
      ·omega
     ·simp at h
  ·simp at h
 ·intro h;have h1 := h.n1;have h2 := h.n2;have h3 := h.p1;have h4 := h.p2;unfold chkE chk;rw [if_pos (by rw [Bool.and_eq_true]; exact ⟨inr_iff.2 (by omega), inr_iff.2 (by omega)⟩), if_neg, if_neg, if_pos (inr_iff.2 h.all_)]
  ·rw [hasE_of fun i _ hi => by unfold pErr; rw [if_pos (inr_iff.2 (h.need i (by omega)))]]; simp
  ·rw [hasE_of fun i _ hi => qErr_of (h.part i (by omega)) (h.boxes i (by omega)) (h.right i (by omega)) (h.pts i (by omega)) (h.minus i (by omega))]; simp
def rowE (qs sh : Dt) (i : Nat) : Int := if ((row sh i).length : Int) = qBoxes qs i then (if out 0 2 (row sh i) then 7 else 0) else 3
def shE (qs sh : Dt) : Int := if (sh.length : Int) = qs.length then (if hasE (rowE qs sh) 0 sh.length then rowE qs sh (idxE (rowE qs sh) 0 sh.length) else if 7 < (uns sh).length then 3 else 0) else 3
def askE (qs ps : Dt) (all : Int) (sh : Dt) : Int := if chkE qs ps all = 0 then shE qs sh else chkE qs ps all
theorem outs_ff {lo hi : Int} {xs : Dt} : ∀ {n i : Nat}, outs lo hi xs i n = false -> ∀ k, i <= k -> k < i + n -> lo <= (cel xs k 0).int /\ (cel xs k 0).int <= hi
 | 0, _, _, k, h1, h2 => by omega
 | n + 1, i, h, k, h1, h2 => by
  simp only [outs, Bool.or_eq_false_iff, Bool.not_eq_false'] at h;rcases Nat.eq_or_lt_of_le h1 with e | e
  ·rw [<- e]; exact inr_iff.1 h.1
  ·exact outs_ff h.2 k e (by omega)
theorem outs_of {lo hi : Int} {xs : Dt} : ∀ {n i : Nat}, (∀ k, i <= k -> k < i + n -> lo <= (cel xs k 0).int /\ (cel xs k 0).int <= hi) -> outs lo hi xs i n = false
 | 0, _, _ => rfl
 | n + 1, i, h => by
  simp only [outs, Bool.or_eq_false_iff, Bool.not_eq_false'];exact ⟨inr_iff.2 (h i (by omega) (by omega)), outs_of fun k h1 h2 => h k (by omega) (by omega)⟩
structure ShapeOk (qs sh : Dt) : Prop where
 n : sh.length = qs.length
 row_ : ∀ i, i < qs.length -> ((row sh i).length : Int) = qBoxes qs i
 val : ∀ i j, i < qs.length -> j < (row sh i).length -> 0 <= bx (row sh i) j /\ bx (row sh i) j <= 2
structure ShOk (qs sh : Dt) : Prop extends ShapeOk qs sh where
 seven : (uns sh).length <= 7
theorem rowE_ok {qs sh : Dt} {i : Nat} (h : rowE qs sh i = 0) : ((row sh i).length : Int) = qBoxes qs i /\ ∀ j, j < (row sh i).length -> 0 <= bx (row sh i) j /\ bx (row sh i) j <= 2 := by
 unfold rowE at h
 split at h
 ·rename_i h1
  split at h
  ·omega
  ·rename_i h2;exact ⟨h1, fun j hj => outs_ff (by simpa [out] using h2) j (by omega) (by omega)⟩
 ·omega
theorem shE_iff {qs sh : Dt} : shE qs sh = 0 ↔ ShOk qs sh := by
 unfold shE;constructor
 ·intro h
  split at h
  ·rename_i h1
   split at h
   ·rename_i h2; exact absurd h (hasE_ix h2).2.2
   ·rename_i h2
    split at h
    ·omega
    ·have hr := fun i (hi : i < sh.length) => rowE_ok (hasE_no (by simpa using h2) i (by omega) (by omega));exact ⟨⟨by omega, fun i hi => (hr i (by omega)).1, fun i j hi => (hr i (by omega)).2 j⟩, by omega⟩
  ·omega
 ·intro h;have h1 := h.n;have h2 := h.seven;rw [if_pos (by omega), if_neg, if_neg (by omega)];rw [hasE_of fun i _ hi => by
   unfold rowE;rw [if_pos (h.row_ i (by omega)), if_neg];unfold out;rw [outs_of fun k _ hk => h.val i k (by omega) (by omega)];simp]
  simp
theorem ShapeOk.few {qs ps sh : Dt} {all : Int} (hk : KeyOk qs ps all) (h : ShapeOk qs sh) : Few sh := by
 have h1 := h.n;have h2 := hk.n2;refine ⟨by omega, fun i hi => ?_⟩;have h3 := h.row_ i (by omega);have h4 := hk.boxes i (by omega);omega
end Sp
def Xep [InW] (e : List Ed) (K : Nat -> List Ed -> Prop) : Prop := match e with
 | [.ro _ sh, .i i, .i j] => Pre (0 <= i /\ i < sh.xs.length /\ 0 <= j /\ j <= (Sp.row sh.xs i.toNat).length) (Vif (Sp.outs 0 2 (Sp.row sh.xs i.toNat) j.toNat ((Sp.row sh.xs i.toNat).length - j.toNat)) (K 1 []) (K 0 [.ro _ sh, .i i]))
 | _ => False
def Xf7 : LC where
 len := 53
 T := [(1, .rs Jb), (5, .int .i64), (6, .int .i64)]
 H := []
 W := ([4] ++ rg 31 18)
 outs := [⟨.exit 2, [(1, .rs Jb), (5, .int .i64)], [], ([4, 6] ++ rg 31 18)⟩, ⟨.ret, [(4, (.lit (.int .i64 7)))], [], ([1, 5, 6] ++ rg 31 18)⟩]
 spec := Xep
def Xdv [W : InW] (sh : Ro Jb) (i j : Int) (A : List Ed -> Prop) (K : Nat -> List Ed -> Prop) : Prop :=
 Need (decide (0 <= i) && decide (i < (↑(sh.xs.length) : Int))) (Need (decide (i.toNat < sh.xs.length)) (Vif (decide (j < (↑(List.length (cel sh.xs i.toNat (0 : Nat)).lst) : Int))) (Need (decide (0 <= i) && decide (i < (↑(sh.xs.length) : Int))) (Need (decide (i.toNat < sh.xs.length)) (Need (decide (0 <= j) && decide (j < (↑(List.length (cel sh.xs i.toNat (0 : Nat)).lst) : Int))) (Need (decide (j.toNat < List.length (cel sh.xs i.toNat (0 : Nat)).lst)) (Pre True (Vif (!Sp.inr (cel (cel sh.xs i.toNat (0 : Nat)).lst j.toNat (0 : Nat)).int (0 : Int) (2 : Int)) (K (0+1) []) (Ar .i64 (j + 1) fun z => A [.ro [Ty.sl [Ty.int IntKind.i64]] sh, .i i, .i z]))))))) (K 0 [.ro [Ty.sl [Ty.int IntKind.i64]] sh, .i i])))
theorem Xj9 (W : InW) (sh i j A K) : Yfc { cxT Try.prog TT T2 1000 50 with fn := 50 } 1000 (Yn8 Try.prog 50 10) (Yd8 53 [(1, .rs _ sh), (5, .si .i64 i), (6, .si .i64 j)] ([4] ++ rg 31 18)) [] (Yug Xf7 A K) = Xdv sh i j A K := by kernel_rfl
def Xfj : Prop := ∀ (W : InW) (body a : Code), (Try.prog.funcs[50]?).bind (·.body) = some body -> a ∈ Y0 body -> Yfw a = 10 -> @Ymr W Try.prog a (@Yto W Xf7)
theorem Xln (meas : [InW] -> List Ed -> Nat) (hyp_ : ∀ (W : InW) sh i j K, Xep [.ro _ sh, .i i, .i j] K -> ∀ A : List Ed -> Prop, (∀ e, meas e < meas [.ro _ sh, .i i, .i j] -> Xep e K -> A e) -> Xdv sh i j A K) : Xfj :=
 LE.okOf' (fun W => @TT W) (fun W => @Xe W) Xa T2 1000 50 (by kernel_rfl) Xf7 (fun W => @meas W) fun W sh i j K hs =>
  (Xj9 W sh i j (fun e => meas e < meas [.ro _ sh, .i i, .i j] /\ Xep e K) K).mpr (hyp_ W sh i j K hs _ fun e h1 h2 => ⟨h1, h2⟩)
theorem Xnv : Xfj := Xln (fun e => match e with | [.ro _ sh, .i i, .i j] => (((Sp.row sh.xs i.toNat).length : Int) - j).toNat | _ => 0) fun W sh i j K hs A hA => by
 obtain ⟨⟨h0, h1, h2, h3⟩, hk⟩ := hs;have hm := sh.len;have hr := (sh.sub [.int .i64] i.toNat 0 (sh.ok i.toNat 0)).len;simp only [maxLen] at hm;have hr : (Sp.row sh.xs i.toNat).length <= 9223372036854775807 := hr;unfold Xdv;simp only [show (cel sh.xs i.toNat 0).lst = Sp.row sh.xs i.toNat from rfl];have ez : (j + 1).toNat = j.toNat + 1 := by omega
 have hlt : j < (Sp.row sh.xs i.toNat).length -> (((Sp.row sh.xs i.toNat).length : Int) - (j + 1)).toNat < (((Sp.row sh.xs i.toNat).length : Int) - j).toNat := by omega
 by_cases hj : j < (Sp.row sh.xs i.toNat).length
 ·rw [show (Sp.row sh.xs i.toNat).length - j.toNat = ((Sp.row sh.xs i.toNat).length - (j.toNat + 1)) + 1 by omega] at hk;simp only [Sp.outs] at hk
  by_cases c : Sp.inr (cel (Sp.row sh.xs i.toNat) j.toNat 0).int 0 2 = true
  ·simp only [c, Bool.not_true, Bool.false_or] at hk ⊢;have hA' := hA [.ro _ sh, .i i, .i (j + 1)] (hlt hj) ⟨⟨h0, h1, by omega, by omega⟩, by rw [ez]; exact hk⟩;clear hA hk
   repeat' (first | omega|intro _|with_reducible first|apply vifd|apply vifn|apply vifq|apply Xd|apply Xc|apply vifb|apply vif|apply nedd|apply ned2|apply ned|apply ar64|apply Xb|exact True.intro|assumption|rfl|apply And.intro)
   all_goals first | contradiction | exact hA'
  ·have c : Sp.inr (cel (Sp.row sh.xs i.toNat) j.toNat 0).int 0 2 = false := by simpa using c
   simp only [c, Bool.not_false, Bool.true_or] at hk ⊢;clear hA
   repeat' (first | omega|intro _|with_reducible first|apply vifd|apply vifn|apply vifq|apply Xd|apply Xc|apply vifb|apply vif|apply nedd|apply ned2|apply ned|apply ar64|apply Xb|exact True.intro|assumption|rfl|apply And.intro)
   all_goals first | contradiction | exact hk.1 rfl
 ·rw [show (Sp.row sh.xs i.toNat).length - j.toNat = 0 by omega] at hk;clear hA
  repeat' (first | omega|intro _|with_reducible first|apply vifd|apply vifn|apply vifq|apply Xd|apply Xc|apply vifb|apply vif|apply nedd|apply ned2|apply ned|apply ar64|apply Xb|exact True.intro|assumption|rfl|apply And.intro)
  all_goals exact hk.2 rfl
def Xon : LE Try.prog := ⟨50, 10, fun W => @Yto W Xf7, Xnv⟩
def T13 : Tab Try.prog := ⟨[Xit], [Xon], []⟩
def Xeo [InW] (e : List Ed) (K : Nat -> List Ed -> Prop) : Prop := match e with
 | [.ro _ sh, .i i, .ro _ qs, .ro _ ps, .i all] => Pre (0 <= i /\ i <= sh.xs.length /\ sh.xs.length = qs.xs.length) (Vif (Sp.hasE (Sp.rowE qs.xs sh.xs) i.toNat (sh.xs.length - i.toNat)) (K 1 [.i (Sp.rowE qs.xs sh.xs (Sp.idxE (Sp.rowE qs.xs sh.xs) i.toNat (sh.xs.length - i.toNat)))]) (K 0 [.ro _ sh]))
 | _ => False
def Xf6 : LC where
 len := 53
 T := [(1, .rs Jb), (2, (.ptr 1 0)), (5, .int .i64)]
 H := [(1, .blk 25 [.rs Iv5, .rs Jc, .int .i64])]
 W := ([4, 6] ++ rg 13 36)
 outs := [⟨.exit 0, [(1, .rs Jb)], [], ([2, 4, 5, 6] ++ rg 13 36)⟩, ⟨.ret, [(4, .int .i64)], [], ([1, 2, 5, 6] ++ rg 13 36)⟩]
 spec := Xeo
def Xdu [W : InW] (sh : Ro Jb) (i : Int) (qs : Ro Iv5) (ps : Ro Jc) (all : Int) (A : List Ed -> Prop) (K : Nat -> List Ed -> Prop) : Prop :=
 Vif (decide (i < (↑(sh.xs.length) : Int))) (Need (decide (0 <= i) && decide (i < (↑(sh.xs.length) : Int))) (Need (decide (i.toNat < sh.xs.length)) (Need (decide (0 <= i) && decide (i < (↑(qs.xs.length) : Int))) (Need (decide (i.toNat < qs.xs.length)) (Vif (!decide ((↑(List.length (cel sh.xs i.toNat (0 : Nat)).lst) : Int) = (cel qs.xs i.toNat (0+1)).int)) (K (0+1) [.i (3 : Int)]) (Pre (0 <= i /\ i < (↑(sh.xs.length) : Int) /\ Zb <= 0 /\ Zb <= (↑(List.length (Sp.row sh.xs i.toNat)) : Int)) (Vif (Sp.outs Zb (2 : Int) (Sp.row sh.xs i.toNat) (Int.toNat Zb) (List.length (Sp.row sh.xs i.toNat) - Int.toNat Zb)) (K (0+1) [.i (7 : Int)]) (Ar .i64 (i + 1) fun z => A [.ro [Ty.sl [Ty.int IntKind.i64]] sh, .i z, .ro _ qs, .ro _ ps, .i all])))))))) (K 0 [.ro [Ty.sl [Ty.int IntKind.i64]] sh])
theorem Xj8 (W : InW) (sh i qs ps all A K) : Yfc { cxT Try.prog TT T13 1000 50 with fn := 50 } 1000 (Yn8 Try.prog 50 5) (Yd8 53 [(1, .rs _ sh), (2, .ptr 1 0), (5, .si .i64 i)] ([4, 6] ++ rg 13 36)) [(1, .blk 25 [.rs _ qs, .rs _ ps, .si .i64 all])] (Yug Xf6 A K) = Xdu sh i qs ps all A K := by kernel_rfl
def Xfi : Prop := ∀ (W : InW) (body a : Code), (Try.prog.funcs[50]?).bind (·.body) = some body -> a ∈ Y0 body -> Yfw a = 5 -> @Ymr W Try.prog a (@Yto W Xf6)
theorem Xlm (meas : [InW] -> List Ed -> Nat) (hyp_ : ∀ (W : InW) sh i qs ps all K, Xeo [.ro _ sh, .i i, .ro _ qs, .ro _ ps, .i all] K -> ∀ A : List Ed -> Prop, (∀ e, meas e < meas [.ro _ sh, .i i, .ro _ qs, .ro _ ps, .i all] -> Xeo e K -> A e) -> Xdu sh i qs ps all A K) : Xfi :=
 LE.okOf' (fun W => @TT W) (fun W => @Xe W) Xa T13 1000 50 (by kernel_rfl) Xf6 (fun W => @meas W) fun W sh i qs ps all K hs =>
  (Xj8 W sh i qs ps all (fun e => meas e < meas [.ro _ sh, .i i, .ro _ qs, .ro _ ps, .i all] /\ Xeo e K) K).mpr (hyp_ W sh i qs ps all K hs _ fun e h1 h2 => ⟨h1, h2⟩)
theorem Xnu : Xfi := Xlm (fun e => match e with | [.ro _ sh, .i i, _, _, _] => ((sh.xs.length : Int) - i).toNat | _ => 0) fun W sh i qs ps all K hs A hA => by
 obtain ⟨⟨h0, h1, h2⟩, hk⟩ := hs;have hm := sh.len;simp only [maxLen] at hm;unfold Xdu;delta Zb;simp only [show Int.toNat 0 = 0 from rfl, Nat.sub_zero, show (cel sh.xs i.toNat 0).lst = Sp.row sh.xs i.toNat from rfl, Nat.zero_add];have ez : (i + 1).toNat = i.toNat + 1 := by omega
 by_cases hi : i < sh.xs.length
 ·rw [show sh.xs.length - i.toNat = (sh.xs.length - (i.toNat + 1)) + 1 by omega] at hk;obtain ⟨g1, g2⟩ := Xc3 (K1 := fun _ e => K 1 [.i e]) hk;have hA' : Sp.rowE qs.xs sh.xs i.toNat = 0 -> A [.ro _ sh, .i (i + 1), .ro _ qs, .ro _ ps, .i all] := fun f => hA _ (by show ((sh.xs.length : Int) - (i + 1)).toNat < ((sh.xs.length : Int) - i).toNat; omega) ⟨⟨by omega, by omega, h2⟩, by rw [ez]; exact g2 f⟩;clear hA hk g2;unfold Sp.rowE Sp.qBoxes Sp.out at hA' g1
  by_cases c : ((Sp.row sh.xs i.toNat).length : Int) = (cel qs.xs i.toNat 1).int
  ·rw [if_pos c] at hA' g1
   by_cases c2 : Sp.outs 0 2 (Sp.row sh.xs i.toNat) 0 (Sp.row sh.xs i.toNat).length = true
   ·rw [if_pos c2] at hA' g1;have g1 := g1 (by decide);simp only [c, c2]
    repeat' (first | omega|intro _|with_reducible first|apply vifd|apply vifn|apply vifq|apply Xd|apply Xc|apply vifb|apply vif|apply nedd|apply ned2|apply ned|apply ar64|apply Xb|exact True.intro|assumption|rfl|apply And.intro)
    all_goals first | contradiction | exact g1 | (simp at *; done) | skip
   ·rw [if_neg c2] at hA' g1;have c2 : Sp.outs 0 2 (Sp.row sh.xs i.toNat) 0 (Sp.row sh.xs i.toNat).length = false := by simpa using c2
    have hA' := hA' rfl;simp only [c, c2]
    repeat' (first | omega|intro _|with_reducible first|apply vifd|apply vifn|apply vifq|apply Xd|apply Xc|apply vifb|apply vif|apply nedd|apply ned2|apply ned|apply ar64|apply Xb|exact True.intro|assumption|rfl|apply And.intro)
    all_goals first | contradiction | exact hA' | (simp at *; done) | skip
  ·rw [if_neg c] at hA' g1;have g1 := g1 (by decide)
   repeat' (first | omega|intro _|with_reducible first|apply vifd|apply vifn|apply vifq|apply Xd|apply Xc|apply vifb|apply vif|apply nedd|apply ned2|apply ned|apply ar64|apply Xb|exact True.intro|assumption|rfl|apply And.intro)
   all_goals first | contradiction | exact g1 | skip
 ·rw [show sh.xs.length - i.toNat = 0 by omega] at hk;clear hA
  repeat' (first | omega|intro _|with_reducible first|apply vifd|apply vifn|apply vifq|apply Xd|apply Xc|apply vifb|apply vif|apply nedd|apply ned2|apply ned|apply ar64|apply Xb|exact True.intro|assumption|rfl|apply And.intro)
  all_goals exact hk.2 rfl
def Xom : LE Try.prog := ⟨50, 5, fun W => @Yto W Xf6, Xnu⟩
def T14 : Tab Try.prog := ⟨[Xm4], [Xom], []⟩
def Xcg [W : InW] (kQ : Ro Iv5) (kP : Ro Jc) (kA : Int) (sh : Ro Jb) (Q : DS -> Prop) : Prop :=
 Vif (!decide ((↑(sh.xs.length) : Int) = (↑(kQ.xs.length) : Int))) (Q [[Cl.i 3]]) (Pre (Zb <= 0 /\ Zb <= (↑(sh.xs.length) : Int) /\ sh.xs.length = kQ.xs.length) (Vif (Sp.hasE (Sp.rowE kQ.xs sh.xs) (Int.toNat Zb) (sh.xs.length - Int.toNat Zb)) (Q [[Cl.i (Sp.rowE kQ.xs sh.xs (Sp.idxE (Sp.rowE kQ.xs sh.xs) (Int.toNat Zb) (sh.xs.length - Int.toNat Zb)))]]) (Pre (Sp.Few sh.xs) (Vif (decide ((7 : Int) < (↑(List.length (Sp.uns sh.xs)) : Int))) (Q [[Cl.i 3]]) (Q [[Cl.i 0]])))))
theorem Xid (W : InW) (kQ kP kA sh Q) : Ywx (cxT Try.prog TT T14 1000 50) 1000 50 [.agg [.rs _ kQ, .rs _ kP, .si .i64 kA], .rs _ sh] [] 0 (Y04 [(false, [.int .i64])] Q) (fun _ _ _ _ => Stuck 421) = Xcg kQ kP kA sh Q := by kernel_rfl
abbrev Xbm : List AT := [.agg [.sl Iv5, .sl Jc, .int .i64], .one (.sl Jb)]
theorem Xi9 {pre : DS -> Prop} {res : DS -> DS} (hyp_ : ∀ (W : InW) (kQ : Ro Iv5) (kP : Ro Jc) (kA : Int) (sh : Ro Jb), pre [[.l kQ.xs, .l kP.xs, .i kA], [.l sh.xs]] -> ∀ Q : DS -> Prop, Q (res [[.l kQ.xs, .l kP.xs, .i kA], [.l sh.xs]]) -> Xcg kQ kP kA sh Q) : PureOk Try.prog 50 Xbm [(false, [.int .i64])] pre res :=
 PureOk.of' (fun W => @TT W) (fun W => @Xe W) Xa T14 1000 50 fun W kQ kP kA sh hp =>
  (Xid W kQ kP kA sh (fun o => o = res [[.l kQ.xs, .l kP.xs, .i kA], [.l sh.xs]])).mpr (hyp_ W kQ kP kA sh hp _ rfl)
abbrev Xbb (ds : DS) : DS := match ds with | [[.l qs, .l ps, .i all], [.l sh]] => [[.i (Sp.shE qs sh)]] | _ => []
abbrev Xg3 (ds : DS) : Prop := match ds with | [.l qs, .l ps, .i all] :: _ => Sp.KeyOk qs ps all | _ => False
theorem Xle : PureOk Try.prog 50 Xbm [(false, [.int .i64])] Xg3 Xbb :=
 Xi9 fun W qs ps all sh hp Q h => by
  have hp : Sp.KeyOk qs.xs ps.xs all := hp;unfold Xcg;delta Zb;simp only [show Int.toNat 0 = 0 from rfl, Nat.sub_zero];simp only [Xbb, Sp.shE] at h;refine vifn (fun e => ?_) fun e => ?_
  ·rw [if_neg e] at h; exact h
  ·rw [if_pos e] at h;refine ⟨⟨by omega, by omega, by omega⟩, vif (fun e1 => ?_) fun e1 => ?_⟩
   ·rw [if_pos e1] at h; exact h
   ·rw [if_neg (by simp [e1])] at h;have hf : Sp.Few sh.xs := Sp.ShapeOk.few hp ⟨by omega, fun i hi => (Sp.rowE_ok (Sp.hasE_no e1 i (by omega) (by omega))).1, fun i j hi => (Sp.rowE_ok (Sp.hasE_no e1 i (by omega) (by omega))).2 j⟩;refine ⟨hf, vifd (fun e2 => ?_) fun e2 => ?_⟩
    ·rw [if_pos (by omega)] at h; exact h
    ·rw [if_neg (by omega)] at h; exact h
def Xir : PC Try.prog := ⟨50, Xbm, [(false, [.int .i64])], Xg3, Xbb, Xle⟩
namespace Sp
def ptsQ (qs sh : Dt) (i : Nat) : Int := ptsV (qRight qs i) (qPts qs i) (qMin qs i) (row sh i)
def addG (qs sh : Dt) : Nat -> Nat -> Dt -> Dt
 | _, 0, l => l
 | i, n + 1, l => addG qs sh (i + 1) n (l.set (qPart qs i).toNat [.i (num l (qPart qs i).toNat + ptsQ qs sh i)])
def mk (qs ps sh : Dt) : Dt := addG qs sh 0 sh.length (List.replicate ps.length [.i 0])
def partsOk (l ps : Dt) : Nat -> Nat -> Bool := allF fun p => decide (num ps p <= num l p)
def passOf (all : Int) (ps l : Dt) : Bool := decide (all <= total l) && partsOk l ps 0 l.length
theorem num_set {l : Dt} {p : Nat} {v : Int} (hp : p < l.length) (q : Nat) : num (l.set p [.i v]) q = if p = q then v else num l q := by
 unfold num cel
 by_cases e : p = q
 ·subst e; simp [List.getD_eq_getElem?_getD, List.getElem?_set_self hp]
 ·simp [List.getD_eq_getElem?_getD, List.getElem?_set_ne e, e]
theorem addG_len (qs sh : Dt) : ∀ n i l, (addG qs sh i n l).length = l.length
 | 0, _, _ => rfl
 | n + 1, i, l => by simp [addG, addG_len qs sh n]
theorem num_rep (n p : Nat) : num (List.replicate n [.i 0]) p = 0 := by
 unfold num cel;simp only [List.getD_eq_getElem?_getD, List.getElem?_replicate]
 by_cases e : p < n
 ·rw [if_pos e]; rfl
 ·rw [if_neg e]; rfl
end Sp
theorem mk_len (qs ps sh : Dt) : (Sp.mk qs ps sh).length = ps.length := by unfold Sp.mk; rw [Sp.addG_len, List.length_replicate]
attribute [local irreducible] Go.Oper.wp
end Go.Proofs.Ytifhdbgciehicaa
namespace Go.Proofs.Ytifhdbgciehicaa
open Go.RowKit
set_option maxRecDepth 100000
set_option maxHeartbeats 4000000
namespace Sp
def withR (sh : Dt) (q j : Nat) (v : Int) : Nat -> Nat -> Dt
 | _, 0 => []
 | i, n + 1 => [.l (if i = q then (row sh i).set j [.i v] else row sh i)] :: withR sh q j v (i + 1) n
def withD (sh : Dt) (q j : Nat) (v : Int) : Dt := withR sh q j v 0 sh.length
end Sp
namespace Sp
def prow (d : Dt) (i : Nat) : Nat -> Nat -> List (Nat × Nat)
 | _, 0 => []
 | j, n + 1 => (if bx d j = 2 then [(i, j)] else []) ++ prow d i (j + 1) n
def pall (sh : Dt) : Nat -> Nat -> List (Nat × Nat)
 | _, 0 => []
 | i, n + 1 => prow (row sh i) i 0 (row sh i).length ++ pall sh (i + 1) n
def pos (sh : Dt) : List (Nat × Nat) := pall sh 0 sh.length
def prC (p : Nat × Nat) : List Cl := [.i p.1, .i p.2]
theorem unsRow_pos (d : Dt) (i : Nat) : ∀ n j, unsRow d i j n = (prow d i j n).map prC
 | 0, _ => rfl
 | n + 1, j => by
  simp only [unsRow, prow, List.map_append, unsRow_pos d i n]
  split <;> rfl
theorem unsAll_pos (sh : Dt) : ∀ n i, unsAll sh i n = (pall sh i n).map prC
 | 0, _ => rfl
 | n + 1, i => by simp only [unsAll, pall, List.map_append, unsAll_pos sh n, unsRow_pos]
theorem uns_pos (sh : Dt) : uns sh = (pos sh).map prC := unsAll_pos sh _ _
theorem uns_len (sh : Dt) : (uns sh).length = (pos sh).length := by rw [uns_pos, List.length_map]
theorem mem_prow {d : Dt} {i : Nat} {p : Nat × Nat} : ∀ {n j : Nat}, p ∈ prow d i j n ↔ p.1 = i /\ j <= p.2 /\ p.2 < j + n /\ bx d p.2 = 2
 | 0, j => by simp [prow]; omega
 | n + 1, j => by
  simp only [prow, List.mem_append, mem_prow (n := n)]
  by_cases e : bx d j = 2
  ·simp only [e, if_true, List.mem_singleton];constructor
   ·rintro (h | ⟨h1, h2, h3, h4⟩)
    ·subst h; exact ⟨rfl, Nat.le_refl _, by show j < _; omega, e⟩
    ·exact ⟨h1, by omega, by omega, h4⟩
   ·rintro ⟨h1, h2, h3, h4⟩;rcases Nat.eq_or_lt_of_le h2 with c | c
    ·exact .inl (Prod.ext h1 c.symm)
    ·exact .inr ⟨h1, by omega, by omega, h4⟩
  ·simp only [e, if_false, List.not_mem_nil, false_or];constructor
   ·rintro ⟨h1, h2, h3, h4⟩;exact ⟨h1, by omega, by omega, h4⟩
   ·rintro ⟨h1, h2, h3, h4⟩;rcases Nat.eq_or_lt_of_le h2 with c | c
    ·exact absurd (c ▸ h4) e
    ·exact ⟨h1, by omega, by omega, h4⟩
theorem mem_pall {sh : Dt} {p : Nat × Nat} : ∀ {n i : Nat}, p ∈ pall sh i n ↔ i <= p.1 /\ p.1 < i + n /\ p.2 < (row sh p.1).length /\ bx (row sh p.1) p.2 = 2
 | 0, i => by simp [pall]; omega
 | n + 1, i => by
  simp only [pall, List.mem_append, mem_pall (n := n), mem_prow];constructor
  ·rintro (⟨h1, h2, h3, h4⟩ | ⟨h1, h2, h3, h4⟩)
   ·subst h1; exact ⟨Nat.le_refl _, by omega, by omega, h4⟩
   ·exact ⟨by omega, by omega, h3, h4⟩
  ·rintro ⟨h1, h2, h3, h4⟩;rcases Nat.eq_or_lt_of_le h1 with c | c
   ·left; rw [c]; exact ⟨rfl, by omega, by omega, h4⟩
   ·right; exact ⟨by omega, by omega, h3, h4⟩
theorem mem_pos {sh : Dt} {p : Nat × Nat} : p ∈ pos sh ↔ p.1 < sh.length /\ p.2 < (row sh p.1).length /\ bx (row sh p.1) p.2 = 2 := by
 unfold pos; rw [mem_pall]; constructor
 ·rintro ⟨_, h2, h3⟩; exact ⟨by omega, h3⟩
 ·rintro ⟨h2, h3⟩; exact ⟨Nat.zero_le _, by omega, h3⟩
theorem prow_nd (d : Dt) (i : Nat) : ∀ n j, (prow d i j n).Nodup
 | 0, _ => List.nodup_nil
 | n + 1, j => by
  simp only [prow]
  split
  ·refine List.nodup_cons.2 ⟨fun h => ?_, prow_nd d i n (j + 1)⟩;have := (mem_prow.1 h).2.1;simp at this; omega
  ·exact prow_nd d i n (j + 1)
theorem pall_nd (sh : Dt) : ∀ n i, (pall sh i n).Nodup
 | 0, _ => List.nodup_nil
 | n + 1, i => by
  simp only [pall];refine List.nodup_append.2 ⟨prow_nd _ _ _ _, pall_nd sh n (i + 1), fun a ha b hb e => ?_⟩;subst e;have h1 := (mem_prow.1 ha).1;have h2 := (mem_pall.1 hb).1;omega
theorem pos_nd (sh : Dt) : (pos sh).Nodup := pall_nd _ _ _
theorem withR_len (sh : Dt) (q j : Nat) (v : Int) : ∀ n i, (withR sh q j v i n).length = n
 | 0, _ => rfl
 | n + 1, i => by simp [withR, withR_len sh q j v n]
theorem withD_len (sh : Dt) (q j : Nat) (v : Int) : (withD sh q j v).length = sh.length := withR_len _ _ _ _ _ _
theorem row_cons0 (a : Dt) (l : Dt) : row ([.l a] :: l) 0 = a := rfl
theorem row_consS (a : List Cl) (l : Dt) (k : Nat) : row (a :: l) (k + 1) = row l k := rfl
theorem withR_row (sh : Dt) (q j : Nat) (v : Int) : ∀ n i k, k < n -> row (withR sh q j v i n) k = if i + k = q then (row sh (i + k)).set j [.i v] else row sh (i + k)
 | 0, _, _, h => by omega
 | n + 1, i, 0, _ => by simp only [withR, row_cons0, Nat.add_zero]
 | n + 1, i, k + 1, h => by
  simp only [withR, row_consS];rw [withR_row sh q j v n (i + 1) k (by omega), show i + 1 + k = i + (k + 1) by omega]
theorem row_out {sh : Dt} {k : Nat} (h : sh.length <= k) : row sh k = [] := by
 unfold row cel;rw [List.getD_eq_getElem?_getD (l := sh), List.getElem?_eq_none h]; rfl
theorem withD_row (sh : Dt) (q j : Nat) (v : Int) (k : Nat) (hk : k < sh.length) : row (withD sh q j v) k = if k = q then (row sh k).set j [.i v] else row sh k := by
 unfold withD; rw [withR_row _ _ _ _ _ _ _ hk]; simp
theorem withD_rlen (sh : Dt) (q j : Nat) (v : Int) (k : Nat) : (row (withD sh q j v) k).length = (row sh k).length := by
 rcases Nat.lt_or_ge k sh.length with h | h
 ·rw [withD_row _ _ _ _ _ h]; split <;> simp
 ·rw [row_out h, row_out (by rw [withD_len]; exact h)]
theorem bx_set (d : Dt) (j k : Nat) (v : Int) (h : k < d.length) : bx (d.set j [.i v]) k = if k = j then v else bx d k := by
 unfold bx cel;rw [List.getD_eq_getElem?_getD (l := d.set j [.i v]), List.getElem?_set]
 by_cases e : j = k
 ·subst e; simp [h, Cl.int]
 ·simp [e, Ne.symm e]
theorem withD_bx (sh : Dt) (q j : Nat) (v : Int) (k b : Nat) (hk : k < sh.length) (hb : b < (row sh k).length) : bx (row (withD sh q j v) k) b = if (k, b) = (q, j) then v else bx (row sh k) b := by
 rw [withD_row _ _ _ _ _ hk]
 by_cases e : k = q
 ·subst e; rw [if_pos rfl, bx_set _ _ _ _ hb]; simp
 ·rw [if_neg e, if_neg (by simp [e])]
theorem prow_f {d d' : Dt} {i : Nat} {p : Nat × Nat} (h : ∀ j, j < d.length -> (bx d' j = 2 ↔ bx d j = 2 /\ (i, j) ≠ p)) : ∀ n j, j + n <= d.length -> prow d' i j n = (prow d i j n).filter (fun x => decide (x ≠ p))
 | 0, _, _ => rfl
 | n + 1, j, hj => by
  simp only [prow, List.filter_append, prow_f h n (j + 1) (by omega)];have := h j (by omega)
  by_cases e : bx d j = 2
  ·by_cases e2 : (i, j) = p
   ·rw [if_neg (fun c => (this.1 c).2 e2)]; simp [e, e2]
   ·rw [if_pos (this.2 ⟨e, e2⟩)]; simp [e, e2]
  ·rw [if_neg (fun c => e (this.1 c).1)]; simp [e]
theorem pos_with {sh : Dt} {q j : Nat} {v : Int} (hv : v ≠ 2) : pos (withD sh q j v) = (pos sh).filter (fun x => decide (x ≠ (q, j))) := by
 unfold pos;rw [withD_len]
 suffices h : ∀ n i, i + n <= sh.length -> pall (withD sh q j v) i n = (pall sh i n).filter (fun x => decide (x ≠ (q, j))) from h _ _ (by omega)
 intro n
 induction n with
 | zero => intro i _; rfl
 | succ n ih =>
  intro i hi;simp only [pall, List.filter_append, ih (i + 1) (by omega), withD_rlen];rw [prow_f (d := row sh i) (p := (q, j)) (fun b hb => ?_) _ _ (by omega)];rw [withD_bx _ _ _ _ _ _ (by omega) hb]
  by_cases e : (i, b) = (q, j)
  ·rw [if_pos e]; simp [e, hv]
  ·rw [if_neg e]; simp [e]
theorem filter_ne_tl {p : Nat × Nat} : ∀ {l : List (Nat × Nat)}, p ∉ l -> l.filter (fun x => decide (x ≠ p)) = l
 | [], _ => rfl
 | a :: l, h => by
  have h1 : a ≠ p := fun e => h (e ▸ List.mem_cons_self);have h2 : p ∉ l := fun e => h (List.mem_cons_of_mem _ e);simp [h1];intro a b c d;exact h2 (d ▸ c)
theorem filter_ne_len {p : Nat × Nat} : ∀ {l : List (Nat × Nat)}, l.Nodup -> p ∈ l -> (l.filter (fun x => decide (x ≠ p))).length + 1 = l.length
 | [], _, h => by simp at h
 | a :: l, hn, h => by
  have hn := List.nodup_cons.1 hn
  by_cases e : a = p
  ·subst e;rw [List.filter_cons_of_neg (by simp), filter_ne_tl hn.1, List.length_cons]
  ·rw [List.filter_cons_of_pos (by simpa using e), List.length_cons, filter_ne_len hn.2 ((List.mem_cons.1 h).resolve_left fun c => e c.symm), List.length_cons]
theorem pos_with_len {sh : Dt} {q j : Nat} {v : Int} (hv : v ≠ 2) (h : (q, j) ∈ pos sh) : (pos (withD sh q j v)).length + 1 = (pos sh).length := by
 rw [pos_with hv, filter_ne_len (pos_nd sh) h]
theorem pos_with_tl {sh : Dt} {p : Nat × Nat} {ps : List (Nat × Nat)} {v : Int} (hv : v ≠ 2) (h : pos sh = p :: ps) : pos (withD sh p.1 p.2 v) = ps := by
 have hn := pos_nd sh;rw [h] at hn;rw [pos_with hv, h, List.filter_cons_of_neg (by simp), filter_ne_tl (List.nodup_cons.1 hn).1]
theorem Few.withD {sh : Dt} (h : Few sh) (q j : Nat) (v : Int) : Few (withD sh q j v) := by
 refine ⟨by rw [withD_len]; exact h.1, fun i hi => ?_⟩;rw [withD_rlen];rw [withD_len] at hi;exact h.2 i hi
theorem ShapeOk.withD {qs sh : Dt} (h : ShapeOk qs sh) {q j : Nat} {v : Int} (hv : 0 <= v /\ v <= 2) : ShapeOk qs (withD sh q j v) := by
 have hl := h.n;refine ⟨by rw [withD_len]; exact hl, fun i hi => by rw [withD_rlen]; exact h.row_ i hi, fun i b hi hb => ?_⟩;rw [withD_rlen] at hb;rw [withD_bx _ _ _ _ _ _ (by omega) hb]
 split
 ·exact hv
 ·exact h.val i b hi hb
def rdL : Nat -> Dt -> List Dt
 | 0, sh => [sh]
 | n + 1, sh => match pos sh with
  | [] => [sh]
  | p :: _ => rdL n (withD sh p.1 p.2 0) ++ rdL n (withD sh p.1 p.2 1)
def rds (sh : Dt) : List Dt := rdL (pos sh).length sh
def shC (sh : Dt) : List Cl := [.l sh]
def rdD (sh : Dt) : Dt := (rds sh).map shC
theorem rds_nil {sh : Dt} (h : pos sh = []) : rds sh = [sh] := by unfold rds; rw [h]; rfl
theorem rds_cons {sh : Dt} {p : Nat × Nat} {ps : List (Nat × Nat)} (h : pos sh = p :: ps) : rds sh = rds (withD sh p.1 p.2 0) ++ rds (withD sh p.1 p.2 1) := by
 unfold rds;rw [pos_with_tl (by decide) h, pos_with_tl (by decide) h, h];simp only [List.length_cons, rdL, h]
theorem rdL_len : ∀ n sh, (pos sh).length = n -> (rdL n sh).length = 2 ^ n
 | 0, _, _ => rfl
 | n + 1, sh, h => by
  obtain ⟨p, ps, e⟩ : ∃ p ps, pos sh = p :: ps := by
   cases hp : pos sh with
   | nil => rw [hp] at h; simp at h
   | cons p ps => exact ⟨p, ps, rfl⟩
  rw [e] at h;simp only [rdL, e];rw [List.length_append, rdL_len n _ (by rw [pos_with_tl (by decide) e]; simpa using h), rdL_len n _ (by rw [pos_with_tl (by decide) e]; simpa using h), Nat.pow_succ];omega
theorem rds_len (sh : Dt) : (rds sh).length = 2 ^ (pos sh).length := rdL_len _ sh rfl
theorem rds_ind {P : Dt -> Prop} {sh : Dt} (h0 : P sh) (hs : ∀ s q j v, P s -> (q, j) ∈ pos s -> v = 0 \/ v = 1 -> P (withD s q j v)) : ∀ r ∈ rds sh, P r := by
 suffices h : ∀ n s, (pos s).length = n -> P s -> ∀ r ∈ rds s, P r from h _ sh rfl h0
 intro n
 induction n with
 | zero =>
  intro s hl hp r hr;rw [rds_nil (List.length_eq_zero_iff.1 hl), List.mem_singleton] at hr;exact hr ▸ hp
 | succ n ih =>
  intro s hl hp r hr;cases e : pos s with
  | nil => rw [e] at hl; simp at hl
  | cons p ps =>
   rw [rds_cons e, List.mem_append] at hr;have hm : (p.1, p.2) ∈ pos s := by rw [e]; exact List.mem_cons_self
   rw [e] at hl;rcases hr with hr | hr
   ·exact ih _ (by rw [pos_with_tl (by decide) e]; simpa using hl) (hs _ _ _ _ hp hm (.inl rfl)) r hr
   ·exact ih _ (by rw [pos_with_tl (by decide) e]; simpa using hl) (hs _ _ _ _ hp hm (.inr rfl)) r hr
theorem rds_sure {sh : Dt} : ∀ r ∈ rds sh, pos r = [] := by
 suffices h : ∀ n s, (pos s).length = n -> ∀ r ∈ rds s, pos r = [] from h _ sh rfl
 intro n
 induction n with
 | zero =>
  intro s hl r hr;have hl := List.length_eq_zero_iff.1 hl;rw [rds_nil hl, List.mem_singleton] at hr;rw [hr]; exact hl
 | succ n ih =>
  intro s hl r hr;cases e : pos s with
  | nil => rw [e] at hl; simp at hl
  | cons p ps =>
   rw [rds_cons e, List.mem_append] at hr;rw [e] at hl;rcases hr with hr | hr
   ·exact ih _ (by rw [pos_with_tl (by decide) e]; simpa using hl) r hr
   ·exact ih _ (by rw [pos_with_tl (by decide) e]; simpa using hl) r hr
theorem rds_shape {sh : Dt} : ∀ r ∈ rds sh, r.length = sh.length /\ ∀ i, (row r i).length = (row sh i).length :=
 rds_ind (P := fun r => r.length = sh.length /\ ∀ i, (row r i).length = (row sh i).length) ⟨rfl, fun _ => rfl⟩ fun s q j v h _ _ => ⟨by rw [withD_len]; exact h.1, fun i => by rw [withD_rlen]; exact h.2 i⟩
end Sp
set_option maxHeartbeats 1600000
namespace Sp
def psS (qs ps : Dt) (all : Int) (sh : Dt) : Bool := passOf all ps (mk qs ps sh)
def psI (qs ps : Dt) (all : Int) (rs : Dt) (i : Nat) : Bool := psS qs ps all (row rs i)
def anyP (qs ps : Dt) (all : Int) (rs : Dt) : Bool := anyF (psI qs ps all rs) 0 rs.length
def allP (qs ps : Dt) (all : Int) (rs : Dt) : Bool := allF (psI qs ps all rs) 0 rs.length
theorem rdD_len (sh : Dt) : (rdD sh).length = 2 ^ (pos sh).length := by unfold rdD; rw [List.length_map, rds_len]
theorem rdD_row {sh : Dt} {k : Nat} (h : k < (rdD sh).length) : ∃ h2 : k < (rds sh).length, row (rdD sh) k = (rds sh)[k] := by
 have h2 : k < (rds sh).length := by unfold rdD at h; simpa using h
 refine ⟨h2, ?_⟩;unfold row cel rdD;rw [List.getD_eq_getElem?_getD (l := (rds sh).map shC), List.getElem?_map, List.getElem?_eq_getElem h2];rfl
def ocV (qs ps : Dt) (all : Int) (sh : Dt) : Int := if allP qs ps all (rdD sh) = true then 1 else if anyP qs ps all (rdD sh) = true then 2 else 0
end Sp
namespace Sp
def ocA (qs ps : Dt) (all : Int) (sh : Dt) : Int := if askE qs ps all sh = 0 then ocV qs ps all sh else 0
theorem askE_ok {qs ps sh : Dt} {all : Int} (h : askE qs ps all sh = 0) : KeyOk qs ps all /\ ShOk qs sh := by
 unfold askE at h
 split at h
 ·rename_i e; exact ⟨chkE_iff.1 e, shE_iff.1 h⟩
 ·rename_i e; exact absurd h e
end Sp
abbrev Xc9 (ds : DS) : DS := match ds with | [[.l qs, .l ps, .i all], [.l sh]] => [[.i (Sp.ocA qs ps all sh)], [.i (Sp.askE qs ps all sh)]] | _ => []
namespace Sp
def geI (l : Dt) (x : Int) (k : Nat) : Bool := !decide (num l k < x)
def whr (l : Dt) (x : Int) : Nat := fstF (geI l x) 0 l.length
def ins (l : Dt) (x : Int) : Dt := if whr l x = l.length \/ num l (whr l x) ≠ x then l.take (whr l x) ++ [[.i x]] ++ l.drop (whr l x) else l
def insA (f : Nat -> Int) : Nat -> Nat -> Dt -> Dt
 | _, 0, l => l
 | i, n + 1, l => insA f (i + 1) n (ins l (f i))
def ttl (qs ps rs : Dt) (i : Nat) : Int := total (mk qs ps (row rs i))
def scV (qs ps sh : Dt) : Dt := insA (ttl qs ps (rdD sh)) 0 (rdD sh).length []
theorem fstF_le {f : Nat -> Bool} : ∀ n i, fstF f i n <= i + n
 | 0, i => Nat.le_refl _
 | n + 1, i => by
  unfold fstF
  split
  ·omega
  ·have := fstF_le (f := f) n (i + 1); omega
theorem whr_le (l : Dt) (x : Int) : whr l x <= l.length := by have := fstF_le (f := geI l x) l.length 0; unfold whr; omega
end Sp
namespace Sp
def scA (qs ps : Dt) (all : Int) (sh : Dt) : Dt := if askE qs ps all sh = 0 then scV qs ps sh else []
end Sp
abbrev Xc7 (ds : DS) : DS := match ds with | [[.l qs, .l ps, .i all], [.l sh]] => [[.l (Sp.scA qs ps all sh)], [.i (Sp.askE qs ps all sh)]] | _ => []
namespace Sp
def dcI (qs ps : Dt) (all : Int) (rs : Dt) (a b : Nat) (k : Nat) : Bool := !(psS qs ps all (row rs k) == psS qs ps all (withD (row rs k) a b 1))
def dcV (qs ps : Dt) (all : Int) (sh : Dt) (a b : Nat) : Bool := anyF (dcI qs ps all (rdD (withD sh a b 0)) a b) 0 (rdD (withD sh a b 0)).length
def dcL (qs ps : Dt) (all : Int) (sh u : Dt) : Nat -> Nat -> Dt
 | _, 0 => []
 | i, n + 1 => (if dcV qs ps all sh (cel u i 0).int.toNat (cel u i 1).int.toNat = true then [[.i (cel u i 0).int, .i (cel u i 1).int]] else []) ++ dcL qs ps all sh u (i + 1) n
structure BxOk (sh u : Dt) : Prop where
 few : u.length <= 7
 in_ : ∀ i, i < u.length -> 0 <= (cel u i 0).int /\ (cel u i 0).int < sh.length /\ 0 <= (cel u i 1).int /\ (cel u i 1).int < (row sh (cel u i 0).int.toNat).length
theorem uns_cel {sh : Dt} {i : Nat} (h : i < (uns sh).length) : ∃ p ∈ pos sh, (cel (uns sh) i 0).int = p.1 /\ (cel (uns sh) i 1).int = p.2 := by
 have h2 : i < (pos sh).length := by rw [<- uns_len]; exact h
 refine ⟨(pos sh)[i], List.getElem_mem h2, ?_, ?_⟩
 ·rw [uns_pos]; unfold cel; rw [List.getD_eq_getElem?_getD (l := (pos sh).map prC), List.getElem?_map, List.getElem?_eq_getElem h2]; rfl
 ·rw [uns_pos]; unfold cel; rw [List.getD_eq_getElem?_getD (l := (pos sh).map prC), List.getElem?_map, List.getElem?_eq_getElem h2]; rfl
theorem ShOk.bx {qs sh : Dt} (h : ShOk qs sh) : BxOk sh (uns sh) := by
 refine ⟨h.seven, fun i hi => ?_⟩;obtain ⟨p, hp, e1, e2⟩ := uns_cel hi;have := mem_pos.1 hp;rw [e1, e2, Int.toNat_natCast];omega
end Sp
namespace Sp
def dcA (qs ps : Dt) (all : Int) (sh : Dt) : Dt := if askE qs ps all sh = 0 then dcL qs ps all sh (uns sh) 0 (uns sh).length else []
end Sp
abbrev Xdc (ds : DS) : DS := match ds with | [[.l qs, .l ps, .i all], [.l sh]] => [[.l (Sp.dcA qs ps all sh)], [.i (Sp.askE qs ps all sh)]] | _ => []
namespace Sp
structure LkR where
 n : Int
 a : Int
 b : Int
def cA (u : Dt) (i : Nat) : Int := (cel u i 0).int
def cB (u : Dt) (i : Nat) : Int := (cel u i 1).int
def lkF (c : Nat -> Int) (u : Dt) : Nat -> Nat -> LkR -> LkR
 | _, 0, r => r
 | i, n + 1, r => lkF c u (i + 1) n (if r.n < 0 \/ c i < r.n then ⟨c i, cA u i, cB u i⟩ else r)
def lkN (qs ps : Dt) (all : Int) : Nat -> Dt -> LkR
 | 0, sh => ⟨0, 0, 0⟩
 | n + 1, sh => if ocV qs ps all sh = 2 then lkF (fun i => 1 + max (lkN qs ps all n (withD sh (cA (uns sh) i).toNat (cB (uns sh) i).toNat 0)).n (lkN qs ps all n (withD sh (cA (uns sh) i).toNat (cB (uns sh) i).toNat 1)).n) (uns sh) 0 (uns sh).length ⟨-1, 0, 0⟩ else ⟨0, 0, 0⟩
theorem lkF_in {c : Nat -> Int} {u : Dt} {m : Int} : ∀ n i r, (-1 <= r.n /\ r.n <= m) -> (∀ k, i <= k -> k < i + n -> -1 <= c k /\ c k <= m) -> -1 <= (lkF c u i n r).n /\ (lkF c u i n r).n <= m
 | 0, _, _, h, _ => h
 | n + 1, i, r, h, hc => by
  simp only [lkF];refine lkF_in n (i + 1) _ ?_ fun k a b => hc k (by omega) (by omega)
  split
  ·exact hc i (by omega) (by omega)
  ·exact h
theorem lkN_in (qs ps : Dt) (all : Int) : ∀ n sh, -1 <= (lkN qs ps all n sh).n /\ (lkN qs ps all n sh).n <= n
 | 0, sh => by simp [lkN]
 | n + 1, sh => by
  unfold lkN
  split
  ·refine lkF_in _ _ _ (by simp; omega) fun k _ _ => ?_;have h0 := lkN_in qs ps all n (withD sh (cA (uns sh) k).toNat (cB (uns sh) k).toNat 0);have h1 := lkN_in qs ps all n (withD sh (cA (uns sh) k).toNat (cB (uns sh) k).toNat 1);omega
  ·simp; omega
theorem ShOk.withD {qs sh : Dt} (h : ShOk qs sh) {q j : Nat} {v : Int} (hv : v = 0 \/ v = 1) : ShOk qs (withD sh q j v) := by
 refine ⟨h.toShapeOk.withD (by omega), ?_⟩;have := h.seven;rw [uns_len] at this ⊢;rw [pos_with (by omega)];exact Nat.le_trans (List.length_filter_le _ _) this
end Sp
namespace Sp
def lookE (qs ps : Dt) (all : Int) (sh : Dt) : Int := if askE qs ps all sh = 0 then (if ocV qs ps all sh = 2 then 0 else 4) else askE qs ps all sh
def lookR (qs ps : Dt) (all : Int) (sh : Dt) : LkR := if lookE qs ps all sh = 0 then lkN qs ps all 8 sh else ⟨0, 0, 0⟩
end Sp
abbrev Xb0 (ds : DS) : DS := match ds with | [[.l qs, .l ps, .i all], [.l sh]] => [[.i (Sp.lookR qs ps all sh).a, .i (Sp.lookR qs ps all sh).b], [.i (Sp.lookR qs ps all sh).n], [.i (Sp.lookE qs ps all sh)]] | _ => []
namespace Sp
def markE (qs ps : Dt) (all : Int) (sh : Dt) : Int := if askE qs ps all sh = 0 then (if (uns sh).length = 0 then 0 else 2) else askE qs ps all sh
def markR (qs ps : Dt) (all : Int) (sh : Dt) : Dt := if markE qs ps all sh = 0 then mk qs ps sh else []
def markB (qs ps : Dt) (all : Int) (sh : Dt) : Bool := if markE qs ps all sh = 0 then psS qs ps all sh else false
end Sp
abbrev Xda (ds : DS) : DS := match ds with | [[.l qs, .l ps, .i all], [.l sh]] => [[.l (Sp.markR qs ps all sh)], [.b (Sp.markB qs ps all sh)], [.i (Sp.markE qs ps all sh)]] | _ => []
namespace Sp
def strA (qs : Dt) (all : Int) (i : Nat) : Int := all - qPts qs i
def strP (qs ps : Dt) (i : Nat) : Dt := ps.set (qPart qs i).toNat [.i (num ps (qPart qs i).toNat - qPts qs i)]
def strQ (qs : Dt) (i : Nat) : Dt := qs.take i ++ qs.drop (i + 1)
def strE (qs ps : Dt) (all i : Int) : Int := if chkE qs ps all = 0 then (if inr i 0 (qs.length - 1) = true then (if qs.length = 1 then 3 else if inr (strA qs all i.toNat) (-240) 240 = true then (if inr (num (strP qs ps i.toNat) (qPart qs i.toNat).toNat) (-240) 240 = true then 0 else 7) else 7) else 4) else chkE qs ps all
def strK (qs ps : Dt) (all i : Int) : List Cl := if strE qs ps all i = 0 then [.l (strQ qs i.toNat), .l (strP qs ps i.toNat), .i (strA qs all i.toNat)] else [.l [], .l [], .i 0]
end Sp
abbrev Xe6 : RTs := [(true, [.row 71 Iv5, .row 3 Jc, .int .i64]), (false, [.int .i64])]
abbrev Xc6 (ds : DS) : DS := match ds with | [[.l qs, .l ps, .i all], [.i i]] => [Sp.strK qs ps all i, [.i (Sp.strE qs ps all i)]] | _ => []
namespace Sp
def mis1 (right : Int) (rs : Dt) (k : Nat) : Bool := !decide (ansOf (row (row rs k) 0) = right)
def one (b : Dt) : Dt := [[.l b]]
def mAny (right : Int) (b : Dt) : Bool := anyF (mis1 right (rdD (one b))) 0 (rdD (one b)).length
def mAll (right : Int) (b : Dt) : Bool := allF (mis1 right (rdD (one b))) 0 (rdD (one b)).length
end Sp
namespace Sp
def errL (f : Nat -> Int) : Nat -> Nat -> Int -> Int
 | _, 0, e => e
 | i, n + 1, e => if e = 0 then errL f (i + 1) n (f i) else e
theorem errL_ne {f : Nat -> Int} {e : Int} (h : e ≠ 0) : ∀ n i, errL f i n e = e
 | 0, _ => rfl
 | n + 1, i => by unfold errL; rw [if_neg h]
theorem errL_0 {f : Nat -> Int} : ∀ n i e, errL f i n e = 0 -> e = 0 /\ ∀ k, i <= k -> k < i + n -> f k = 0
 | 0, i, e, h => ⟨h, fun k a b => by omega⟩
 | n + 1, i, e, h => by
  unfold errL at h
  by_cases c : e = 0
  ·rw [if_pos c] at h;have := errL_0 n (i + 1) _ h;refine ⟨c, fun k a b => ?_⟩;rcases Nat.eq_or_lt_of_le a with d | d
   ·exact d ▸ this.1
   ·exact this.2 k (by omega) (by omega)
  ·rw [if_neg c] at h; exact absurd h c
def shI (qs pp : Dt) (i : Nat) : Int := shE qs (row pp i)
end Sp
namespace Sp
def mAdd (qs sh l : Dt) (j : Nat) : Dt := l.set j [.i ((cel l j 0).int + if mAll (qRight qs j) (row sh j) = true then 1 else 0), .i ((cel l j 1).int + if mAny (qRight qs j) (row sh j) = true then 1 else 0)]
def addQ (qs sh : Dt) : Nat -> Nat -> Dt -> Dt
 | _, 0, l => l
 | j, n + 1, l => addQ qs sh (j + 1) n (mAdd qs sh l j)
def addP (qs pp : Dt) : Nat -> Nat -> Dt -> Dt
 | _, 0, l => l
 | i, n + 1, l => addP qs pp (i + 1) n (addQ qs (row pp i) 0 l.length l)
structure CntAt (l : Dt) (m : Int) (q : Int) : Prop where
 ok : ∀ j : Nat, j < l.length -> ∃ x y : Int, l.getD j [] = [.i x, .i y] /\ 0 <= x /\ x <= (if (j : Int) < q then m + 1 else m) /\ 0 <= y /\ y <= (if (j : Int) < q then m + 1 else m)
theorem set_getD {l : Dt} {j : Nat} {c : List Cl} (h : j < l.length) : (l.set j c).getD j [] = c := by
 rw [List.getD_eq_getElem?_getD, List.getElem?_set_self h]; rfl
theorem set_getN {l : Dt} {j k : Nat} {c : List Cl} (h : j ≠ k) : (l.set j c).getD k [] = l.getD k [] := by
 rw [List.getD_eq_getElem?_getD, List.getElem?_set_ne h, <- List.getD_eq_getElem?_getD]
theorem cel_set {l : Dt} {j k : Nat} {c : List Cl} (h : j < l.length) : cel (l.set j c) j k = c.getD k .z := by
 unfold cel; rw [set_getD h]
theorem CntAt.next {l : Dt} {m : Int} {j : Nat} (h : CntAt l m j) (hj : j < l.length) {x y dx dy : Int} (e : l.getD j [] = [.i x, .i y]) (hx : dx = 0 \/ dx = 1) (hy : dy = 0 \/ dy = 1) : CntAt (l.set j [.i (x + dx), .i (y + dy)]) m (j + 1 : Int) := by
 refine ⟨fun k hk => ?_⟩;rw [List.length_set] at hk;obtain ⟨a, b, h1, h2, h3, h4, h5⟩ := h.ok k hk
 by_cases c : j = k
 ·subst c;rw [e] at h1;injection h1 with h6 h7
  injection h6 with h6
  injection h7 with h7 _
  injection h7 with h7
  subst h6; subst h7;refine ⟨x + dx, y + dy, set_getD hj, ?_⟩;rw [if_neg (by omega)] at h3 h5;rw [if_pos (by omega)];omega
 ·refine ⟨a, b, by rw [set_getN c]; exact h1, h2, ?_, h4, ?_⟩
  ·split at h3 <;> split <;> omega
  ·split at h5 <;> split <;> omega
end Sp
namespace Sp
theorem addQ_len (qs sh : Dt) : ∀ n j l, (addQ qs sh j n l).length = l.length
 | 0, _, _ => rfl
 | n + 1, j, l => by simp [addQ, addQ_len qs sh n, mAdd]
theorem CntAt.go {qs sh : Dt} {m : Int} : ∀ n j l, CntAt l m (j : Nat) -> j + n = l.length -> CntAt (addQ qs sh j n l) m (l.length : Nat)
 | 0, j, l, h, e => by rw [<- e]; exact h
 | n + 1, j, l, h, e => by
  obtain ⟨x, y, hg, _⟩ := h.ok j (by omega);have c0 : cel l j 0 = .i x := by unfold cel; rw [hg]; rfl
  have c1 : cel l j 1 = .i y := by unfold cel; rw [hg]; rfl
  have := CntAt.go (qs := qs) (sh := sh) n (j + 1) (mAdd qs sh l j) (by
   unfold mAdd;rw [c0, c1];exact h.next (by omega) hg (by split <;> simp) (by split <;> simp)) (by unfold mAdd; rw [List.length_set]; omega)
  rw [show (mAdd qs sh l j).length = l.length by unfold mAdd; rw [List.length_set]] at this;exact this
theorem CntAt.up {l : Dt} {m : Int} (h : CntAt l m (l.length : Nat)) : CntAt l (m + 1) 0 := ⟨fun j hj => by
 obtain ⟨x, y, hg, h1, h2, h3, h4⟩ := h.ok j hj;rw [if_pos (by omega)] at h2 h4;exact ⟨x, y, hg, h1, by rw [if_neg (by omega)]; exact h2, h3, by rw [if_neg (by omega)]; exact h4⟩⟩
end Sp
namespace Sp
def misE (qs ps : Dt) (all : Int) (pp : Dt) : Int := errL (shI qs pp) 0 pp.length (if chkE qs ps all = 0 then (if 20 < pp.length then 3 else 0) else chkE qs ps all)
def misV (qs ps : Dt) (all : Int) (pp : Dt) : Dt := if misE qs ps all pp = 0 then addP qs pp 0 pp.length (List.replicate qs.length [.i 0, .i 0]) else []
theorem misE_ok {qs ps pp : Dt} {all : Int} (h : misE qs ps all pp = 0) : KeyOk qs ps all /\ pp.length <= 20 /\ ∀ i, i < pp.length -> ShOk qs (row pp i) := by
 obtain ⟨h1, h2⟩ := errL_0 _ _ _ h
 split at h1
 ·rename_i e
  split at h1
  ·omega
  ·exact ⟨chkE_iff.1 e, by omega, fun i hi => shE_iff.1 (h2 i (by omega) (by omega))⟩
 ·rename_i e; exact absurd h1 e
end Sp
abbrev Xdb (ds : DS) : DS := match ds with | [[.l qs, .l ps, .i all], [.l pp]] => [[.l (Sp.misV qs ps all pp)], [.i (Sp.misE qs ps all pp)]] | _ => []
namespace Sp
def eqI (xs : Dt) (x : Int) (k : Nat) : Bool := decide (x = num xs k)
def idxOf (xs : Dt) (x : Int) : Int := if anyF (eqI xs x) 0 xs.length = true then (fstF (eqI xs x) 0 xs.length : Nat) else -1
end Sp
def Xim [InW] (e : List Ed) (K : Nat -> List Ed -> Prop) : Prop := match e with
 | [.ro _ xs, .i x, .i n, .i i] => Pre (n = xs.xs.length /\ 0 <= i /\ i <= n) (Vif (Sp.anyF (Sp.eqI xs.xs x) i.toNat (xs.xs.length - i.toNat)) (K 1 [.i ((Sp.fstF (Sp.eqI xs.xs x) i.toNat (xs.xs.length - i.toNat) : Nat) : Int)]) (K 0 []))
 | _ => False
def Xjm : LC where
 len := 19
 T := [(0, .rs Jc), (1, .int .i64), (7, .int .i64), (8, .int .i64)]
 H := []
 W := ([4, 5] ++ rg 9 10)
 outs := [⟨.exit 0, [], [], ([0, 1, 4, 5] ++ rg 7 12)⟩, ⟨.ret, [(4, .int .i64)], [], ([0, 1, 5] ++ rg 7 12)⟩]
 spec := Xim
def Xh2 [W : InW] (xs : Ro Jc) (x n i : Int) (A : List Ed -> Prop) (K : Nat -> List Ed -> Prop) : Prop :=
 Vif (decide (i < n)) (Need (decide (0 <= i) && decide (i < (↑(xs.xs.length) : Int))) (Need (decide (i.toNat < xs.xs.length)) (Vif (decide (x = (cel xs.xs i.toNat (0 : Nat)).int)) (K (0+1) [.i i]) (Ar .i64 (i + 1) fun z => A [.ro _ xs, .i x, .i n, .i z])))) (K 0 [])
theorem Xm0 (W : InW) (xs x n i A K) : Yfc { cxT Try.prog TT T0 1000 50 with fn := 86 } 1000 (Yn8 Try.prog 86 3) (Yd8 19 [(0, .rs _ xs), (1, .si .i64 x), (7, .si .i64 n), (8, .si .i64 i)] ([4, 5] ++ rg 9 10)) [] (Yug Xjm A K) = Xh2 xs x n i A K := by kernel_rfl
def Xhh : Prop := ∀ (W : InW) (body a : Code), (Try.prog.funcs[86]?).bind (·.body) = some body -> a ∈ Y0 body -> Yfw a = 3 -> @Ymr W Try.prog a (@Yto W Xjm)
theorem Xni (meas : [InW] -> List Ed -> Nat) (hyp_ : ∀ (W : InW) xs x n i K, Xim [.ro _ xs, .i x, .i n, .i i] K -> ∀ A : List Ed -> Prop, (∀ e, meas e < meas [.ro _ xs, .i x, .i n, .i i] -> Xim e K -> A e) -> Xh2 xs x n i A K) : Xhh :=
 LE.okOf' (fun W => @TT W) (fun W => @Xe W) Xa T0 1000 50 (by kernel_rfl) Xjm (fun W => @meas W) fun W xs x n i K hs =>
  (Xm0 W xs x n i (fun e => meas e < meas [.ro _ xs, .i x, .i n, .i i] /\ Xim e K) K).mpr (hyp_ W xs x n i K hs _ fun e h1 h2 => ⟨h1, h2⟩)
theorem okLix : Xhh := Xni (fun e => match e with | [_, _, .i n, .i i] => (n - i).toNat | _ => 0) fun W xs x n i K hs A hA => by
 obtain ⟨⟨rfl, h0, h1⟩, hk⟩ := hs;unfold Xh2;have hm := xs.len;simp only [maxLen] at hm;have ez : (i + 1).toNat = i.toNat + 1 := by omega
 have ei : ((i.toNat : Nat) : Int) = i := Int.toNat_of_nonneg h0
 by_cases hi : i < xs.xs.length
 ·rw [show xs.xs.length - i.toNat = (xs.xs.length - (i.toNat + 1)) + 1 by omega] at hk;simp only [Sp.anyF, Sp.fstF] at hk;simp only [show ∀ k, (cel xs.xs k 0).int = Sp.num xs.xs k from fun _ => rfl]
  by_cases c : x = Sp.num xs.xs i.toNat
  ·have c2 : Sp.eqI xs.xs x i.toNat = true := decide_eq_true c;rw [c2, Bool.true_or, if_pos rfl, ei] at hk;have hk := hk.1 rfl;clear hA
   repeat' (first | omega|intro _|with_reducible first|apply vifd|apply vifn|apply vifq|apply Xd|apply Xc|apply vifb|apply vif|apply nedd|apply ned2|apply ned|apply ar64|apply Xb|exact True.intro|assumption|rfl|apply And.intro)
   all_goals first | contradiction | exact hk | skip
  ·have c2 : Sp.eqI xs.xs x i.toNat = false := decide_eq_false c;rw [c2, Bool.false_or, if_neg (by decide)] at hk;have hA' := hA [.ro _ xs, .i x, .i xs.xs.length, .i (i + 1)] (show ((xs.xs.length : Int) - (i + 1)).toNat < ((xs.xs.length : Int) - i).toNat by omega) ⟨⟨rfl, by omega, by omega⟩, by rw [ez]; exact hk⟩;clear hA hk
   repeat' (first | omega|intro _|with_reducible first|apply vifd|apply vifn|apply vifq|apply Xd|apply Xc|apply vifb|apply vif|apply nedd|apply ned2|apply ned|apply ar64|apply Xb|exact True.intro|assumption|rfl|apply And.intro)
   all_goals first | contradiction | exact hA' | skip
 ·rw [show xs.xs.length - i.toNat = 0 by omega] at hk;clear hA
  repeat' (first | omega|intro _|with_reducible first|apply vifd|apply vifn|apply vifq|apply Xd|apply Xc|apply vifb|apply vif|apply nedd|apply ned2|apply ned|apply ar64|apply Xb|exact True.intro|assumption|rfl|apply And.intro)
  all_goals exact hk.2 rfl
def le_ix : LE Try.prog := ⟨86, 3, fun W => @Yto W Xjm, okLix⟩
def T40 : Tab Try.prog := ⟨[], [le_ix], []⟩
def Xmu [W : InW] (xs : Ro Jc) (x : Int) (Q : DS -> Prop) : Prop :=
 Pre ((↑(xs.xs.length) : Int) = (↑(xs.xs.length) : Int) /\ Zb <= 0 /\ Zb <= (↑(xs.xs.length) : Int)) (Vif (Sp.anyF (Sp.eqI xs.xs x) (Int.toNat Zb) (xs.xs.length - Int.toNat Zb)) (Q [[Cl.i (↑(Sp.fstF (Sp.eqI xs.xs x) (Int.toNat Zb) (xs.xs.length - Int.toNat Zb)) : Int)]]) (Q [[Cl.i (-1 : Int)]]))
theorem vc_ix (W : InW) (xs x Q) : Ywx (cxT Try.prog TT T40 1000 50) 1000 86 [.rs _ xs, .si .i64 x] [] 0 (Y04 [(false, [.int .i64])] Q) (fun _ _ _ _ => Stuck 421) = Xmu xs x Q := by kernel_rfl
abbrev Xhs : List AT := [.one (.sl Jc), .one (.int .i64)]
theorem ok_ix {pre : DS -> Prop} {res : DS -> DS} (hyp_ : ∀ (W : InW) (xs : Ro Jc) (x : Int), pre [[.l xs.xs], [.i x]] -> ∀ Q : DS -> Prop, Q (res [[.l xs.xs], [.i x]]) -> Xmu xs x Q) : PureOk Try.prog 86 Xhs [(false, [.int .i64])] pre res :=
 PureOk.of' (fun W => @TT W) (fun W => @Xe W) Xa T40 1000 50 fun W xs x hp =>
  (vc_ix W xs x (fun o => o = res [[.l xs.xs], [.i x]])).mpr (hyp_ W xs x hp _ rfl)
abbrev Xg0 (ds : DS) : DS := match ds with | [[.l xs], [.i x]] => [[.i (Sp.idxOf xs x)]] | _ => []
theorem okix : PureOk Try.prog 86 Xhs [(false, [.int .i64])] (fun _ => True) Xg0 :=
 ok_ix fun W xs x hp Q h => by
  unfold Xmu;delta Zb;simp only [Xg0, Sp.idxOf] at h;simp only [show Int.toNat 0 = 0 from rfl, Nat.sub_zero];refine ⟨⟨trivial, by omega, by omega⟩, vif (fun e => ?_) fun e => ?_⟩
  ·rw [if_pos e] at h; exact h
  ·rw [if_neg (by simp [e])] at h; exact h
def Xm6 : PC Try.prog := ⟨86, Xhs, [(false, [.int .i64])], fun _ => True, Xg0, okix⟩
def T41 : Tab Try.prog := ⟨[Xm6], [], []⟩
def Xmv [W : InW] (xs : Ro Jc) (x : Int) (Q : DS -> Prop) : Prop :=
 Pre True (Q [[Cl.b (decide ((0 : Int) <= Sp.idxOf xs.xs x))]])
theorem vc_cn (W : InW) (xs x Q) : Ywx (cxT Try.prog TT T41 1000 50) 1000 87 [.rs _ xs, .si .i64 x] [] 0 (Y04 [(false, [.bool])] Q) (fun _ _ _ _ => Stuck 421) = Xmv xs x Q := by kernel_rfl
abbrev Xhu : List AT := [.one (.sl Jc), .one (.int .i64)]
theorem ok_cn {pre : DS -> Prop} {res : DS -> DS} (hyp_ : ∀ (W : InW) (xs : Ro Jc) (x : Int), pre [[.l xs.xs], [.i x]] -> ∀ Q : DS -> Prop, Q (res [[.l xs.xs], [.i x]]) -> Xmv xs x Q) : PureOk Try.prog 87 Xhu [(false, [.bool])] pre res :=
 PureOk.of' (fun W => @TT W) (fun W => @Xe W) Xa T41 1000 50 fun W xs x hp =>
  (vc_cn W xs x (fun o => o = res [[.l xs.xs], [.i x]])).mpr (hyp_ W xs x hp _ rfl)
abbrev Xjx (ds : DS) : DS := match ds with | [[.l xs], [.i x]] => [[.b (decide (0 <= Sp.idxOf xs x))]] | _ => []
theorem okcn : PureOk Try.prog 87 Xhu [(false, [.bool])] (fun _ => True) Xjx :=
 ok_cn fun W xs x hp Q h => by
  unfold Xmv;exact ⟨trivial, h⟩
def pc_cn : PC Try.prog := ⟨87, Xhu, [(false, [.bool])], fun _ => True, Xjx, okcn⟩
def Xij [InW] (e : List Ed) (K : Nat -> List Ed -> Prop) : Prop := match e with
 | [.i a, .ro _ d, .i n, .i i] => Pre (n = d.xs.length /\ 0 <= i /\ i <= d.xs.length /\ Sp.Low d.xs /\ -1000 * i <= a /\ a <= 1000 * i) (K 0 [.i (Sp.sumF (Sp.num d.xs) i.toNat (d.xs.length - i.toNat) a)])
 | _ => False
def Xjj : LC where
 len := 16
 T := [(2, .int .i64), (5, .rs Jc), (6, .int .i64), (7, .int .i64)]
 H := []
 W := ([4] ++ rg 8 7)
 outs := [⟨.exit 0, [(2, .int .i64)], [], (rg 4 11)⟩]
 spec := Xij
def Xhz [W : InW] (a : Int) (d : Ro Jc) (n i : Int) (A : List Ed -> Prop) (K : Nat -> List Ed -> Prop) : Prop :=
 Vif (decide (i < n)) (Need (decide (0 <= i) && decide (i < (↑(d.xs.length) : Int))) (Need (decide (i.toNat < d.xs.length)) (Ar .i64 (a + (cel d.xs i.toNat (0 : Nat)).int) fun z => Ar .i64 (i + 1) fun z_1 => A [.i z, .ro _ d, .i n, .i z_1]))) (K 0 [.i a])
theorem Xmx (W : InW) (a d n i A K) : Yfc { cxT Try.prog TT T0 1000 50 with fn := 63 } 1000 (Yn8 Try.prog 63 3) (Yd8 16 [(2, .si .i64 a), (5, .rs _ d), (6, .si .i64 n), (7, .si .i64 i)] ([4] ++ rg 8 7)) [] (Yug Xjj A K) = Xhz a d n i A K := by kernel_rfl
def Xhe : Prop := ∀ (W : InW) (body a : Code), (Try.prog.funcs[63]?).bind (·.body) = some body -> a ∈ Y0 body -> Yfw a = 3 -> @Ymr W Try.prog a (@Yto W Xjj)
theorem Xnf (meas : [InW] -> List Ed -> Nat) (hyp_ : ∀ (W : InW) a d n i K, Xij [.i a, .ro _ d, .i n, .i i] K -> ∀ A : List Ed -> Prop, (∀ e, meas e < meas [.i a, .ro _ d, .i n, .i i] -> Xij e K -> A e) -> Xhz a d n i A K) : Xhe :=
 LE.okOf' (fun W => @TT W) (fun W => @Xe W) Xa T0 1000 50 (by kernel_rfl) Xjj (fun W => @meas W) fun W a d n i K hs =>
  (Xmx W a d n i (fun e => meas e < meas [.i a, .ro _ d, .i n, .i i] /\ Xij e K) K).mpr (hyp_ W a d n i K hs _ fun e h1 h2 => ⟨h1, h2⟩)
theorem okLsu : Xhe := Xnf (fun e => match e with | [_, _, .i n, .i i] => (n - i).toNat | _ => 0) fun W a d n i K hs A hA => by
 obtain ⟨⟨rfl, h0, h1, hl, h2, h3⟩, hk⟩ := hs;unfold Xhz;have hm := d.len;have hl1 := hl.1;simp only [maxLen] at hm;have ez : (i + 1).toNat = i.toNat + 1 := by omega
 by_cases hi : i < d.xs.length
 ·rw [show d.xs.length - i.toNat = (d.xs.length - (i.toNat + 1)) + 1 by omega] at hk;simp only [Sp.sumF] at hk;have hv := hl.2 i.toNat (by omega);have hA' := hA [.i (a + Sp.num d.xs i.toNat), .ro _ d, .i d.xs.length, .i (i + 1)] (show ((d.xs.length : Int) - (i + 1)).toNat < ((d.xs.length : Int) - i).toNat by omega) ⟨⟨rfl, by omega, by omega, hl, by omega, by omega⟩, by rw [ez]; exact hk⟩;clear hA hk;simp only [show ∀ k, (cel d.xs k 0).int = Sp.num d.xs k from fun _ => rfl]
  repeat' (first | omega|intro _|with_reducible first|apply vifd|apply vifn|apply vifq|apply Xd|apply Xc|apply vifb|apply vif|apply nedd|apply ned2|apply ned|apply ar64|apply Xb|exact True.intro|assumption|rfl|apply And.intro)
  all_goals first | contradiction | exact hA' | skip
 ·rw [show d.xs.length - i.toNat = 0 by omega] at hk;simp only [Sp.sumF] at hk;clear hA
  repeat' (first | omega|intro _|with_reducible first|apply vifd|apply vifn|apply vifq|apply Xd|apply Xc|apply vifb|apply vif|apply nedd|apply ned2|apply ned|apply ar64|apply Xb|exact True.intro|assumption|rfl|apply And.intro)
  all_goals exact hk
def le_su : LE Try.prog := ⟨63, 3, fun W => @Yto W Xjj, okLsu⟩
def T42 : Tab Try.prog := ⟨[], [le_su], []⟩
def Xmt [W : InW] (d : Ro Jc) (Q : DS -> Prop) : Prop :=
 Pre ((↑(d.xs.length) : Int) = (↑(d.xs.length) : Int) /\ (0 : Int) <= 0 /\ (0 : Int) <= (↑(d.xs.length) : Int) /\ Sp.Low d.xs /\ (-1000 : Int) * 0 <= 0 /\ (0 : Int) <= 1000 * 0) (Q [[Cl.i (Sp.sumF (Sp.num d.xs) (Int.toNat (0 : Int)) (d.xs.length - Int.toNat (0 : Int)) (0 : Int))]])
theorem vc_su (W : InW) (d Q) : Ywx (cxT Try.prog TT T42 1000 50) 1000 63 [.rs _ d] [] 0 (Y04 [(false, [.int .i64])] Q) (fun _ _ _ _ => Stuck 421) = Xmt d Q := by kernel_rfl
abbrev Xhr : List AT := [.one (.sl Jc)]
theorem ok_su {pre : DS -> Prop} {res : DS -> DS} (hyp_ : ∀ (W : InW) (d : Ro Jc), pre [[.l d.xs]] -> ∀ Q : DS -> Prop, Q (res [[.l d.xs]]) -> Xmt d Q) : PureOk Try.prog 63 Xhr [(false, [.int .i64])] pre res :=
 PureOk.of' (fun W => @TT W) (fun W => @Xe W) Xa T42 1000 50 fun W d hp =>
  (vc_su W d (fun o => o = res [[.l d.xs]])).mpr (hyp_ W d hp _ rfl)
theorem oksu : PureOk Try.prog 63 Xhr [(false, [.int .i64])] Xg2 Xgz :=
 ok_su fun W d hp Q h => by
  have hp : Sp.Low d.xs := hp;unfold Xmt;simp only [show Int.toNat 0 = 0 from rfl, Nat.sub_zero];exact ⟨⟨trivial, by omega, by omega, hp, by omega, by omega⟩, h⟩
def Xm5 : PC Try.prog := ⟨63, Xhr, [(false, [.int .i64])], Xg2, Xgz, oksu⟩
def Xdl [W : InW] (a b : Bool) (Q : DS -> Prop) : Prop :=
 Vif b (Q [[Cl.i 1]]) (Vif a (Q [[Cl.i 2]]) (Q [[Cl.i 0]]))
theorem Xk2 (W : InW) (a b Q) : Ywx (cxT Try.prog TT T0 1000 50) 1000 59 [.sb a, .sb b] [] 0 (Y04 [(false, [.int .i64])] Q) (fun _ _ _ _ => Stuck 421) = Xdl a b Q := by kernel_rfl
abbrev Xcb : List AT := [.one (.bool), .one (.bool)]
theorem Xmh {pre : DS -> Prop} {res : DS -> DS} (hyp_ : ∀ (W : InW) (a b : Bool), pre [[.b a], [.b b]] -> ∀ Q : DS -> Prop, Q (res [[.b a], [.b b]]) -> Xdl a b Q) : PureOk Try.prog 59 Xcb [(false, [.int .i64])] pre res :=
 PureOk.of' (fun W => @TT W) (fun W => @Xe W) Xa T0 1000 50 fun W a b hp =>
  (Xk2 W a b (fun o => o = res [[.b a], [.b b]])).mpr (hyp_ W a b hp _ rfl)
namespace Sp
def ocB (a b : Bool) : Int := if b = true then 1 else if a = true then 2 else 0
end Sp
abbrev Xe8 (ds : DS) : DS := match ds with | [[.b a], [.b b]] => [[.i (Sp.ocB a b)]] | _ => []
theorem Xnd : PureOk Try.prog 59 Xcb [(false, [.int .i64])] (fun _ => True) Xe8 :=
 Xmh fun W a b hp Q h => by
  unfold Xdl;cases a <;> cases b <;> (repeat' (first | omega|intro _|with_reducible first|apply vifd|apply vifn|apply vifq|apply Xd|apply Xc|apply vifb|apply vif|apply nedd|apply ned2|apply ned|apply ar64|apply Xb|exact True.intro|assumption|rfl|apply And.intro)) <;> first | exact h | contradiction | skip
def Xg7 : PC Try.prog := ⟨59, Xcb, [(false, [.int .i64])], fun _ => True, Xe8, Xnd⟩
namespace Sp
def bitV (b : Int) (i : Int) : Int := andI .i64 (b.fdiv (2 ^ min i.toNat 64)) 1
def ansW (u : Dt) (q b : Int) : Nat -> Nat -> Dt -> Dt
 | _, 0, l => l
 | i, n + 1, l => ansW u q b (i + 1) n (if cA u i = q then l.set (cB u i).toNat [.i (bitV b i)] else l)
structure UqOk (u : Dt) (q : Int) (l : Nat) : Prop where
 few : u.length <= 64
 low : l <= 1000
 in_ : ∀ i, i < u.length -> cA u i = q -> 0 <= cB u i /\ cB u i < l
end Sp
def Xin [InW] (e : List Ed) (K : Nat -> List Ed -> Prop) : Prop := match e with
 | [.i q, .i b, .i n, .i i, .ro _ qs, .ro _ ps, .i all, .ro _ sh, .l u, .l l] => Pre (n = u.length /\ 0 <= i /\ i <= u.length /\ 0 <= b /\ Sp.UqOk u q l.length) (K 0 [.i q, .i b, .ro _ qs, .ro _ ps, .i all, .ro _ sh, .l u, .l (Sp.ansW u q b i.toNat (u.length - i.toNat) l)])
 | _ => False
def Xjn : LC where
 len := 64
 T := [(0, (.ptr 1 0)), (1, .int .i64), (2, .int .i64), (7, (.row 3)), (32, (.row 4)), (33, .int .i64), (34, .int .i64)]
 H := [(1, .blk 89 [.rs Iv5, .rs Jc, .int .i64, .rs Jb, (.row 4)]), (4, .arr 44 Ja), (3, .arr 3 Jc)]
 W := ([8, 9] ++ rg 35 17)
 outs := [⟨.exit 0, [(0, (.ptr 1 0)), (1, .int .i64), (2, .int .i64), (7, (.row 6))], [(1, .blk 89 [.rs Iv5, .rs Jc, .int .i64, .rs Jb, (.row 4)]), (4, .arr 44 Ja), (6, .arr 3 Jc)], ([8, 9] ++ rg 32 20)⟩]
 spec := Xin
def Xh3 [W : InW] (q b n i : Int) (qs : Ro Iv5) (ps : Ro Jc) (all : Int) (sh : Ro Jb) (u l : Dt) (A : List Ed -> Prop) (K : Nat -> List Ed -> Prop) : Prop :=
 Vif (decide (i < n)) (Need (decide (0 <= i) && decide (i < (↑(u.length) : Int))) (Need (decide (i.toNat < u.length)) (Vif (decide ((cel u i.toNat (0 : Nat)).int = q)) (Need (decide (0 <= i)) (Need (decide ((0 : Int) <= (cel u i.toNat (0+1)).int) && decide ((cel u i.toNat (0+1)).int < (↑(l.length) : Int))) (Need (decide ((cel u i.toNat (0+1)).int.toNat < l.length)) (Ar .i64 (i + 1) fun z => A [.i q, .i b, .i n, .i z, .ro _ qs, .ro _ ps, .i all, .ro [Ty.sl [Ty.int IntKind.i64]] sh, .l u, .l (List.set l (cel u i.toNat (0+1)).int.toNat [Cl.i (andI IntKind.i64 (b.fdiv ((2 : Int) ^ min i.toNat (64 : Nat))) (1 : Int))])])))) (Ar .i64 (i + 1) fun z => A [.i q, .i b, .i n, .i z, .ro _ qs, .ro _ ps, .i all, .ro [Ty.sl [Ty.int IntKind.i64]] sh, .l u, .l l])))) (K 0 [.i q, .i b, .ro _ qs, .ro _ ps, .i all, .ro [Ty.sl [Ty.int IntKind.i64]] sh, .l u, .l l])
theorem Xm1 (W : InW) (q b n i qs ps all sh u l A K) : Yfc { cxT Try.prog TT T0 1000 50 with fn := 78 } 1000 (Yn8 Try.prog 78 5) (Yd8 64 [(0, .ptr 1 0), (1, .si .i64 q), (2, .si .i64 b), (7, .rw 3), (32, .rw 4), (33, .si .i64 n), (34, .si .i64 i)] ([8, 9] ++ rg 35 17)) [(1, .blk 89 [.rs _ qs, .rs _ ps, .si .i64 all, .rs _ sh, .rw 4]), (4, .arr 44 Ja u), (3, .arr 3 Jc l)] (Yug Xjn A K) = Xh3 q b n i qs ps all sh u l A K := by kernel_rfl
def Xhi : Prop := ∀ (W : InW) (body a : Code), (Try.prog.funcs[78]?).bind (·.body) = some body -> a ∈ Y0 body -> Yfw a = 5 -> @Ymr W Try.prog a (@Yto W Xjn)
theorem Xnj (meas : [InW] -> List Ed -> Nat) (hyp_ : ∀ (W : InW) q b n i qs ps all sh u l K, Xin [.i q, .i b, .i n, .i i, .ro _ qs, .ro _ ps, .i all, .ro _ sh, .l u, .l l] K -> ∀ A : List Ed -> Prop, (∀ e, meas e < meas [.i q, .i b, .i n, .i i, .ro _ qs, .ro _ ps, .i all, .ro _ sh, .l u, .l l] -> Xin e K -> A e) -> Xh3 q b n i qs ps all sh u l A K) : Xhi :=
 LE.okOf' (fun W => @TT W) (fun W => @Xe W) Xa T0 1000 50 (by kernel_rfl) Xjn (fun W => @meas W) fun W q b n i qs ps all sh u l K hs =>
  (Xm1 W q b n i qs ps all sh u l (fun e => meas e < meas [.i q, .i b, .i n, .i i, .ro _ qs, .ro _ ps, .i all, .ro _ sh, .l u, .l l] /\ Xin e K) K).mpr (hyp_ W q b n i qs ps all sh u l K hs _ fun e h1 h2 => ⟨h1, h2⟩)
theorem okLan : Xhi := Xnj (fun e => match e with | [_, _, .i n, .i i, _, _, _, _, _, _] => (n - i).toNat | _ => 0) fun W q b n i qs ps all sh u l K hs A hA => by
 obtain ⟨⟨rfl, h0, h1, hb, hu⟩, hk⟩ := hs;have h64 := hu.few;unfold Xh3;simp only [Nat.zero_add, show ∀ k, (cel u k 0).int = Sp.cA u k from fun _ => rfl, show ∀ k, (cel u k 1).int = Sp.cB u k from fun _ => rfl];have ez : (i + 1).toNat = i.toNat + 1 := by omega
 by_cases hi : i < u.length
 ·rw [show u.length - i.toNat = (u.length - (i.toNat + 1)) + 1 by omega] at hk;simp only [Sp.ansW, Sp.bitV, Int.toNat_natCast] at hk
  by_cases c : Sp.cA u i.toNat = q
  ·have h3 := hu.in_ i.toNat (by omega) c;rw [if_pos c] at hk;have hA' := hA [.i q, .i b, .i u.length, .i (i + 1), .ro _ qs, .ro _ ps, .i all, .ro _ sh, .l u, .l (l.set (Sp.cB u i.toNat).toNat [.i (andI .i64 (b.fdiv (2 ^ min i.toNat 64)) 1)])] (show ((u.length : Int) - (i + 1)).toNat < ((u.length : Int) - i).toNat by omega) ⟨⟨rfl, by omega, by omega, hb, ⟨hu.few, by rw [List.length_set]; exact hu.low, fun k hk he => by rw [List.length_set]; exact hu.in_ k hk he⟩⟩, by rw [ez]; exact hk⟩;clear hA hk
   repeat' (first | omega|intro _|with_reducible first|apply vifd|apply vifn|apply vifq|apply Xd|apply Xc|apply vifb|apply vif|apply nedd|apply ned2|apply ned|apply ar64|apply Xb|exact True.intro|assumption|rfl|apply And.intro)
   all_goals first | contradiction | exact hA' | skip
  ·rw [if_neg c] at hk;have hA' := hA [.i q, .i b, .i u.length, .i (i + 1), .ro _ qs, .ro _ ps, .i all, .ro _ sh, .l u, .l l] (show ((u.length : Int) - (i + 1)).toNat < ((u.length : Int) - i).toNat by omega) ⟨⟨rfl, by omega, by omega, hb, hu⟩, by rw [ez]; exact hk⟩;clear hA hk
   repeat' (first | omega|intro _|with_reducible first|apply vifd|apply vifn|apply vifq|apply Xd|apply Xc|apply vifb|apply vif|apply nedd|apply ned2|apply ned|apply ar64|apply Xb|exact True.intro|assumption|rfl|apply And.intro)
   all_goals first | contradiction | exact hA' | skip
 ·rw [show u.length - i.toNat = 0 by omega] at hk;simp only [Sp.ansW] at hk;clear hA
  repeat' (first | omega|intro _|with_reducible first|apply vifd|apply vifn|apply vifq|apply Xd|apply Xc|apply vifb|apply vif|apply nedd|apply ned2|apply ned|apply ar64|apply Xb|exact True.intro|assumption|rfl|apply And.intro)
  all_goals exact hk
def le_an : LE Try.prog := ⟨78, 5, fun W => @Yto W Xjn, okLan⟩
namespace Sp
def ansX (l : Dt) : Int := if 0 <= idxOf l 1 /\ 0 <= idxOf (l.drop (idxOf l 1 + 1).toNat) 1 then -1 else idxOf l 1
def rowW (sh u : Dt) (q b : Int) : Dt := ansW u q b 0 u.length (row sh q.toNat)
end Sp
def T43 : Tab Try.prog := ⟨[Xm6, pc_cn], [le_an], []⟩
def Xjw [InW] (e : List Ed) (K : Nat -> List Ed -> Prop) : Prop := match e with
 | [.i q, .i b, .ro _ qs, .ro _ ps, .i all, .ro _ sh, .l u] => Pre (0 <= q /\ q < sh.xs.length /\ 0 <= b /\ Sp.UqOk u q (Sp.row sh.xs q.toNat).length) (K 0 [.i (Sp.ansX (Sp.rowW sh.xs u q b)), .ro _ qs, .ro _ ps, .i all, .ro _ sh, .l u])
 | _ => False
def Xp : CC where
 g := 78
 args := [(.ptr 1 0), .int .i64, .int .i64]
 H := [(1, .blk 89 [.rs Iv5, .rs Jc, .int .i64, .rs Jb, (.row 4)]), (4, .arr 44 Ja)]
 outs := [⟨false, .int .i64, [(1, .blk 89 [.rs Iv5, .rs Jc, .int .i64, .rs Jb, (.row 4)]), (4, .arr 44 Ja)], false⟩]
 spec := Xjw
def Ze [W : InW] (q : Int) (sh : Ro Jb) := List.length (cel sh.xs q.toNat (0 : Nat)).lst
def Zf [W : InW] (q : Int) (sh : Ro Jb) := List.replicate (↑(Ze q sh) : Int).toNat (Ybr [Ty.int IntKind.i64])
def Zd [W : InW] (q : Int) (sh : Ro Jb) := List.take (min (Ze q sh) (Zf q sh).length) (cel sh.xs q.toNat (0 : Nat)).lst ++ List.drop (min (Ze q sh) (Zf q sh).length) (Zf q sh)
def Zc [W : InW] (q b : Int) (sh : Ro Jb) (u : Dt) := Sp.ansW u q b (Int.toNat Zb) (u.length - Int.toNat Zb) (Zd q sh)
def Xeh [W : InW] (q b : Int) (qs : Ro Iv5) (ps : Ro Jc) (all : Int) (sh : Ro Jb) (u : Dt) (K : Nat -> List Ed -> Prop) : Prop :=
 Need (decide (0 <= q) && decide (q < (↑(sh.xs.length) : Int))) (Need (decide (q.toNat < sh.xs.length)) (Need (decide ((↑(Ze q sh) : Int) = (↑(Ze q sh) : Int)) && decide (Zb <= (↑(Ze q sh) : Int)) && decide ((8 : Nat) * (↑(Ze q sh) : Int).toNat <= 281474976710656)) (Need (decide (0 <= q) && decide (q < (↑(sh.xs.length) : Int))) (Need (decide (q.toNat < sh.xs.length)) (Pre ((↑(u.length) : Int) = (↑(u.length) : Int) /\ Zb <= 0 /\ Zb <= (↑(u.length) : Int) /\ 0 <= b /\ Sp.UqOk u q (Zd q sh).length) (Pre True (Vif (decide (Zb <= Sp.idxOf (Zc q b sh u) (1 : Int))) (Ar .i64 (Sp.idxOf (Zc q b sh u) (1 : Int) + 1) fun z => Need (decide (0 <= z)) (Need (decide (z.toNat <= List.length (Zc q b sh u)) && decide (List.length (Zc q b sh u) <= List.length (Zc q b sh u))) (Need (decide (z.toNat + (List.length (Zc q b sh u) - z.toNat) <= List.length (Zc q b sh u))) (Pre True (Vif (decide (Zb <= Sp.idxOf (List.take (List.length (Zc q b sh u) - z.toNat) (List.drop z.toNat (Zc q b sh u))) (1 : Int))) (K 0 [.i (-1 : Int), .ro _ qs, .ro _ ps, .i all, .ro [Ty.sl [Ty.int IntKind.i64]] sh, .l u]) (K 0 [.i (Sp.idxOf (Zc q b sh u) (1 : Int)), .ro _ qs, .ro _ ps, .i all, .ro [Ty.sl [Ty.int IntKind.i64]] sh, .l u])))))) (K 0 [.i (Sp.idxOf (Zc q b sh u) (1 : Int)), .ro _ qs, .ro _ ps, .i all, .ro [Ty.sl [Ty.int IntKind.i64]] sh, .l u]))))))))
theorem Xkv (W : InW) (q b qs ps all sh u K) : Ywu (cxT Try.prog TT T43 1000 50) 1000 78 [.ptr 1 0, .si .i64 q, .si .i64 b] [(1, .blk 89 [.rs _ qs, .rs _ ps, .si .i64 all, .rs _ sh, .rw 4]), (4, .arr 44 Ja u)] (fun v h => outC Xp.H [.ro _ qs, .ro _ ps, .i all, .ro _ sh, .l u] Xp.outs 0 false v h K) (fun v h => outC Xp.H [.ro _ qs, .ro _ ps, .i all, .ro _ sh, .l u] Xp.outs 0 true v h K) = Xeh q b qs ps all sh u K := by kernel_rfl
theorem Xl9 (hyp_ : ∀ (W : InW) q b qs ps all sh u K, Xjw [.i q, .i b, .ro _ qs, .ro _ ps, .i all, .ro _ sh, .l u] K -> Xeh q b qs ps all sh u K) : ∀ W : InW, @CallC W Try.prog Xp :=
 CC.okOf (fun W => @TT W) (fun W => @Xe W) Xa T43 1000 50 Xp fun W q b qs ps all sh u K hs => (Xkv W q b qs ps all sh u K).mpr (hyp_ W q b qs ps all sh u K hs)
theorem Xgo (u : Dt) (q b : Int) : ∀ n i l, (Sp.ansW u q b i n l).length = l.length
 | 0, _, _ => rfl
 | n + 1, i, l => by
  simp only [Sp.ansW];rw [Xgo u q b n (i + 1)]
  split <;> simp
theorem Xgm (xs : Dt) (x : Int) : -1 <= Sp.idxOf xs x /\ Sp.idxOf xs x < xs.length := by
 unfold Sp.idxOf
 split
 ·rename_i h;have := Sp.fstF_spec h;omega
 ·omega
theorem Xhl : ∀ W : InW, @CallC W Try.prog Xp := Xl9 fun W q b qs ps all sh u K hs => by
 obtain ⟨⟨h0, h1, h2, h3⟩, hk⟩ := hs;unfold Xeh;delta Zc Zd Zf Ze Zb;have hlow := h3.low;simp only [show Int.toNat 0 = 0 from rfl, Nat.sub_zero, Int.toNat_natCast, List.length_replicate, Nat.min_self, List.take_length, List.drop_replicate, Nat.sub_self, List.replicate_zero, List.append_nil, show (cel sh.xs q.toNat 0).lst = Sp.row sh.xs q.toNat from rfl, show Sp.ansW u q b 0 u.length (Sp.row sh.xs q.toNat) = Sp.rowW sh.xs u q b from rfl];have hl : (Sp.rowW sh.xs u q b).length = (Sp.row sh.xs q.toNat).length := Xgo _ _ _ _ _ _;have hz : ∀ z : Nat, List.take ((Sp.rowW sh.xs u q b).length - z) (List.drop z (Sp.rowW sh.xs u q b)) = List.drop z (Sp.rowW sh.xs u q b) := fun z => List.take_of_length_le (by simp);simp only [hz];clear hz;unfold Sp.ansX at hk;generalize Sp.rowW sh.xs u q b = l at *;have hi := Xgm l 1
 by_cases c : 0 <= Sp.idxOf l 1
 ·by_cases c2 : 0 <= Sp.idxOf (l.drop (Sp.idxOf l 1 + 1).toNat) 1
  ·rw [if_pos ⟨c, c2⟩] at hk
   repeat' (first | (with_reducible refine Xb ⟨rfl, by omega, by omega, h2, h3⟩ ?_) | (with_reducible refine Xb trivial ?_) | (with_reducible refine ned ?_ ?_; simp; omega) | omega|intro _|with_reducible first|apply vifd|apply vifn|apply vifq|apply Xd|apply Xc|apply vifb|apply vif|apply nedd|apply ned2|apply ned|apply ar64|apply Xb|exact True.intro|assumption|rfl|apply And.intro)
   all_goals first | contradiction | exact hk | skip
  ·rw [if_neg (fun x => c2 x.2)] at hk
   repeat' (first | (with_reducible refine Xb ⟨rfl, by omega, by omega, h2, h3⟩ ?_) | (with_reducible refine Xb trivial ?_) | (with_reducible refine ned ?_ ?_; simp; omega) | omega|intro _|with_reducible first|apply vifd|apply vifn|apply vifq|apply Xd|apply Xc|apply vifb|apply vif|apply nedd|apply ned2|apply ned|apply ar64|apply Xb|exact True.intro|assumption|rfl|apply And.intro)
   all_goals first | contradiction | exact hk | skip
 ·rw [if_neg (fun x => c x.1)] at hk
  repeat' (first | (with_reducible refine Xb ⟨rfl, by omega, by omega, h2, h3⟩ ?_) | (with_reducible refine Xb trivial ?_) | (with_reducible refine ned ?_ ?_; simp; omega) | omega|intro _|with_reducible first|apply vifd|apply vifn|apply vifq|apply Xd|apply Xc|apply vifb|apply vif|apply nedd|apply ned2|apply ned|apply ar64|apply Xb|exact True.intro|assumption|rfl|apply And.intro)
  all_goals first | contradiction | exact hk | skip
namespace Sp
def anW (sh u : Dt) (b : Int) (i : Nat) : Int := ansX (rowW sh u i b)
def stW (qs sh u : Dt) (b : Int) (i : Nat) (l : Dt) : Dt :=
 if anW sh u b i = qRight qs i then l.set (qPart qs i).toNat [.i (num l (qPart qs i).toNat + qPts qs i)] else if anW sh u b i = -1 then l else l.set (qPart qs i).toNat [.i (num l (qPart qs i).toNat - qMin qs i)]
def addW (qs sh u : Dt) (b : Int) : Nat -> Nat -> Dt -> Dt
 | _, 0, l => l
 | i, n + 1, l => addW qs sh u b (i + 1) n (stW qs sh u b i l)
def mkW (qs ps sh u : Dt) (b : Int) : Dt := addW qs sh u b 0 qs.length (List.replicate ps.length [.i 0])
structure SeOk (qs sh u : Dt) : Prop where
 n : sh.length = qs.length
 few : u.length <= 64
 uq : ∀ q, q < sh.length -> UqOk u q (row sh q).length
theorem stW_len (qs sh u : Dt) (b : Int) (i : Nat) (l : Dt) : (stW qs sh u b i l).length = l.length := by
 unfold stW; split
 ·simp
 ·split <;> simp
theorem addW_len (qs sh u : Dt) (b : Int) : ∀ n i l, (addW qs sh u b i n l).length = l.length
 | 0, _, _ => rfl
 | n + 1, i, l => by simp only [addW, addW_len qs sh u b n, stW_len]
theorem stW_in {qs sh u l : Dt} {b m : Int} {i : Nat} (hp : 0 <= qPart qs i /\ qPart qs i < l.length) (h1 : 0 <= qPts qs i /\ qPts qs i <= 20) (h2 : 0 <= qMin qs i /\ qMin qs i <= 20) (h : ∀ p, p < l.length -> -m <= num l p /\ num l p <= m) : ∀ p, p < (stW qs sh u b i l).length -> -(m + 20) <= num (stW qs sh u b i l) p /\ num (stW qs sh u b i l) p <= m + 20 := fun p hpl => by
 rw [stW_len] at hpl;have a := h p hpl;have c := h (qPart qs i).toNat (by omega);unfold stW
 split
 ·rw [num_set (by omega)]; split <;> omega
 ·split
  ·omega
  ·rw [num_set (by omega)]; split <;> omega
theorem addW_in {qs sh u : Dt} {b : Int} {np : Nat} (hp : ∀ i, i < qs.length -> 0 <= qPart qs i /\ qPart qs i < np) (h1 : ∀ i, i < qs.length -> 0 <= qPts qs i /\ qPts qs i <= 20) (h2 : ∀ i, i < qs.length -> 0 <= qMin qs i /\ qMin qs i <= 20) : ∀ n i l (m : Int), i + n <= qs.length -> l.length = np -> (∀ p, p < l.length -> -m <= num l p /\ num l p <= m) -> ∀ p, p < np -> -(m + 20 * n) <= num (addW qs sh u b i n l) p /\ num (addW qs sh u b i n l) p <= m + 20 * n
 | 0, i, l, m, hi, hl, h, p, hpn => by
  have := h p (by omega);simp only [addW];omega
 | n + 1, i, l, m, hi, hl, h, p, hpn => by
  have := addW_in (sh := sh) (u := u) (b := b) hp h1 h2 n (i + 1) (stW qs sh u b i l) (m + 20) (by omega) (by rw [stW_len]; exact hl) (stW_in (by rw [hl]; exact hp i (by omega)) (h1 i (by omega)) (h2 i (by omega)) h) p hpn;simp only [addW];omega
end Sp
def Xik [InW] (e : List Ed) (K : Nat -> List Ed -> Prop) : Prop := match e with
 | [.i b, .ro _ qs', .i n, .i i, .ro _ qs, .ro _ ps, .i all, .ro _ sh, .l u, .l l] => Pre (qs'.xs = qs.xs /\ n = qs.xs.length /\ 0 <= i /\ i <= qs.xs.length /\ 0 <= b /\ Sp.KeyOk qs.xs ps.xs all /\ Sp.SeOk qs.xs sh.xs u /\ l.length = ps.xs.length /\ ∀ p, p < l.length -> -(20 * i) <= Sp.num l p /\ Sp.num l p <= 20 * i) (K 0 [.i b, .ro _ qs, .ro _ ps, .i all, .ro _ sh, .l u, .l (Sp.addW qs.xs sh.xs u b i.toNat (qs.xs.length - i.toNat) l)])
 | _ => False
def T44 : Tab Try.prog := ⟨[], [], [ceOf Xp Xhl]⟩
def Xjk : LC where
 len := 56
 T := [(0, (.ptr 1 0)), (1, .int .i64), (5, (.row 3)), (19, .rs Iv5), (20, .int .i64), (21, .int .i64)]
 H := [(1, .blk 89 [.rs Iv5, .rs Jc, .int .i64, .rs Jb, (.row 4)]), (4, .arr 44 Ja), (3, .arr 3 Jc)]
 W := ([6, 7] ++ rg 22 33)
 outs := [⟨.exit 0, [(0, (.ptr 1 0)), (1, .int .i64), (5, (.row 6))], [(1, .blk 89 [.rs Iv5, .rs Jc, .int .i64, .rs Jb, (.row 4)]), (4, .arr 44 Ja), (6, .arr 3 Jc)], ([6, 7] ++ rg 19 36)⟩]
 spec := Xik
def Zh [W : InW] (qz : Ro Iv5) (i : Int) := cel qz.xs i.toNat (0 : Nat)
def Zg [W : InW] (qz : Ro Iv5) (i : Int) (l : Dt) := decide ((0 : Int) <= (Zh qz i).int) && decide ((Zh qz i).int < (↑(l.length) : Int))
def Zi := [Ty.sl [Ty.int IntKind.i64]]
def Xh0 [W : InW] (b : Int) (qz : Ro Iv5) (n i : Int) (qs : Ro Iv5) (ps : Ro Jc) (all : Int) (sh : Ro Jb) (u l : Dt) (A : List Ed -> Prop) (K : Nat -> List Ed -> Prop) : Prop :=
 Vif (decide (i < n)) (Need (decide (0 <= i) && decide (i < (↑(qz.xs.length) : Int))) (Need (decide (i.toNat < qz.xs.length)) (Pre (0 <= i /\ i < (↑(sh.xs.length) : Int) /\ 0 <= b /\ Sp.UqOk u i (List.length (Sp.row sh.xs i.toNat))) (Vif (decide (Sp.ansX (Sp.rowW sh.xs u i b) = (cel qz.xs i.toNat ((0 : Nat) + 1 + 1)).int)) (Need (Zg qz i l) (Need (decide ((Zh qz i).int.toNat < l.length)) (Ar .i64 ((cel l (Zh qz i).int.toNat (0 : Nat)).int + (cel qz.xs i.toNat ((0 : Nat) + 1 + 1 + 1)).int) fun z => Need (Zg qz i l) (Need (decide ((Zh qz i).int.toNat < l.length)) (Ar .i64 (i + 1) fun z_1 => A [.i b, .ro _ qz, .i n, .i z_1, .ro _ qs, .ro _ ps, .i all, .ro Zi sh, .l u, .l (List.set l (Zh qz i).int.toNat [Cl.i z])]))))) (Vif (decide (Sp.ansX (Sp.rowW sh.xs u i b) = (-1 : Int))) (Ar .i64 (i + 1) fun z => A [.i b, .ro _ qz, .i n, .i z, .ro _ qs, .ro _ ps, .i all, .ro Zi sh, .l u, .l l]) (Need (Zg qz i l) (Need (decide ((Zh qz i).int.toNat < l.length)) (Ar .i64 ((cel l (Zh qz i).int.toNat (0 : Nat)).int - (cel qz.xs i.toNat ((0 : Nat) + 1 + 1 + 1 + 1)).int) fun z => Need (Zg qz i l) (Need (decide ((Zh qz i).int.toNat < l.length)) (Ar .i64 (i + 1) fun z_1 => A [.i b, .ro _ qz, .i n, .i z_1, .ro _ qs, .ro _ ps, .i all, .ro Zi sh, .l u, .l (List.set l (Zh qz i).int.toNat [Cl.i z])])))))))))) (K 0 [.i b, .ro _ qs, .ro _ ps, .i all, .ro Zi sh, .l u, .l l])
theorem Xmy (W : InW) (b qz n i qs ps all sh u l A K) : Yfc { cxT Try.prog TT T44 1000 50 with fn := 55 } 1000 (Yn8 Try.prog 55 4) (Yd8 56 [(0, .ptr 1 0), (1, .si .i64 b), (5, .rw 3), (19, .rs _ qz), (20, .si .i64 n), (21, .si .i64 i)] ([6, 7] ++ rg 22 33)) [(1, .blk 89 [.rs _ qs, .rs _ ps, .si .i64 all, .rs _ sh, .rw 4]), (4, .arr 44 Ja u), (3, .arr 3 Jc l)] (Yug Xjk A K) = Xh0 b qz n i qs ps all sh u l A K := by kernel_rfl
def Xhf : Prop := ∀ (W : InW) (body a : Code), (Try.prog.funcs[55]?).bind (·.body) = some body -> a ∈ Y0 body -> Yfw a = 4 -> @Ymr W Try.prog a (@Yto W Xjk)
theorem Xng (meas : [InW] -> List Ed -> Nat) (hyp_ : ∀ (W : InW) b qz n i qs ps all sh u l K, Xik [.i b, .ro _ qz, .i n, .i i, .ro _ qs, .ro _ ps, .i all, .ro _ sh, .l u, .l l] K -> ∀ A : List Ed -> Prop, (∀ e, meas e < meas [.i b, .ro _ qz, .i n, .i i, .ro _ qs, .ro _ ps, .i all, .ro _ sh, .l u, .l l] -> Xik e K -> A e) -> Xh0 b qz n i qs ps all sh u l A K) : Xhf :=
 LE.okOf' (fun W => @TT W) (fun W => @Xe W) Xa T44 1000 50 (by kernel_rfl) Xjk (fun W => @meas W) fun W b qz n i qs ps all sh u l K hs =>
  (Xmy W b qz n i qs ps all sh u l (fun e => meas e < meas [.i b, .ro _ qz, .i n, .i i, .ro _ qs, .ro _ ps, .i all, .ro _ sh, .l u, .l l] /\ Xik e K) K).mpr (hyp_ W b qz n i qs ps all sh u l K hs _ fun e h1 h2 => ⟨h1, h2⟩)
theorem okLpw : Xhf := Xng (fun e => match e with | [_, _, .i n, .i i, _, _, _, _, _, _] => (n - i).toNat | _ => 0) fun W b qz n i qs ps all sh u l K hs A hA => by
 obtain ⟨⟨hq, rfl, h0, h1, hb, hkey, hse, hl, hin⟩, hk⟩ := hs;unfold Xh0;delta Zg Zi Zh;simp only [hq];have n2 := hkey.n2;have ez : (i + 1).toNat = i.toNat + 1 := by omega
 have ei : ((i.toNat : Nat) : Int) = i := Int.toNat_of_nonneg h0
 by_cases hi : i < qs.xs.length
 ·have hn := hse.n;have huq := hse.uq i.toNat (by omega);rw [ei] at huq;have hp := hkey.part i.toNat (by omega);have hpt := hkey.pts i.toNat (by omega);have hmn := hkey.minus i.toNat (by omega);have hv := hin (Sp.qPart qs.xs i.toNat).toNat (by omega);rw [show qs.xs.length - i.toNat = (qs.xs.length - (i.toNat + 1)) + 1 by omega] at hk;simp only [Sp.addW] at hk;have hA' := hA [.i b, .ro _ qz, .i qs.xs.length, .i (i + 1), .ro _ qs, .ro _ ps, .i all, .ro _ sh, .l u, .l (Sp.stW qs.xs sh.xs u b i.toNat l)] (show ((qs.xs.length : Int) - (i + 1)).toNat < ((qs.xs.length : Int) - i).toNat by omega) ⟨⟨hq, rfl, by omega, by omega, hb, hkey, hse, by rw [Sp.stW_len]; exact hl, fun p hp2 => by
   have := Sp.stW_in (qs := qs.xs) (sh := sh.xs) (u := u) (b := b) (m := 20 * i) (i := i.toNat) (by omega) hpt hmn hin p hp2;omega⟩, by rw [ez]; exact hk⟩
  clear hA hk;unfold Sp.stW Sp.anW at hA';rw [ei] at hA';simp only [Nat.zero_add, Nat.reduceAdd, show (cel qs.xs i.toNat 0).int = Sp.qPart qs.xs i.toNat from rfl, show (cel qs.xs i.toNat 2).int = Sp.qRight qs.xs i.toNat from rfl, show (cel qs.xs i.toNat 3).int = Sp.qPts qs.xs i.toNat from rfl, show (cel qs.xs i.toNat 4).int = Sp.qMin qs.xs i.toNat from rfl, show ∀ k, (cel l k 0).int = Sp.num l k from fun _ => rfl];generalize Sp.ansX (Sp.rowW sh.xs u i b) = r at *
  by_cases c : r = Sp.qRight qs.xs i.toNat
  ·rw [if_pos c] at hA'
   repeat' (first | (with_reducible refine Xb ⟨by omega, by omega, hb, huq⟩ ?_) | omega|intro _|with_reducible first|apply vifd|apply vifn|apply vifq|apply Xd|apply Xc|apply vifb|apply vif|apply nedd|apply ned2|apply ned|apply ar64|apply Xb|exact True.intro|assumption|rfl|apply And.intro)
   all_goals first | contradiction | exact hA' | skip
  ·rw [if_neg c] at hA'
   by_cases c2 : r = -1
   ·rw [if_pos c2] at hA'
    repeat' (first | (with_reducible refine Xb ⟨by omega, by omega, hb, huq⟩ ?_) | omega|intro _|with_reducible first|apply vifd|apply vifn|apply vifq|apply Xd|apply Xc|apply vifb|apply vif|apply nedd|apply ned2|apply ned|apply ar64|apply Xb|exact True.intro|assumption|rfl|apply And.intro)
    all_goals first | contradiction | exact hA' | skip
   ·rw [if_neg c2] at hA'
    repeat' (first | (with_reducible refine Xb ⟨by omega, by omega, hb, huq⟩ ?_) | omega|intro _|with_reducible first|apply vifd|apply vifn|apply vifq|apply Xd|apply Xc|apply vifb|apply vif|apply nedd|apply ned2|apply ned|apply ar64|apply Xb|exact True.intro|assumption|rfl|apply And.intro)
    all_goals first | contradiction | exact hA' | skip
 ·rw [show qs.xs.length - i.toNat = 0 by omega] at hk;simp only [Sp.addW] at hk;clear hA
  repeat' (first | omega|intro _|with_reducible first|apply vifd|apply vifn|apply vifq|apply Xd|apply Xc|apply vifb|apply vif|apply nedd|apply ned2|apply ned|apply ar64|apply Xb|exact True.intro|assumption|rfl|apply And.intro)
  all_goals exact hk
def le_pw : LE Try.prog := ⟨55, 4, fun W => @Yto W Xjk, okLpw⟩
def T45 : Tab Try.prog := ⟨[], [le_pw], [ceOf Xp Xhl]⟩
def Xjr [InW] (e : List Ed) (K : Nat -> List Ed -> Prop) : Prop := match e with
 | [.i b, .ro _ qs, .ro _ ps, .i all, .ro _ sh, .l u] => Pre (0 <= b /\ Sp.KeyOk qs.xs ps.xs all /\ Sp.SeOk qs.xs sh.xs u) (K 0 [.ro _ qs, .ro _ ps, .i all, .ro _ sh, .l u, .l (Sp.mkW qs.xs ps.xs sh.xs u b)])
 | _ => False
def Xo : CC where
 g := 55
 args := [(.ptr 1 0), .int .i64]
 H := [(1, .blk 89 [.rs Iv5, .rs Jc, .int .i64, .rs Jb, (.row 4)]), (4, .arr 44 Ja)]
 outs := [⟨false, (.row 6), [(1, .blk 89 [.rs Iv5, .rs Jc, .int .i64, .rs Jb, (.row 4)]), (4, .arr 44 Ja), (6, .arr 3 Jc)], false⟩]
 spec := Xjr
def Zj [W : InW] (ps : Ro Jc) := List.replicate (↑(ps.xs.length) : Int).toNat (Ybr [Ty.int IntKind.i64])
def Xec [W : InW] (b : Int) (qs : Ro Iv5) (ps : Ro Jc) (all : Int) (sh : Ro Jb) (u : Dt) (K : Nat -> List Ed -> Prop) : Prop :=
 Need (decide ((↑(ps.xs.length) : Int) = (↑(ps.xs.length) : Int)) && decide (Zb <= (↑(ps.xs.length) : Int)) && decide ((8 : Nat) * (↑(ps.xs.length) : Int).toNat <= 281474976710656)) (Pre (qs.xs = qs.xs /\ (↑(qs.xs.length) : Int) = (↑(qs.xs.length) : Int) /\ Zb <= 0 /\ Zb <= (↑(qs.xs.length) : Int) /\ 0 <= b /\ Sp.KeyOk qs.xs ps.xs all /\ Sp.SeOk qs.xs sh.xs u /\ (Zj ps).length = ps.xs.length /\ ∀ (p : Nat), p < (Zj ps).length -> -((20 : Int) * 0) <= Sp.num (Zj ps) p /\ Sp.num (Zj ps) p <= 20 * 0) (K 0 [.ro _ qs, .ro _ ps, .i all, .ro Zi sh, .l u, .l (Sp.addW qs.xs sh.xs u b (Int.toNat Zb) (qs.xs.length - Int.toNat Zb) (Zj ps))]))
theorem Xkq (W : InW) (b qs ps all sh u K) : Ywu (cxT Try.prog TT T45 1000 50) 1000 55 [.ptr 1 0, .si .i64 b] [(1, .blk 89 [.rs _ qs, .rs _ ps, .si .i64 all, .rs _ sh, .rw 4]), (4, .arr 44 Ja u)] (fun v h => outC Xo.H [.ro _ qs, .ro _ ps, .i all, .ro _ sh, .l u] Xo.outs 0 false v h K) (fun v h => outC Xo.H [.ro _ qs, .ro _ ps, .i all, .ro _ sh, .l u] Xo.outs 0 true v h K) = Xec b qs ps all sh u K := by kernel_rfl
theorem Xl4 (hyp_ : ∀ (W : InW) b qs ps all sh u K, Xjr [.i b, .ro _ qs, .ro _ ps, .i all, .ro _ sh, .l u] K -> Xec b qs ps all sh u K) : ∀ W : InW, @CallC W Try.prog Xo :=
 CC.okOf (fun W => @TT W) (fun W => @Xe W) Xa T45 1000 50 Xo fun W b qs ps all sh u K hs => (Xkq W b qs ps all sh u K).mpr (hyp_ W b qs ps all sh u K hs)
theorem Xhk : ∀ W : InW, @CallC W Try.prog Xo := Xl4 fun W b qs ps all sh u K hs => by
 obtain ⟨⟨hb, hkey, hse⟩, hk⟩ := hs;have p2 := hkey.p2;unfold Xec;delta Zj Zb Zi;simp only [show Int.toNat 0 = 0 from rfl, Nat.sub_zero, Int.toNat_natCast, show Ybr [.int .i64] = [Cl.i 0] from rfl];unfold Sp.mkW at hk;refine ned (by simp; omega) ⟨⟨trivial, trivial, by omega, by omega, hb, hkey, hse, by simp, fun p _ => by rw [Sp.num_rep]; omega⟩, ?_⟩;exact hk
def Xil [InW] (e : List Ed) (K : Nat -> List Ed -> Prop) : Prop := match e with
 | [.i n, .i i, .ro _ qs, .ro _ ps, .i all, .ro _ sh, .l u, .l l] => Pre (n = l.length /\ 0 <= i /\ i <= l.length /\ l.length = ps.xs.length /\ l.length <= 4) (Vif (Sp.partsOk l ps.xs i.toNat (l.length - i.toNat)) (K 0 [.ro _ qs, .ro _ ps, .i all, .ro _ sh, .l u, .l l]) (K 1 [.ro _ qs, .ro _ ps, .i all, .ro _ sh, .l u]))
 | _ => False
def Xjl : LC where
 len := 37
 T := [(0, (.ptr 1 0)), (5, (.row 7)), (11, (.row 7)), (12, .int .i64), (13, .int .i64)]
 H := [(1, .blk 89 [.rs Iv5, .rs Jc, .int .i64, .rs Jb, (.row 4)]), (4, .arr 44 Ja), (7, .arr 3 Jc)]
 W := ([4, 6, 7] ++ rg 14 15)
 outs := [⟨.exit 0, [(0, (.ptr 1 0)), (5, (.row 7))], [(1, .blk 89 [.rs Iv5, .rs Jc, .int .i64, .rs Jb, (.row 4)]), (4, .arr 44 Ja), (7, .arr 3 Jc)], ([4, 6, 7] ++ rg 11 18)⟩, ⟨.ret, [(0, (.ptr 1 0)), (4, (.lit (.bool false)))], [(1, .blk 89 [.rs Iv5, .rs Jc, .int .i64, .rs Jb, (.row 4)]), (4, .arr 44 Ja)], ([5, 6, 7] ++ rg 11 18)⟩]
 spec := Xil
def Xh1 [W : InW] (n i : Int) (qs : Ro Iv5) (ps : Ro Jc) (all : Int) (sh : Ro Jb) (u l : Dt) (A : List Ed -> Prop) (K : Nat -> List Ed -> Prop) : Prop :=
 Vif (decide (i < n)) (Need (decide (0 <= i) && decide (i < (↑(l.length) : Int))) (Need (decide (i.toNat < l.length)) (Need (decide (0 <= i) && decide (i < (↑(ps.xs.length) : Int))) (Need (decide (i.toNat < ps.xs.length)) (Vif (decide ((cel l i.toNat (0 : Nat)).int < (cel ps.xs i.toNat (0 : Nat)).int)) (K (0+1) [.ro _ qs, .ro _ ps, .i all, .ro Zi sh, .l u]) (Ar .i64 (i + 1) fun z => A [.i n, .i z, .ro _ qs, .ro _ ps, .i all, .ro Zi sh, .l u, .l l])))))) (K 0 [.ro _ qs, .ro _ ps, .i all, .ro Zi sh, .l u, .l l])
theorem Xmz (W : InW) (n i qs ps all sh u l A K) : Yfc { cxT Try.prog TT T0 1000 50 with fn := 56 } 1000 (Yn8 Try.prog 56 4) (Yd8 37 [(0, .ptr 1 0), (5, .rw 7), (11, .rw 7), (12, .si .i64 n), (13, .si .i64 i)] ([4, 6, 7] ++ rg 14 15)) [(1, .blk 89 [.rs _ qs, .rs _ ps, .si .i64 all, .rs _ sh, .rw 4]), (4, .arr 44 Ja u), (7, .arr 3 Jc l)] (Yug Xjl A K) = Xh1 n i qs ps all sh u l A K := by kernel_rfl
def Xhg : Prop := ∀ (W : InW) (body a : Code), (Try.prog.funcs[56]?).bind (·.body) = some body -> a ∈ Y0 body -> Yfw a = 4 -> @Ymr W Try.prog a (@Yto W Xjl)
theorem Xnh (meas : [InW] -> List Ed -> Nat) (hyp_ : ∀ (W : InW) n i qs ps all sh u l K, Xil [.i n, .i i, .ro _ qs, .ro _ ps, .i all, .ro _ sh, .l u, .l l] K -> ∀ A : List Ed -> Prop, (∀ e, meas e < meas [.i n, .i i, .ro _ qs, .ro _ ps, .i all, .ro _ sh, .l u, .l l] -> Xil e K -> A e) -> Xh1 n i qs ps all sh u l A K) : Xhg :=
 LE.okOf' (fun W => @TT W) (fun W => @Xe W) Xa T0 1000 50 (by kernel_rfl) Xjl (fun W => @meas W) fun W n i qs ps all sh u l K hs =>
  (Xmz W n i qs ps all sh u l (fun e => meas e < meas [.i n, .i i, .ro _ qs, .ro _ ps, .i all, .ro _ sh, .l u, .l l] /\ Xil e K) K).mpr (hyp_ W n i qs ps all sh u l K hs _ fun e h1 h2 => ⟨h1, h2⟩)
theorem okLpl : Xhg := Xnh (fun e => match e with | [.i n, .i i, _, _, _, _, _, _] => (n - i).toNat | _ => 0) fun W n i qs ps all sh u l K hs A hA => by
 obtain ⟨⟨rfl, h0, h1, hl, h4⟩, hk⟩ := hs;unfold Xh1;delta Zi;simp only [show ∀ k, (cel l k 0).int = Sp.num l k from fun _ => rfl, show ∀ k, (cel ps.xs k 0).int = Sp.num ps.xs k from fun _ => rfl];have ez : (i + 1).toNat = i.toNat + 1 := by omega
 by_cases hi : i < l.length
 ·rw [show l.length - i.toNat = (l.length - (i.toNat + 1)) + 1 by omega] at hk;simp only [Sp.partsOk, Sp.allF] at hk
  by_cases c : Sp.num ps.xs i.toNat <= Sp.num l i.toNat
  ·rw [decide_eq_true c, Bool.true_and] at hk;have hA' := hA [.i l.length, .i (i + 1), .ro _ qs, .ro _ ps, .i all, .ro _ sh, .l u, .l l] (show ((l.length : Int) - (i + 1)).toNat < ((l.length : Int) - i).toNat by omega) ⟨⟨rfl, by omega, by omega, hl, h4⟩, by rw [ez]; exact hk⟩;clear hA hk
   repeat' (first | omega|intro _|with_reducible first|apply vifd|apply vifn|apply vifq|apply Xd|apply Xc|apply vifb|apply vif|apply nedd|apply ned2|apply ned|apply ar64|apply Xb|exact True.intro|assumption|rfl|apply And.intro)
   all_goals first | contradiction | exact hA' | skip
  ·rw [decide_eq_false c, Bool.false_and] at hk;have hk := hk.2 rfl;clear hA
   repeat' (first | omega|intro _|with_reducible first|apply vifd|apply vifn|apply vifq|apply Xd|apply Xc|apply vifb|apply vif|apply nedd|apply ned2|apply ned|apply ar64|apply Xb|exact True.intro|assumption|rfl|apply And.intro)
   all_goals first | contradiction | exact hk | skip
 ·rw [show l.length - i.toNat = 0 by omega] at hk;simp only [Sp.partsOk, Sp.allF] at hk;have hk := hk.1 rfl;clear hA
  repeat' (first | omega|intro _|with_reducible first|apply vifd|apply vifn|apply vifq|apply Xd|apply Xc|apply vifb|apply vif|apply nedd|apply ned2|apply ned|apply ar64|apply Xb|exact True.intro|assumption|rfl|apply And.intro)
  all_goals exact hk
def le_pl : LE Try.prog := ⟨56, 4, fun W => @Yto W Xjl, okLpl⟩
namespace Sp
def psW (qs ps : Dt) (all : Int) (sh u : Dt) (b : Int) : Bool := passOf all ps (mkW qs ps sh u b)
theorem mkW_len (qs ps sh u : Dt) (b : Int) : (mkW qs ps sh u b).length = ps.length := by unfold mkW; rw [addW_len, List.length_replicate]
theorem mkW_low {qs ps sh u : Dt} {all b : Int} (hk : KeyOk qs ps all) : Low (mkW qs ps sh u b) := by
 have h1 := hk.p2;have h2 := hk.n2;refine ⟨by rw [mkW_len]; omega, fun i hi => ?_⟩;rw [mkW_len] at hi;have := addW_in (sh := sh) (u := u) (b := b) hk.part hk.pts hk.minus qs.length 0 (List.replicate ps.length [.i 0]) 0 (by omega) (by simp) (fun p _ => by rw [num_rep]; omega) i hi;unfold mkW;omega
end Sp
def T46 : Tab Try.prog := ⟨[Xm5], [le_pl], [ceOf Xo Xhk]⟩
def Xjs [InW] (e : List Ed) (K : Nat -> List Ed -> Prop) : Prop := match e with
 | [.i b, .ro _ qs, .ro _ ps, .i all, .ro _ sh, .l u] => Pre (0 <= b /\ Sp.KeyOk qs.xs ps.xs all /\ Sp.SeOk qs.xs sh.xs u) (K 0 [.b (Sp.psW qs.xs ps.xs all sh.xs u b), .ro _ qs, .ro _ ps, .i all, .ro _ sh, .l u])
 | _ => False
def Xv : CC where
 g := 56
 args := [(.ptr 1 0), .int .i64]
 H := [(1, .blk 89 [.rs Iv5, .rs Jc, .int .i64, .rs Jb, (.row 4)]), (4, .arr 44 Ja)]
 outs := [⟨false, .bool, [(1, .blk 89 [.rs Iv5, .rs Jc, .int .i64, .rs Jb, (.row 4)]), (4, .arr 44 Ja)], false⟩]
 spec := Xjs
def Xed [W : InW] (b : Int) (qs : Ro Iv5) (ps : Ro Jc) (all : Int) (sh : Ro Jb) (u : Dt) (K : Nat -> List Ed -> Prop) : Prop :=
 Pre (0 <= b /\ Sp.KeyOk qs.xs ps.xs all /\ Sp.SeOk qs.xs sh.xs u) (Pre ((↑(List.length (Sp.mkW qs.xs ps.xs sh.xs u b)) : Int) = (↑(List.length (Sp.mkW qs.xs ps.xs sh.xs u b)) : Int) /\ Zb <= 0 /\ Zb <= (↑(List.length (Sp.mkW qs.xs ps.xs sh.xs u b)) : Int) /\ List.length (Sp.mkW qs.xs ps.xs sh.xs u b) = ps.xs.length /\ List.length (Sp.mkW qs.xs ps.xs sh.xs u b) <= 4) (Vif (Sp.partsOk (Sp.mkW qs.xs ps.xs sh.xs u b) ps.xs (Int.toNat Zb) (List.length (Sp.mkW qs.xs ps.xs sh.xs u b) - Int.toNat Zb)) (Pre (Sp.Low (Sp.mkW qs.xs ps.xs sh.xs u b)) (K 0 [.b (decide (all <= Sp.total (Sp.mkW qs.xs ps.xs sh.xs u b))), .ro _ qs, .ro _ ps, .i all, .ro Zi sh, .l u])) (K 0 [.b false, .ro _ qs, .ro _ ps, .i all, .ro Zi sh, .l u])))
theorem Xkr (W : InW) (b qs ps all sh u K) : Ywu (cxT Try.prog TT T46 1000 50) 1000 56 [.ptr 1 0, .si .i64 b] [(1, .blk 89 [.rs _ qs, .rs _ ps, .si .i64 all, .rs _ sh, .rw 4]), (4, .arr 44 Ja u)] (fun v h => outC Xv.H [.ro _ qs, .ro _ ps, .i all, .ro _ sh, .l u] Xv.outs 0 false v h K) (fun v h => outC Xv.H [.ro _ qs, .ro _ ps, .i all, .ro _ sh, .l u] Xv.outs 0 true v h K) = Xed b qs ps all sh u K := by kernel_rfl
theorem Xl5 (hyp_ : ∀ (W : InW) b qs ps all sh u K, Xjs [.i b, .ro _ qs, .ro _ ps, .i all, .ro _ sh, .l u] K -> Xed b qs ps all sh u K) : ∀ W : InW, @CallC W Try.prog Xv :=
 CC.okOf (fun W => @TT W) (fun W => @Xe W) Xa T46 1000 50 Xv fun W b qs ps all sh u K hs => (Xkr W b qs ps all sh u K).mpr (hyp_ W b qs ps all sh u K hs)
theorem Xjz : ∀ W : InW, @CallC W Try.prog Xv := Xl5 fun W b qs ps all sh u K hs => by
 obtain ⟨⟨hb, hkey, hse⟩, hk⟩ := hs;have p2 := hkey.p2;have hl := Sp.mkW_len qs.xs ps.xs sh.xs u b;unfold Xed;delta Zi Zb;unfold Sp.psW Sp.passOf at hk;simp only [show Int.toNat 0 = 0 from rfl, Nat.sub_zero];refine ⟨⟨hb, hkey, hse⟩, ⟨⟨trivial, by omega, by omega, hl, by omega⟩, vif (fun e => ?_) fun e => ?_⟩⟩
 ·rw [e, Bool.and_true] at hk;exact ⟨Sp.mkW_low hkey, hk⟩
 ·rw [e, Bool.and_false] at hk;exact hk
def Xer [InW] (e : List Ed) (K : Nat -> List Ed -> Prop) : Prop := match e with
 | [.i q, .ro _ bx, .i n, .i j, .ro _ qz, .ro _ pz, .i az, .ro _ sh, .l acc] => Pre (n = bx.xs.length /\ 0 <= j /\ j <= n /\ 0 <= q /\ q <= 12 /\ n <= 4 /\ (acc.length : Int) <= 4 * q + j) (K 0 [.i q, .ro _ qz, .ro _ pz, .i az, .ro _ sh, .l (acc ++ Sp.unsRow bx.xs q j.toNat (bx.xs.length - j.toNat))])
 | _ => False
def Xf9 : LC where
 len := 71
 T := [(6, (.ptr 7 0)), (7, .int .i64), (41, .rs Jc), (42, .int .i64), (43, .int .i64)]
 H := [(7, .blk 89 [.rs Iv5, .rs Jc, .int .i64, .rs Jb, (.row 6)]), (6, .arr 44 Ja)]
 W := ([9, 10] ++ rg 44 19)
 outs := [⟨.exit 3, [(6, (.ptr 7 0)), (7, .int .i64)], [(7, .blk 89 [.rs Iv5, .rs Jc, .int .i64, .rs Jb, (.row 9)]), (9, .arr 44 Ja)], ([9, 10] ++ rg 41 22)⟩]
 spec := Xer
def Xdx [W : InW] (q : Int) (bx : Ro Jc) (n j : Int) (qz : Ro Iv5) (pz : Ro Jc) (az : Int) (sh : Ro Jb) (acc : Dt) (A : List Ed -> Prop) (K : Nat -> List Ed -> Prop) : Prop :=
 Vif (decide (j < n)) (Need (decide (0 <= j) && decide (j < (↑(bx.xs.length) : Int))) (Need (decide (j.toNat < bx.xs.length)) (Vif (decide ((cel bx.xs j.toNat (0 : Nat)).int = 2)) (Need (decide ((acc.length + [[Cl.i q, Cl.i j]].length) * 16 <= 140737488355328)) (Ar .i64 (j + 1) fun z => A [.i q, .ro _ bx, .i n, .i z, .ro _ qz, .ro _ pz, .i az, .ro Zi sh, .l (acc ++ [[Cl.i q, Cl.i j]])])) (Ar .i64 (j + 1) fun z => A [.i q, .ro _ bx, .i n, .i z, .ro _ qz, .ro _ pz, .i az, .ro Zi sh, .l acc])))) (K 0 [.i q, .ro _ qz, .ro _ pz, .i az, .ro Zi sh, .l acc])
theorem Xkb (W : InW) (q bx n j qz pz az sh acc A K) : Yfc { cxT Try.prog TT T0 1000 50 with fn := 76 } 1000 (Yn8 Try.prog 76 13) (Yd8 71 [(6, .ptr 7 0), (7, .si .i64 q), (41, .rs _ bx), (42, .si .i64 n), (43, .si .i64 j)] ([9, 10] ++ rg 44 19)) [(7, .blk 89 [.rs _ qz, .rs _ pz, .si .i64 az, .rs _ sh, .rw 6]), (6, .arr 44 Ja acc)] (Yug Xf9 A K) = Xdx q bx n j qz pz az sh acc A K := by kernel_rfl
def Xfl : Prop := ∀ (W : InW) (body a : Code), (Try.prog.funcs[76]?).bind (·.body) = some body -> a ∈ Y0 body -> Yfw a = 13 -> @Ymr W Try.prog a (@Yto W Xf9)
theorem Xlp (meas : [InW] -> List Ed -> Nat) (hyp_ : ∀ (W : InW) q bx n j qz pz az sh acc K, Xer [.i q, .ro _ bx, .i n, .i j, .ro _ qz, .ro _ pz, .i az, .ro _ sh, .l acc] K -> ∀ A : List Ed -> Prop, (∀ e, meas e < meas [.i q, .ro _ bx, .i n, .i j, .ro _ qz, .ro _ pz, .i az, .ro _ sh, .l acc] -> Xer e K -> A e) -> Xdx q bx n j qz pz az sh acc A K) : Xfl :=
 LE.okOf' (fun W => @TT W) (fun W => @Xe W) Xa T0 1000 50 (by kernel_rfl) Xf9 (fun W => @meas W) fun W q bx n j qz pz az sh acc K hs =>
  (Xkb W q bx n j qz pz az sh acc (fun e => meas e < meas [.i q, .ro _ bx, .i n, .i j, .ro _ qz, .ro _ pz, .i az, .ro _ sh, .l acc] /\ Xer e K) K).mpr (hyp_ W q bx n j qz pz az sh acc K hs _ fun e h1 h2 => ⟨h1, h2⟩)
theorem Xnx : Xfl := Xlp (fun e => match e with | [_, _, .i n, .i j, _, _, _, _, _] => (n - j).toNat | _ => 0) fun W q bx n j qz pz az sh acc K hs A hA => by
 obtain ⟨⟨rfl, h0, h1, h2, h3, h4, h5⟩, hk⟩ := hs;unfold Xdx;delta Zi;simp only [List.length_cons, List.length_nil];have ez : (j + 1).toNat = j.toNat + 1 := by omega
 have ej : ((j.toNat : Nat) : Int) = j := Int.toNat_of_nonneg h0
 by_cases hj : j < bx.xs.length
 ·rw [show bx.xs.length - j.toNat = (bx.xs.length - (j.toNat + 1)) + 1 by omega] at hk;simp only [Sp.unsRow, Sp.bx, ej] at hk
  by_cases c : (cel bx.xs j.toNat 0).int = 2
  ·simp only [c, if_true] at hk;rw [<- List.append_assoc] at hk;have hA' := hA [.i q, .ro _ bx, .i bx.xs.length, .i (j + 1), .ro _ qz, .ro _ pz, .i az, .ro _ sh, .l (acc ++ [[.i q, .i j]])] (show ((bx.xs.length : Int) - (j + 1)).toNat < ((bx.xs.length : Int) - j).toNat by omega) ⟨⟨rfl, by omega, by omega, h2, h3, h4, by simp; omega⟩, by rw [ez]; exact hk⟩;clear hA hk
   repeat' (first | omega|intro _|with_reducible first|apply vifd|apply vifn|apply vifq|apply Xd|apply Xc|apply vifb|apply vif|apply nedd|apply ned2|apply ned|apply ar64|apply Xb|exact True.intro|assumption|rfl|apply And.intro)
   all_goals first | contradiction | exact hA' | skip
  ·simp only [c, if_false, List.nil_append] at hk;have hA' := hA [.i q, .ro _ bx, .i bx.xs.length, .i (j + 1), .ro _ qz, .ro _ pz, .i az, .ro _ sh, .l acc] (show ((bx.xs.length : Int) - (j + 1)).toNat < ((bx.xs.length : Int) - j).toNat by omega) ⟨⟨rfl, by omega, by omega, h2, h3, h4, by omega⟩, by rw [ez]; exact hk⟩;clear hA hk
   repeat' (first | omega|intro _|with_reducible first|apply vifd|apply vifn|apply vifq|apply Xd|apply Xc|apply vifb|apply vif|apply nedd|apply ned2|apply ned|apply ar64|apply Xb|exact True.intro|assumption|rfl|apply And.intro)
   all_goals first | contradiction | exact hA' | skip
 ·rw [show bx.xs.length - j.toNat = 0 by omega] at hk;simp only [Sp.unsRow, List.append_nil] at hk;clear hA
  repeat' (first | omega|intro _|with_reducible first|apply vifd|apply vifn|apply vifq|apply Xd|apply Xc|apply vifb|apply vif|apply nedd|apply ned2|apply ned|apply ar64|apply Xb|exact True.intro|assumption|rfl|apply And.intro)
  all_goals exact hk
def Xop : LE Try.prog := ⟨76, 13, fun W => @Yto W Xf9, Xnx⟩
def T47 : Tab Try.prog := ⟨[Xct], [Xop], []⟩
def Xeq [InW] (e : List Ed) (K : Nat -> List Ed -> Prop) : Prop := match e with
 | [.ro _ s2, .i n, .i i, .ro _ qs, .ro _ ps, .i all, .ro _ qz, .ro _ pz, .i az, .ro _ sh, .l acc] => Pre (n = s2.xs.length /\ 0 <= i /\ i <= n /\ s2.xs.length = qs.xs.length /\ Sp.KeyOk qs.xs ps.xs all /\ (acc.length : Int) <= 4 * i) (Vif (Sp.hasE (Sp.rowE qs.xs s2.xs) i.toNat (s2.xs.length - i.toNat)) (K 1 [.i (Sp.rowE qs.xs s2.xs (Sp.idxE (Sp.rowE qs.xs s2.xs) i.toNat (s2.xs.length - i.toNat)))]) (K 0 [.ro _ qz, .ro _ pz, .i az, .ro _ sh, .l (acc ++ Sp.unsAll s2.xs i.toNat (s2.xs.length - i.toNat))]))
 | _ => False
def Xf8 : LC where
 len := 71
 T := [(2, (.ptr 1 0)), (6, (.ptr 7 0)), (21, .rs Jb), (22, .int .i64), (23, .int .i64)]
 H := [(1, .blk 25 [.rs Iv5, .rs Jc, .int .i64]), (7, .blk 89 [.rs Iv5, .rs Jc, .int .i64, .rs Jb, (.row 6)]), (6, .arr 44 Ja)]
 W := ([4, 5] ++ rg 7 4 ++ rg 24 40)
 outs := [⟨.exit 0, [(6, (.ptr 7 0))], [(7, .blk 89 [.rs Iv5, .rs Jc, .int .i64, .rs Jb, (.row 9)]), (9, .arr 44 Ja)], ([2, 4, 5] ++ rg 7 4 ++ rg 21 43)⟩, ⟨.ret, [(4, (.lit (.pointer none))), (5, .int .i64)], [], ([2] ++ rg 6 5 ++ rg 21 43)⟩]
 spec := Xeq
def Zk [W : InW] (s2 : Ro Jb) (i : Int) := (↑(List.length (cel s2.xs i.toNat (0 : Nat)).lst) : Int)
def Xdw [W : InW] (s2 : Ro Jb) (n i : Int) (qs : Ro Iv5) (ps : Ro Jc) (all : Int) (qz : Ro Iv5) (pz : Ro Jc) (az : Int) (sh : Ro Jb) (acc : Dt) (A : List Ed -> Prop) (K : Nat -> List Ed -> Prop) : Prop :=
 Vif (decide (i < n)) (Need (decide (0 <= i) && decide (i < (↑(s2.xs.length) : Int))) (Need (decide (i.toNat < s2.xs.length)) (Need (decide (0 <= i) && decide (i < (↑(qs.xs.length) : Int))) (Need (decide (i.toNat < qs.xs.length)) (Vif (!decide ((Zk s2 i) = (cel qs.xs i.toNat (0+1)).int)) (K (0+1) [.i (3 : Int)]) (Pre True (Vif (Sp.out Zb (2 : Int) (cel s2.xs i.toNat (0 : Nat)).lst) (K (0+1) [.i (7 : Int)]) (Pre ((Zk s2 i) = (Zk s2 i) /\ Zb <= 0 /\ Zb <= (Zk s2 i) /\ 0 <= i /\ i <= 12 /\ (Zk s2 i) <= 4 /\ (↑(acc.length) : Int) <= 4 * i + 0) (Ar .i64 (i + 1) fun z => A [.ro Zi s2, .i n, .i z, .ro _ qs, .ro _ ps, .i all, .ro _ qz, .ro _ pz, .i az, .ro Zi sh, .l (acc ++ Sp.unsRow (cel s2.xs i.toNat (0 : Nat)).lst i (Int.toNat Zb) (List.length (cel s2.xs i.toNat (0 : Nat)).lst - Int.toNat Zb))]))))))))) (K 0 [.ro _ qz, .ro _ pz, .i az, .ro Zi sh, .l acc])
theorem Xka (W : InW) (s2 n i qs ps all qz pz az sh acc A K) : Yfc { cxT Try.prog TT T47 1000 50 with fn := 76 } 1000 (Yn8 Try.prog 76 6) (Yd8 71 [(2, .ptr 1 0), (6, .ptr 7 0), (21, .rs _ s2), (22, .si .i64 n), (23, .si .i64 i)] ([4, 5] ++ rg 7 4 ++ rg 24 40)) [(1, .blk 25 [.rs _ qs, .rs _ ps, .si .i64 all]), (7, .blk 89 [.rs _ qz, .rs _ pz, .si .i64 az, .rs _ sh, .rw 6]), (6, .arr 44 Ja acc)] (Yug Xf8 A K) = Xdw s2 n i qs ps all qz pz az sh acc A K := by kernel_rfl
def Xfk : Prop := ∀ (W : InW) (body a : Code), (Try.prog.funcs[76]?).bind (·.body) = some body -> a ∈ Y0 body -> Yfw a = 6 -> @Ymr W Try.prog a (@Yto W Xf8)
theorem Xlo (meas : [InW] -> List Ed -> Nat) (hyp_ : ∀ (W : InW) s2 n i qs ps all qz pz az sh acc K, Xeq [.ro _ s2, .i n, .i i, .ro _ qs, .ro _ ps, .i all, .ro _ qz, .ro _ pz, .i az, .ro _ sh, .l acc] K -> ∀ A : List Ed -> Prop, (∀ e, meas e < meas [.ro _ s2, .i n, .i i, .ro _ qs, .ro _ ps, .i all, .ro _ qz, .ro _ pz, .i az, .ro _ sh, .l acc] -> Xeq e K -> A e) -> Xdw s2 n i qs ps all qz pz az sh acc A K) : Xfk :=
 LE.okOf' (fun W => @TT W) (fun W => @Xe W) Xa T47 1000 50 (by kernel_rfl) Xf8 (fun W => @meas W) fun W s2 n i qs ps all qz pz az sh acc K hs =>
  (Xka W s2 n i qs ps all qz pz az sh acc (fun e => meas e < meas [.ro _ s2, .i n, .i i, .ro _ qs, .ro _ ps, .i all, .ro _ qz, .ro _ pz, .i az, .ro _ sh, .l acc] /\ Xeq e K) K).mpr (hyp_ W s2 n i qs ps all qz pz az sh acc K hs _ fun e h1 h2 => ⟨h1, h2⟩)
theorem Xnw : Xfk := Xlo (fun e => match e with | .ro _ _ :: .i n :: .i i :: _ => (n - i).toNat | _ => 0) fun W s2 n i qs ps all qz pz az sh acc K hs A hA => by
 obtain ⟨⟨rfl, h0, h1, h2, hkey, h5⟩, hk⟩ := hs;have n2 := hkey.n2;unfold Xdw;delta Zi Zb Zk;simp only [show Int.toNat 0 = 0 from rfl, Nat.sub_zero, Nat.zero_add, show (cel s2.xs i.toNat 0).lst = Sp.row s2.xs i.toNat from rfl, show (cel qs.xs i.toNat 1).int = Sp.qBoxes qs.xs i.toNat from rfl];have ez : (i + 1).toNat = i.toNat + 1 := by omega
 have ei : ((i.toNat : Nat) : Int) = i := Int.toNat_of_nonneg h0
 by_cases hi : i < s2.xs.length
 ·have hb := hkey.boxes i.toNat (by omega);rw [show s2.xs.length - i.toNat = (s2.xs.length - (i.toNat + 1)) + 1 by omega] at hk;obtain ⟨g1, g2⟩ := Xc3 (K1 := fun _ e => K 1 [.i e]) hk;simp only [Sp.unsAll, ei] at g2;have hul := Sp.unsRow_len (Sp.row s2.xs i.toNat) i (Sp.row s2.xs i.toNat).length 0;have hA' : Sp.rowE qs.xs s2.xs i.toNat = 0 -> (Sp.row s2.xs i.toNat).length <= 4 -> A [.ro _ s2, .i s2.xs.length, .i (i + 1), .ro _ qs, .ro _ ps, .i all, .ro _ qz, .ro _ pz, .i az, .ro _ sh, .l (acc ++ Sp.unsRow (Sp.row s2.xs i.toNat) i 0 (Sp.row s2.xs i.toNat).length)] := fun f f4 => hA _ (by show ((s2.xs.length : Int) - (i + 1)).toNat < ((s2.xs.length : Int) - i).toNat; omega) ⟨⟨rfl, by omega, by omega, h2, hkey, by simp; omega⟩, by
   have g2 := g2 f;rw [<- List.append_assoc] at g2;rw [ez]; exact g2⟩
  clear hA hk g2;unfold Sp.rowE at hA' g1
  by_cases c : ((Sp.row s2.xs i.toNat).length : Int) = Sp.qBoxes qs.xs i.toNat
  ·have f4 : (Sp.row s2.xs i.toNat).length <= 4 := by omega
   rw [if_pos c] at hA' g1
   by_cases c2 : Sp.out 0 2 (Sp.row s2.xs i.toNat) = true
   ·rw [if_pos c2] at hA' g1;have g1 := g1 (by decide)
    repeat' (first | (with_reducible refine Xb trivial ?_) | (with_reducible refine Xb ⟨rfl, by omega, by omega, by omega, by omega, by omega, by omega⟩ ?_) | omega|intro _|with_reducible first|apply vifd|apply vifn|apply vifq|apply Xd|apply Xc|apply vifb|apply vif|apply nedd|apply ned2|apply ned|apply ar64|apply Xb|exact True.intro|assumption|rfl|apply And.intro)
    all_goals first | contradiction | exact g1 | skip
    all_goals (rw [c2] at *; contradiction)
   ·rw [if_neg c2] at hA' g1;have hA' := hA' rfl f4
    repeat' (first | (with_reducible refine Xb trivial ?_) | (with_reducible refine Xb ⟨rfl, by omega, by omega, by omega, by omega, by omega, by omega⟩ ?_) | omega|intro _|with_reducible first|apply vifd|apply vifn|apply vifq|apply Xd|apply Xc|apply vifb|apply vif|apply nedd|apply ned2|apply ned|apply ar64|apply Xb|exact True.intro|assumption|rfl|apply And.intro)
    all_goals first | contradiction | exact hA' | skip
  ·rw [if_neg c] at hA' g1;have g1 := g1 (by decide)
   repeat' (first | (with_reducible refine Xb trivial ?_) | omega|intro _|with_reducible first|apply vifd|apply vifn|apply vifq|apply Xd|apply Xc|apply vifb|apply vif|apply nedd|apply ned2|apply ned|apply ar64|apply Xb|exact True.intro|assumption|rfl|apply And.intro)
   all_goals first | contradiction | exact g1 | skip
 ·rw [show s2.xs.length - i.toNat = 0 by omega] at hk;simp only [Sp.unsAll, List.append_nil] at hk;clear hA
  repeat' (first | omega|intro _|with_reducible first|apply vifd|apply vifn|apply vifq|apply Xd|apply Xc|apply vifb|apply vif|apply nedd|apply ned2|apply ned|apply ar64|apply Xb|exact True.intro|assumption|rfl|apply And.intro)
  all_goals exact hk.2 rfl
def Xoo : LE Try.prog := ⟨76, 6, fun W => @Yto W Xf8, Xnw⟩
def T48 : Tab Try.prog := ⟨[Xct], [Xoo], []⟩
def Xjq [InW] (e : List Ed) (K : Nat -> List Ed -> Prop) : Prop := match e with
 | [.ro _ qs, .ro _ ps, .i all, .ro _ sh] => Pre (Sp.KeyOk qs.xs ps.xs all) (Vif (decide (Sp.shE qs.xs sh.xs = 0)) (K 1 [.ro _ qs, .ro _ ps, .i all, .ro _ sh, .l (Sp.uns sh.xs)]) (K 0 [.i (Sp.shE qs.xs sh.xs)]))
 | _ => False
def Xu : CC where
 g := 76
 args := [.agg [.rs Iv5, .rs Jc, .int .i64], .rs Jb]
 H := []
 outs := [⟨false, .tup [(.lit (.pointer none)), .int .i64], [], false⟩, ⟨false, .tup [(.ptr 6 0), (.lit (.int .i64 0))], [(6, .blk 89 [.rs Iv5, .rs Jc, .int .i64, .rs Jb, (.row 12)]), (12, .arr 44 Ja)], false⟩]
 spec := Xjq
def Xeb [W : InW] (qs : Ro Iv5) (ps : Ro Jc) (all : Int) (sh : Ro Jb) (K : Nat -> List Ed -> Prop) : Prop :=
 Vif (!decide ((↑(sh.xs.length) : Int) = (↑(qs.xs.length) : Int))) (K 0 [.i (3 : Int)]) (Pre ((↑(sh.xs.length) : Int) = (↑(sh.xs.length) : Int) /\ Zb <= 0 /\ Zb <= (↑(sh.xs.length) : Int) /\ sh.xs.length = qs.xs.length /\ Sp.KeyOk qs.xs ps.xs all /\ (↑(0 : Nat) : Int) <= 4 * 0) (Vif (Sp.hasE (Sp.rowE qs.xs sh.xs) Za (sh.xs.length - Int.toNat Zb)) (K 0 [.i (Sp.rowE qs.xs sh.xs (Sp.idxE (Sp.rowE qs.xs sh.xs) Za (sh.xs.length - Int.toNat Zb)))]) (Vif (decide ((7 : Int) < (↑(List.length (Sp.unsAll sh.xs Za (sh.xs.length - Int.toNat Zb))) : Int))) (K 0 [.i (3 : Int)]) (K (0+1) [.ro _ qs, .ro _ ps, .i all, .ro Zi sh, .l (Sp.unsAll sh.xs Za (sh.xs.length - Int.toNat Zb))]))))
theorem Xkp (W : InW) (qs ps all sh K) : Ywu (cxT Try.prog TT T48 1000 50) 1000 76 [.agg [.rs _ qs, .rs _ ps, .si .i64 all], .rs _ sh] [] (fun v h => outC Xu.H [] Xu.outs 0 false v h K) (fun v h => outC Xu.H [] Xu.outs 0 true v h K) = Xeb qs ps all sh K := by kernel_rfl
theorem Xl3 (hyp_ : ∀ (W : InW) qs ps all sh K, Xjq [.ro _ qs, .ro _ ps, .i all, .ro _ sh] K -> Xeb qs ps all sh K) : ∀ W : InW, @CallC W Try.prog Xu :=
 CC.okOf (fun W => @TT W) (fun W => @Xe W) Xa T48 1000 50 Xu fun W qs ps all sh K hs => (Xkp W qs ps all sh K).mpr (hyp_ W qs ps all sh K hs)
theorem Xjy : ∀ W : InW, @CallC W Try.prog Xu := Xl3 fun W qs ps all sh K hs => by
 obtain ⟨hkey, hk⟩ := hs;unfold Xeb;delta Za Zb Zi;simp only [show Int.toNat 0 = 0 from rfl, Nat.sub_zero];have k0 : ∀ e, Sp.shE qs.xs sh.xs = e -> e ≠ 0 -> K 0 [.i e] := fun e h1 h2 => by
  have := hk.2 (decide_eq_false (by omega));rw [h1] at this; exact this
 have k1 : Sp.shE qs.xs sh.xs = 0 -> K 1 [.ro _ qs, .ro _ ps, .i all, .ro _ sh, .l (Sp.uns sh.xs)] := fun h => hk.1 (decide_eq_true h);clear hk;unfold Sp.shE at k0 k1;refine vifn (fun e => k0 3 (by rw [if_neg e]) (by decide)) fun e => ⟨⟨trivial, by omega, by omega, by omega, hkey, by omega⟩, ?_⟩;rw [if_pos e] at k0 k1;refine vif (fun e1 => ?_) fun e1 => ?_
 ·rw [if_pos e1] at k0;exact k0 _ rfl (Sp.hasE_ix e1).2.2
 ·rw [if_neg (by simp [e1])] at k0 k1;have hu : Sp.unsAll sh.xs 0 sh.xs.length = Sp.uns sh.xs := rfl;rw [hu];refine vifd (fun e2 => k0 3 (by rw [if_pos (by omega)]) (by decide)) fun e2 => k1 (by rw [if_neg (by omega)])
def T49 : Tab Try.prog := ⟨[Xbc], [], [ceOf Xu Xjy]⟩
def Xgy [InW] (e : List Ed) (K : Nat -> List Ed -> Prop) : Prop := match e with
 | [.ro _ qs, .ro _ ps, .i all, .ro _ sh] => Vif (decide (Sp.askE qs.xs ps.xs all sh.xs = 0)) (K 1 [.ro _ qs, .ro _ ps, .i all, .ro _ sh, .l (Sp.uns sh.xs)]) (K 0 [.i (Sp.askE qs.xs ps.xs all sh.xs)])
 | _ => False
def Xg : CC where
 g := 54
 args := [.agg [.rs Iv5, .rs Jc, .int .i64], .rs Jb]
 H := []
 outs := [⟨false, .tup [(.lit (.pointer none)), .int .i64], [], false⟩, ⟨false, .tup [(.ptr 6 0), (.lit (.int .i64 0))], [(6, .blk 89 [.rs Iv5, .rs Jc, .int .i64, .rs Jb, (.row 12)]), (12, .arr 44 Ja)], false⟩]
 spec := Xgy
def Xcq [W : InW] (qs : Ro Iv5) (ps : Ro Jc) (all : Int) (sh : Ro Jb) (K : Nat -> List Ed -> Prop) : Prop :=
 Pre True (Vif (!decide (Sp.chkE qs.xs ps.xs all = 0)) (K 0 [.i (Sp.chkE qs.xs ps.xs all)]) (Pre (Sp.KeyOk qs.xs ps.xs all) (Vif (decide (Sp.shE qs.xs sh.xs = 0)) (K (0+1) [.ro _ qs, .ro _ ps, .i all, .ro [Ty.sl [Ty.int IntKind.i64]] sh, .l (Sp.uns sh.xs)]) (K 0 [.i (Sp.shE qs.xs sh.xs)]))))
theorem Xia (W : InW) (qs ps all sh K) : Ywu (cxT Try.prog TT T49 1000 50) 1000 54 [.agg [.rs _ qs, .rs _ ps, .si .i64 all], .rs _ sh] [] (fun v h => outC Xg.H [] Xg.outs 0 false v h K) (fun v h => outC Xg.H [] Xg.outs 0 true v h K) = Xcq qs ps all sh K := by kernel_rfl
theorem Xi6 (hyp_ : ∀ (W : InW) qs ps all sh K, Xgy [.ro _ qs, .ro _ ps, .i all, .ro _ sh] K -> Xcq qs ps all sh K) : ∀ W : InW, @CallC W Try.prog Xg :=
 CC.okOf (fun W => @TT W) (fun W => @Xe W) Xa T49 1000 50 Xg fun W qs ps all sh K hs => (Xia W qs ps all sh K).mpr (hyp_ W qs ps all sh K hs)
theorem Xbd : ∀ W : InW, @CallC W Try.prog Xg := Xi6 fun W qs ps all sh K hs => by
 have k0 : ∀ e, Sp.askE qs.xs ps.xs all sh.xs = e -> e ≠ 0 -> K 0 [.i e] := fun e h1 h2 => by
  have := hs.2 (decide_eq_false (by omega));rw [h1] at this; exact this
 have k1 : Sp.askE qs.xs ps.xs all sh.xs = 0 -> K 1 [.ro _ qs, .ro _ ps, .i all, .ro _ sh, .l (Sp.uns sh.xs)] := fun h => hs.1 (decide_eq_true h);clear hs;unfold Sp.askE at k0 k1;unfold Xcq;refine ⟨trivial, vifn (fun e => k0 _ (by rw [if_neg e]) e) fun e => ⟨Sp.chkE_iff.1 e, ?_⟩⟩;rw [if_pos e] at k0 k1;exact vifd (fun e1 => k1 e1) fun e1 => k0 _ rfl e1
def T50 : Tab Try.prog := ⟨[], [], [ceOf Xg Xbd, ceOf Xo Xhk, ceOf Xv Xjz]⟩
def Xdi [W : InW] (kQ : Ro Iv5) (kP : Ro Jc) (kA : Int) (sh : Ro Jb) (Q : DS -> Prop) : Prop :=
 Vif (decide (Sp.askE kQ.xs kP.xs kA sh.xs = 0)) (Vif (decide (Zb < (↑(List.length (Sp.uns sh.xs)) : Int))) (Q [[Cl.l []], [Cl.b false], [Cl.i 2]]) (Pre (Zb <= 0 /\ Sp.KeyOk kQ.xs kP.xs kA /\ Sp.SeOk kQ.xs sh.xs (Sp.uns sh.xs)) (Pre (Zb <= 0 /\ Sp.KeyOk kQ.xs kP.xs kA /\ Sp.SeOk kQ.xs sh.xs (Sp.uns sh.xs)) (Q [[Cl.l (Sp.mkW kQ.xs kP.xs sh.xs (Sp.uns sh.xs) Zb)], [Cl.b (Sp.psW kQ.xs kP.xs kA sh.xs (Sp.uns sh.xs) Zb)], [Cl.i 0]])))) (Vif (!decide (Sp.askE kQ.xs kP.xs kA sh.xs = 0)) (Q [[Cl.l []], [Cl.b false], [Cl.i (Sp.askE kQ.xs kP.xs kA sh.xs)]]) ((16 : Nat) = 16 + 1))
theorem Xkz (W : InW) (kQ kP kA sh Q) : Ywx (cxT Try.prog TT T50 1000 50) 1000 19 [.agg [.rs _ kQ, .rs _ kP, .si .i64 kA], .rs _ sh] [] 0 (Y04 [(false, [.row 3 Jc]), (false, [.bool]), (false, [.int .i64])] Q) (fun _ _ _ _ => Stuck 421) = Xdi kQ kP kA sh Q := by kernel_rfl
abbrev Xb8 : List AT := [.agg [.sl Iv5, .sl Jc, .int .i64], .one (.sl Jb)]
theorem Xme {pre : DS -> Prop} {res : DS -> DS} (hyp_ : ∀ (W : InW) (kQ : Ro Iv5) (kP : Ro Jc) (kA : Int) (sh : Ro Jb), pre [[.l kQ.xs, .l kP.xs, .i kA], [.l sh.xs]] -> ∀ Q : DS -> Prop, Q (res [[.l kQ.xs, .l kP.xs, .i kA], [.l sh.xs]]) -> Xdi kQ kP kA sh Q) : PureOk Try.prog 19 Xb8 [(false, [.row 3 Jc]), (false, [.bool]), (false, [.int .i64])] pre res :=
 PureOk.of' (fun W => @TT W) (fun W => @Xe W) Xa T50 1000 50 fun W kQ kP kA sh hp =>
  (Xkz W kQ kP kA sh (fun o => o = res [[.l kQ.xs, .l kP.xs, .i kA], [.l sh.xs]])).mpr (hyp_ W kQ kP kA sh hp _ rfl)
def rfIn : Code -> List LI
 | .seq a b => rfIn a ++ rfIn b
 | .cond _ a b => rfIn a ++ rfIn b
 | .block _ a => rfIn a
 | .loop a => rfIn a
 | .scope a => rfIn a
 | .rangeFunc _ ps asg b => ⟨.ready, none, ps, asg, b⟩ :: rfIn b
 | _ => []
def lpAt (P : Program) (g : FuncId) (k : Nat) : LI := (rfIn (Yjr P g)).getD k ⟨.ready, none, #[], .skip, .skip⟩
abbrev LPth : LI := lpAt Try.prog 60 0
namespace Sp
def psB (qs ps : Dt) (all : Int) (sh u : Dt) (k : Nat) : Bool := psW qs ps all sh u k
end Sp
def T60 : Tab Try.prog := ⟨[], [], [ceOf Xv Xjz]⟩
def Xen [InW] (e : List Ed) (K : Nat -> List Ed -> Prop) : Prop := match e with
 | [.i n, .i i, .ro _ qs, .ro _ ps, .i all, .ro _ sh, .l u, .b so, .b al] => Pre (0 <= i /\ i <= n /\ n <= 1000 /\ Sp.KeyOk qs.xs ps.xs all /\ Sp.SeOk qs.xs sh.xs u) (K 0 [.ro _ qs, .ro _ ps, .i all, .ro _ sh, .l u, .b (so || Sp.anyF (Sp.psB qs.xs ps.xs all sh.xs u) i.toNat (n - i).toNat), .b (al && Sp.allF (Sp.psB qs.xs ps.xs all sh.xs u) i.toNat (n - i).toNat)])
 | _ => False
def Xf5 : LC where
 len := 18
 T := [(0, (.yl 1)), (1, (.ptr 10 0)), (9, .int .i64), (10, .int .i64)]
 H := [(1, .lp LPth [(.opq 1501), (.opq 1504), (.opq 1507), (.opq 1510), (.ptr 13 0), (.ptr 16 0), (.ptr 19 0), (.opq 318), (.opq 321), (.opq 1528), (.opq 327), (.opq 330), (.opq 333), (.opq 336), (.opq 339), (.opq 342), (.opq 345), (.opq 348), (.opq 351), (.opq 354), (.opq 357), (.opq 360), (.opq 1567), (.opq 1570)]), (10, .blk 85 [(.ptr 4 0)]), (4, .blk 89 [.rs Iv5, .rs Jc, .int .i64, .rs Jb, (.row 7)]), (7, .arr 44 Ja), (13, .blk 84 [(.fn (.func 56) [(.ptr 4 0)] [])]), (16, .blk 4 [.bool]), (19, .blk 4 [.bool])]
 W := ([3] ++ rg 11 7)
 outs := [⟨.exit 0, [], [(1, .lp LPth [(.opq 1501), (.opq 1504), (.opq 1507), (.opq 1510), (.ptr 13 0), (.ptr 16 0), (.ptr 19 0), (.opq 618), (.opq 621), (.opq 1528), (.opq 627), (.opq 630), (.opq 633), (.opq 636), (.opq 639), (.opq 642), (.opq 645), (.opq 648), (.opq 651), (.opq 654), (.opq 657), (.opq 660), (.opq 1567), (.opq 1570)]), (618, .dead), (621, .dead), (627, .dead), (630, .dead), (633, .dead), (636, .dead), (639, .dead), (642, .dead), (645, .dead), (648, .dead), (651, .dead), (654, .dead), (657, .dead), (660, .dead), (10, .blk 85 [(.ptr 4 0)]), (4, .blk 89 [.rs Iv5, .rs Jc, .int .i64, .rs Jb, (.row 7)]), (7, .arr 44 Ja), (13, .blk 84 [(.fn (.func 56) [(.ptr 4 0)] [])]), (16, .blk 4 [.bool]), (19, .blk 4 [.bool])], ([0, 1, 3] ++ rg 9 9)⟩]
 spec := Xen
def Xdt [W : InW] (n i : Int) (qs : Ro Iv5) (ps : Ro Jc) (all : Int) (sh : Ro Jb) (u : Dt) (so al : Bool) (A : List Ed -> Prop) (K : Nat -> List Ed -> Prop) : Prop :=
 Vif (decide (i < n)) (Pre (0 <= i /\ Sp.KeyOk qs.xs ps.xs all /\ Sp.SeOk qs.xs sh.xs u) (Vif so (Vif al (Ar .i64 (i + 1) fun z => PreL LPth LPth (A [.i n, .i z, .ro _ qs, .ro _ ps, .i all, .ro Zi sh, .l u, .b true, .b (Sp.psW qs.xs ps.xs all sh.xs u i)])) (Ar .i64 (i + 1) fun z => PreL LPth LPth (A [.i n, .i z, .ro _ qs, .ro _ ps, .i all, .ro Zi sh, .l u, .b true, .b false]))) (Vif al (Ar .i64 (i + 1) fun z => PreL LPth LPth (A [.i n, .i z, .ro _ qs, .ro _ ps, .i all, .ro Zi sh, .l u, .b (Sp.psW qs.xs ps.xs all sh.xs u i), .b (Sp.psW qs.xs ps.xs all sh.xs u i)])) (Ar .i64 (i + 1) fun z => PreL LPth LPth (A [.i n, .i z, .ro _ qs, .ro _ ps, .i all, .ro Zi sh, .l u, .b (Sp.psW qs.xs ps.xs all sh.xs u i), .b false]))))) (PreL LPth LPth (K 0 [.ro _ qs, .ro _ ps, .i all, .ro Zi sh, .l u, .b so, .b al]))
theorem Xj7 (W : InW) (n i qs ps all sh u so al A K) : Yfc { cxT Try.prog TT T60 1000 50 with fn := 83 } 1000 (Yn8 Try.prog 83 2) (Yd8 18 [(0, .yl 1), (1, .ptr 10 0), (9, .si .i64 n), (10, .si .i64 i)] ([3] ++ rg 11 7)) [(1, .lp LPth [.opq 1501, .opq 1504, .opq 1507, .opq 1510, .ptr 13 0, .ptr 16 0, .ptr 19 0, .opq 318, .opq 321, .opq 1528, .opq 327, .opq 330, .opq 333, .opq 336, .opq 339, .opq 342, .opq 345, .opq 348, .opq 351, .opq 354, .opq 357, .opq 360, .opq 1567, .opq 1570]), (10, .blk 85 [.ptr 4 0]), (4, .blk 89 [.rs _ qs, .rs _ ps, .si .i64 all, .rs _ sh, .rw 7]), (7, .arr 44 Ja u), (13, .blk 84 [.fn (.func 56) [.ptr 4 0] []]), (16, .blk 4 [.sb so]), (19, .blk 4 [.sb al])] (Yug Xf5 A K) = Xdt n i qs ps all sh u so al A K := by kernel_rfl
def Xfh : Prop := ∀ (W : InW) (body a : Code), (Try.prog.funcs[83]?).bind (·.body) = some body -> a ∈ Y0 body -> Yfw a = 2 -> @Ymr W Try.prog a (@Yto W Xf5)
theorem Xll (meas : [InW] -> List Ed -> Nat) (hyp_ : ∀ (W : InW) n i qs ps all sh u so al K, Xen [.i n, .i i, .ro _ qs, .ro _ ps, .i all, .ro _ sh, .l u, .b so, .b al] K -> ∀ A : List Ed -> Prop, (∀ e, meas e < meas [.i n, .i i, .ro _ qs, .ro _ ps, .i all, .ro _ sh, .l u, .b so, .b al] -> Xen e K -> A e) -> Xdt n i qs ps all sh u so al A K) : Xfh :=
 LE.okOf' (fun W => @TT W) (fun W => @Xe W) Xa T60 1000 50 (by kernel_rfl) Xf5 (fun W => @meas W) fun W n i qs ps all sh u so al K hs =>
  (Xj7 W n i qs ps all sh u so al (fun e => meas e < meas [.i n, .i i, .ro _ qs, .ro _ ps, .i all, .ro _ sh, .l u, .b so, .b al] /\ Xen e K) K).mpr (hyp_ W n i qs ps all sh u so al K hs _ fun e h1 h2 => ⟨h1, h2⟩)
theorem Xnt : Xfh := Xll (fun e => match e with | .i n :: .i i :: _ => (n - i).toNat | _ => 0) fun W n i qs ps all sh u so al K hs A hA => by
 obtain ⟨⟨h0, h1, h2, hkey, hse⟩, hk⟩ := hs;unfold Xdt;delta Zi;have ez : (i + 1).toNat = i.toNat + 1 := by omega
 have ei : ((i.toNat : Nat) : Int) = i := Int.toNat_of_nonneg h0
 by_cases hi : i < n
 ·rw [show (n - i).toNat = (n - (i + 1)).toNat + 1 by omega] at hk;have hA' : ∀ c d, c = (so || Sp.psW qs.xs ps.xs all sh.xs u i) -> d = (al && Sp.psW qs.xs ps.xs all sh.xs u i) -> A [.i n, .i (i + 1), .ro _ qs, .ro _ ps, .i all, .ro _ sh, .l u, .b c, .b d] := fun c d hc hd => hA _ (show (n - (i + 1)).toNat < (n - i).toNat by omega) ⟨⟨by omega, by omega, h2, hkey, hse⟩, by
   simp only [Sp.anyF, Sp.allF, Sp.psB, ei] at hk;rw [ez, hc, hd, Bool.or_assoc, Bool.and_assoc];exact hk⟩
  clear hA hk
  repeat' (first | (with_reducible refine Xb ⟨h0, hkey, hse⟩ ?_) | (refine ⟨rfl, ?_⟩; done) | omega|intro _|with_reducible first|apply vifd|apply vifn|apply vifq|apply Xd|apply Xc|apply vifb|apply vif|apply nedd|apply ned2|apply ned|apply ar64|apply Xb|exact True.intro|assumption|rfl|apply And.intro)
  all_goals first | contradiction | (refine ⟨rfl, ?_⟩; refine hA' _ _ ?_ ?_ <;> simp [*]; done) | skip
 ·rw [show (n - i).toNat = 0 by omega] at hk;simp only [Sp.allF, Sp.anyF, Bool.and_true, Bool.or_false] at hk;clear hA
  repeat' (first | omega|intro _|with_reducible first|apply vifd|apply vifn|apply vifq|apply Xd|apply Xc|apply vifb|apply vif|apply nedd|apply ned2|apply ned|apply ar64|apply Xb|exact True.intro|assumption|rfl|apply And.intro)
  all_goals exact ⟨rfl, hk⟩
def Xol : LE Try.prog := ⟨83, 2, fun W => @Yto W Xf5, Xnt⟩
def T61 : Tab Try.prog := ⟨[], [Xol], []⟩
def Xgx [InW] (e : List Ed) (K : Nat -> List Ed -> Prop) : Prop := match e with
 | [.ro _ qs, .ro _ ps, .i all, .ro _ sh, .l u] => Pre (Sp.KeyOk qs.xs ps.xs all /\ Sp.SeOk qs.xs sh.xs u /\ u.length <= 7) (K 0 [.b (Sp.anyF (Sp.psB qs.xs ps.xs all sh.xs u) 0 (2 ^ u.length)), .b (Sp.allF (Sp.psB qs.xs ps.xs all sh.xs u) 0 (2 ^ u.length)), .ro _ qs, .ro _ ps, .i all, .ro _ sh, .l u])
 | _ => False
def Xl : CC where
 g := 60
 args := [(.fn (.func 83) [] [(.ptr 10 0)]), (.fn (.func 56) [(.ptr 4 0)] [])]
 H := [(10, .blk 85 [(.ptr 4 0)]), (4, .blk 89 [.rs Iv5, .rs Jc, .int .i64, .rs Jb, (.row 7)]), (7, .arr 44 Ja)]
 outs := [⟨false, .tup [.bool, .bool], [(10, .blk 85 [(.ptr 4 0)]), (4, .blk 89 [.rs Iv5, .rs Jc, .int .i64, .rs Jb, (.row 7)]), (7, .arr 44 Ja)], false⟩]
 spec := Xgx
def Xcp [W : InW] (qs : Ro Iv5) (ps : Ro Jc) (all : Int) (sh : Ro Jb) (u : Dt) (K : Nat -> List Ed -> Prop) : Prop :=
 Need (decide ((0 : Int) <= (↑(u.length) : Int))) (Ar .i64 ((1 : Int) * 2 ^ min (↑(u.length) : Int).toNat (64 : Nat)) fun z => PreL LPth LPth (Pre ((0 : Int) <= 0 /\ 0 <= z /\ z <= 1000 /\ Sp.KeyOk qs.xs ps.xs all /\ Sp.SeOk qs.xs sh.xs u) (K 0 [.b (false || Sp.anyF (Sp.psB qs.xs ps.xs all sh.xs u) Za (z - 0).toNat), .b (true && Sp.allF (Sp.psB qs.xs ps.xs all sh.xs u) Za (z - 0).toNat), .ro _ qs, .ro _ ps, .i all, .ro Zi sh, .l u])))
theorem Xh9 (W : InW) (qs ps all sh u K) : Ywu (cxT Try.prog TT T61 1000 50) 1000 60 [.fn (.func 83) [] [.ptr 10 0], .fn (.func 56) [.ptr 4 0] []] [(10, .blk 85 [.ptr 4 0]), (4, .blk 89 [.rs _ qs, .rs _ ps, .si .i64 all, .rs _ sh, .rw 7]), (7, .arr 44 Ja u)] (fun v h => outC Xl.H [.ro _ qs, .ro _ ps, .i all, .ro _ sh, .l u] Xl.outs 0 false v h K) (fun v h => outC Xl.H [.ro _ qs, .ro _ ps, .i all, .ro _ sh, .l u] Xl.outs 0 true v h K) = Xcp qs ps all sh u K := by kernel_rfl
theorem Xi5 (hyp_ : ∀ (W : InW) qs ps all sh u K, Xgx [.ro _ qs, .ro _ ps, .i all, .ro _ sh, .l u] K -> Xcp qs ps all sh u K) : ∀ W : InW, @CallC W Try.prog Xl :=
 CC.okOf (fun W => @TT W) (fun W => @Xe W) Xa T61 1000 50 Xl fun W qs ps all sh u K hs => (Xh9 W qs ps all sh u K).mpr (hyp_ W qs ps all sh u K hs)
theorem Xn {n : Nat} (h : n <= 7) : (1 : Int) * 2 ^ min ((n : Nat) : Int).toNat 64 = ((2 ^ n : Nat) : Int) /\ 1 <= 2 ^ n /\ 2 ^ n <= 128 := by
 have h1 : min ((n : Nat) : Int).toNat 64 = n := by rw [Int.toNat_natCast]; omega
 refine ⟨by rw [h1, Int.one_mul]; norm_cast, Nat.one_le_two_pow, ?_⟩;exact Nat.le_trans (Nat.pow_le_pow_right (by decide) h) (by decide)
theorem Xmo : ∀ W : InW, @CallC W Try.prog Xl := Xi5 fun W qs ps all sh u K hs => by
 obtain ⟨⟨hkey, hse, h7⟩, hk⟩ := hs;unfold Xcp;delta Za Zi Zb;obtain ⟨p1, p2, p3⟩ := Xn h7;rw [p1];simp only [show Int.toNat 0 = 0 from rfl, Int.sub_zero, Bool.true_and, Bool.false_or];refine nedd (by omega) (ar64 (by omega) ⟨rfl, ⟨by omega, by omega, by omega, hkey, hse⟩, ?_⟩);rw [Int.toNat_natCast];exact hk
def T62 : Tab Try.prog := ⟨[Xg7], [], [ceOf Xg Xbd, ceOf Xl Xmo]⟩
def Xdh [W : InW] (kQ : Ro Iv5) (kP : Ro Jc) (kA : Int) (sh : Ro Jb) (Q : DS -> Prop) : Prop :=
 Vif (decide (Sp.askE kQ.xs kP.xs kA sh.xs = 0)) (Pre (Sp.KeyOk kQ.xs kP.xs kA /\ Sp.SeOk kQ.xs sh.xs (Sp.uns sh.xs) /\ List.length (Sp.uns sh.xs) <= 7) (Pre True (Q [[Cl.i (Sp.ocB (Sp.anyF (Sp.psB kQ.xs kP.xs kA sh.xs (Sp.uns sh.xs)) (0 : Nat) ((2 : Nat) ^ List.length (Sp.uns sh.xs))) (Sp.allF (Sp.psB kQ.xs kP.xs kA sh.xs (Sp.uns sh.xs)) (0 : Nat) ((2 : Nat) ^ List.length (Sp.uns sh.xs))))], [Cl.i 0]]))) (Vif (!decide (Sp.askE kQ.xs kP.xs kA sh.xs = 0)) (Q [[Cl.i 0], [Cl.i (Sp.askE kQ.xs kP.xs kA sh.xs)]]) ((16 : Nat) = 16 + 1))
theorem Xky (W : InW) (kQ kP kA sh Q) : Ywx (cxT Try.prog TT T62 1000 50) 1000 23 [.agg [.rs _ kQ, .rs _ kP, .si .i64 kA], .rs _ sh] [] 0 (Y04 [(false, [.int .i64]), (false, [.int .i64])] Q) (fun _ _ _ _ => Stuck 421) = Xdh kQ kP kA sh Q := by kernel_rfl
abbrev Xb7 : List AT := [.agg [.sl Iv5, .sl Jc, .int .i64], .one (.sl Jb)]
theorem Xmd {pre : DS -> Prop} {res : DS -> DS} (hyp_ : ∀ (W : InW) (kQ : Ro Iv5) (kP : Ro Jc) (kA : Int) (sh : Ro Jb), pre [[.l kQ.xs, .l kP.xs, .i kA], [.l sh.xs]] -> ∀ Q : DS -> Prop, Q (res [[.l kQ.xs, .l kP.xs, .i kA], [.l sh.xs]]) -> Xdh kQ kP kA sh Q) : PureOk Try.prog 23 Xb7 [(false, [.int .i64]), (false, [.int .i64])] pre res :=
 PureOk.of' (fun W => @TT W) (fun W => @Xe W) Xa T62 1000 50 fun W kQ kP kA sh hp =>
  (Xky W kQ kP kA sh (fun o => o = res [[.l kQ.xs, .l kP.xs, .i kA], [.l sh.xs]])).mpr (hyp_ W kQ kP kA sh hp _ rfl)
namespace Sp
def mk1 (d : Dt) (k : Nat) : Bool := decide (bx d k = 1)
theorem ansD_pos (d : Dt) : ∀ n i a, 0 <= a -> ansD d i n a = anyF (mk1 d) i n
 | 0, _, _, _ => rfl
 | n + 1, i, a, h => by
  simp only [ansD, anyF, mk1]
  by_cases e : bx d i = 1
  ·simp [e, h]
  ·simp [e]; exact ansD_pos d n (i + 1) a h
theorem ansL_none (d : Dt) : ∀ n i a, anyF (mk1 d) i n = false -> ansL d i n a = a
 | 0, _, _, _ => rfl
 | n + 1, i, a, h => by
  simp only [anyF, Bool.or_eq_false_iff, mk1, decide_eq_false_iff_not] at h;simp only [ansL, if_neg h.1];exact ansL_none d n (i + 1) a h.2
theorem ansD_neg (d : Dt) : ∀ n i, ansD d i n (-1) = (anyF (mk1 d) i n && anyF (mk1 d) (fstF (mk1 d) i n + 1) (i + n - (fstF (mk1 d) i n + 1)))
 | 0, _ => rfl
 | n + 1, i => by
  by_cases e : bx d i = 1
  ·have e2 : mk1 d i = true := decide_eq_true e;simp only [ansD, anyF, fstF, e, if_true, e2, Bool.true_or, Bool.true_and];rw [if_neg (by decide), ansD_pos d n (i + 1) i (by omega), show i + (n + 1) - (i + 1) = n by omega]
  ·have e2 : mk1 d i = false := decide_eq_false e;simp only [ansD, anyF, fstF, e, if_false, e2, Bool.false_or, Bool.false_eq_true];rw [ansD_neg d n (i + 1), show i + (n + 1) = i + 1 + n by omega]
theorem ansL_neg (d : Dt) : ∀ n i, ansD d i n (-1) = false -> anyF (mk1 d) i n = true -> ansL d i n (-1) = fstF (mk1 d) i n
 | 0, _, _, h => by simp [anyF] at h
 | n + 1, i, h, h2 => by
  by_cases e : bx d i = 1
  ·have e2 : mk1 d i = true := decide_eq_true e;simp only [ansD, e, if_true] at h;rw [if_neg (by decide), ansD_pos d n (i + 1) i (by omega)] at h;simp only [ansL, e, if_true, fstF, e2];exact ansL_none d n (i + 1) i h
  ·have e2 : mk1 d i = false := decide_eq_false e;simp only [ansD, e, if_false] at h;simp only [anyF, e2, Bool.false_or] at h2;simp only [ansL, e, if_false, fstF, e2, Bool.false_eq_true];exact ansL_neg d n (i + 1) h h2
theorem anyF_shift (g : Nat -> Bool) (s : Nat) : ∀ n i, anyF (fun k => g (s + k)) i n = anyF g (s + i) n
 | 0, _ => rfl
 | n + 1, i => by simp only [anyF, anyF_shift g s n (i + 1), Nat.add_assoc]
theorem eqI_mk1 (d : Dt) : eqI d 1 = mk1 d := by
 funext k
 unfold eqI mk1 bx num;exact decide_eq_decide.2 ⟨fun h => h.symm, fun h => h.symm⟩
theorem idxOf_ge (d : Dt) : (0 <= idxOf d 1) ↔ anyF (mk1 d) 0 d.length = true := by
 unfold idxOf;rw [eqI_mk1]
 split
 ·rename_i h; exact ⟨fun _ => h, fun _ => by omega⟩
 ·rename_i h; exact ⟨fun c => by omega, fun c => absurd c h⟩
theorem ansX_of (d : Dt) : ansX d = ansOf d := by
 unfold ansX ansOf;rw [ansD_neg]
 by_cases h : anyF (mk1 d) 0 d.length = true
 ·have hi : idxOf d 1 = (fstF (mk1 d) 0 d.length : Nat) := by unfold idxOf; rw [eqI_mk1, if_pos h]
  have hf := fstF_spec h;have e1 : (idxOf d 1 + 1).toNat = fstF (mk1 d) 0 d.length + 1 := by rw [hi]; omega
  have e2 : (0 <= idxOf (d.drop (fstF (mk1 d) 0 d.length + 1)) 1) ↔ anyF (mk1 d) (fstF (mk1 d) 0 d.length + 1) (0 + d.length - (fstF (mk1 d) 0 d.length + 1)) = true := by
   rw [idxOf_ge, List.length_drop, Nat.zero_add];have : mk1 (d.drop (fstF (mk1 d) 0 d.length + 1)) = fun k => mk1 d (fstF (mk1 d) 0 d.length + 1 + k) := by
    funext k
    unfold mk1 bx cel;simp only [List.getD_eq_getElem?_getD, List.getElem?_drop]
   rw [this, anyF_shift, Nat.add_zero]
  rw [h, Bool.true_and]
  by_cases c : anyF (mk1 d) (fstF (mk1 d) 0 d.length + 1) (0 + d.length - (fstF (mk1 d) 0 d.length + 1)) = true
  ·rw [if_pos ⟨by omega, by rw [e1]; exact e2.2 c⟩, if_pos c]
  ·rw [if_neg (fun x => c (e2.1 (by rw [e1] at x; exact x.2))), if_neg c];have hL := ansL_neg d d.length 0 (by rw [ansD_neg, h, Bool.true_and]; simpa using c) h;rw [hL, hi]
 ·have h0 : anyF (mk1 d) 0 d.length = false := by simpa using h
  have hn : ¬ 0 <= idxOf d 1 := fun c => h ((idxOf_ge d).1 c);rw [if_neg (fun x => hn x.1), h0, Bool.false_and, if_neg (by decide), ansL_none d _ _ _ h0];unfold idxOf;rw [eqI_mk1, if_neg h]
theorem bit7 : ∀ b : Fin 128, ∀ i : Fin 7, bitV (b.val : Int) (i.val : Int) = ((b.val / 2 ^ i.val % 2 : Nat) : Int) := by decide +kernel
theorem bit_of {b i : Nat} (hb : b < 128) (hi : i < 7) : bitV (b : Int) (i : Int) = ((b / 2 ^ i % 2 : Nat) : Int) := bit7 ⟨b, hb⟩ ⟨i, hi⟩
def itW : List (Nat × Nat) -> Nat -> Dt -> Dt
 | [], _, s => s
 | p :: ps, b, s => itW ps (b / 2) (withD s p.1 p.2 ((b % 2 : Nat) : Int))
theorem rds_it : ∀ (ps : List (Nat × Nat)) (sh r : Dt), pos sh = ps -> (r ∈ rds sh ↔ ∃ b, b < 2 ^ ps.length /\ r = itW ps b sh)
 | [], sh, r, h => by
  rw [rds_nil h, List.mem_singleton];exact ⟨fun e => ⟨0, by simp, e⟩, fun ⟨_, _, e⟩ => e⟩
 | p :: ps, sh, r, h => by
  have h0 := rds_it ps (withD sh p.1 p.2 0) r (pos_with_tl (by decide) h);have h1 := rds_it ps (withD sh p.1 p.2 1) r (pos_with_tl (by decide) h);rw [rds_cons h, List.mem_append, h0, h1, List.length_cons, Nat.pow_succ];constructor
  ·rintro (⟨b, hb, e⟩ | ⟨b, hb, e⟩)
   ·refine ⟨2 * b, by omega, ?_⟩;simp only [itW];rw [show 2 * b / 2 = b by omega, show 2 * b % 2 = 0 by omega];exact e
   ·refine ⟨2 * b + 1, by omega, ?_⟩;simp only [itW];rw [show (2 * b + 1) / 2 = b by omega, show (2 * b + 1) % 2 = 1 by omega];exact e
  ·rintro ⟨b, hb, e⟩;simp only [itW] at e;rcases Nat.mod_two_eq_zero_or_one b with c | c
   ·left; rw [c] at e; exact ⟨b / 2, by omega, e⟩
   ·right; rw [c] at e; exact ⟨b / 2, by omega, e⟩
theorem itW_len : ∀ (ps : List (Nat × Nat)) (b : Nat) (s : Dt), (itW ps b s).length = s.length
 | [], _, _ => rfl
 | p :: ps, b, s => by simp only [itW, itW_len ps, withD_len]
theorem prC_cel (us : List (Nat × Nat)) (i : Nat) (h : i < us.length) : cA (us.map prC) i = us[i].1 /\ cB (us.map prC) i = us[i].2 := by
 unfold cA cB cel;rw [List.getD_eq_getElem?_getD (l := us.map prC), List.getElem?_map, List.getElem?_eq_getElem h];exact ⟨rfl, rfl⟩
theorem ansW_it (us : List (Nat × Nat)) (q b : Nat) (hb : b < 128) (h7 : us.length <= 7) : ∀ n i s, i + n = us.length -> q < s.length -> ansW (us.map prC) q b i n (row s q) = row (itW (us.drop i) (b / 2 ^ i) s) q
 | 0, i, s, hi, hq => by rw [List.drop_eq_nil_of_le (by omega)]; rfl
 | n + 1, i, s, hi, hq => by
  have hlt : i < us.length := by omega
  rw [List.drop_eq_getElem_cons hlt];obtain ⟨c1, c2⟩ := prC_cel us i hlt;simp only [ansW, itW, c1, c2];rw [bit_of hb (by omega), Int.toNat_natCast];have hrow := withD_row s us[i].1 us[i].2 ((b / 2 ^ i % 2 : Nat) : Int) q hq;have e : (if (us[i].1 : Int) = (q : Int) then (row s q).set us[i].2 [.i ((b / 2 ^ i % 2 : Nat) : Int)] else row s q) = row (withD s us[i].1 us[i].2 ((b / 2 ^ i % 2 : Nat) : Int)) q := by
   rw [hrow]
   by_cases c : us[i].1 = q
   ·rw [if_pos (by omega), if_pos c.symm]
   ·rw [if_neg (by omega), if_neg (fun x => c x.symm)]
  rw [e, ansW_it us q b hb h7 n (i + 1) _ (by omega) (by rw [withD_len]; exact hq), Nat.pow_succ, Nat.div_div_eq_div_mul]
theorem rowW_it {sh : Dt} {q b : Nat} (hb : b < 128) (h7 : (pos sh).length <= 7) (hq : q < sh.length) : rowW sh (uns sh) q b = row (itW (pos sh) b sh) q := by
 unfold rowW;rw [uns_pos, List.length_map, Int.toNat_natCast];have := ansW_it (pos sh) q b hb h7 (pos sh).length 0 sh (by omega) hq;rw [List.drop_zero, Nat.pow_zero, Nat.div_one] at this;exact this
def Nums (l : Dt) : Prop := ∀ p, p < l.length -> l.getD p [] = [.i (num l p)]
theorem Nums.set {l : Dt} (h : Nums l) {p : Nat} {v : Int} : Nums (l.set p [.i v]) := fun q hq => by
 rw [List.length_set] at hq
 by_cases e : p = q
 ·subst e;rw [set_getD hq, num_set hq, if_pos rfl]
 ·rw [set_getN e, h q hq]
  congr 2
  unfold num cel;rw [set_getN e]
theorem Nums.same {l : Dt} (h : Nums l) {p : Nat} (hp : p < l.length) : l.set p [.i (num l p)] = l := by
 rw [<- h p hp, List.getD_eq_getElem?_getD, List.getElem?_eq_getElem hp];exact List.set_getElem_self hp
theorem Nums.rep (n : Nat) (v : Int) : Nums (List.replicate n [.i v]) := fun p hp => by
 rw [List.length_replicate] at hp;unfold num cel;simp [List.getElem?_replicate, hp, Cl.int]
theorem ansOf_ge (d : Dt) : -1 <= ansOf d := by
 rw [<- ansX_of];unfold ansX;have := Xgm d 1
 split <;> omega
theorem stW_step {qs sh u r l : Dt} {b : Int} {i : Nat} (h : anW sh u b i = ansOf (row r i)) (hl : Nums l) (hp : (qPart qs i).toNat < l.length) : stW qs sh u b i l = l.set (qPart qs i).toNat [.i (num l (qPart qs i).toNat + ptsQ qs r i)] := by
 have hg := ansOf_ge (row r i);unfold stW ptsQ ptsV;rw [h]
 by_cases c : ansOf (row r i) = qRight qs i
 ·rw [if_pos c, if_pos c]
 ·rw [if_neg c, if_neg c]
  by_cases c2 : ansOf (row r i) = -1
  ·rw [if_pos c2, if_neg (by omega), Int.add_zero, hl.same hp]
  ·rw [if_neg c2, if_pos (by omega)]
   congr 3
   omega
theorem addW_G {qs sh u r : Dt} {b : Int} {np : Nat} (hp : ∀ i, i < qs.length -> (qPart qs i).toNat < np) (h : ∀ i, i < qs.length -> anW sh u b i = ansOf (row r i)) : ∀ n i l, i + n <= qs.length -> Nums l -> l.length = np -> addW qs sh u b i n l = addG qs r i n l
 | 0, _, _, _, _, _ => rfl
 | n + 1, i, l, hi, hl, hn => by
  simp only [addW, addG];rw [stW_step (h i (by omega)) hl (by rw [hn]; exact hp i (by omega))];exact addW_G hp h n (i + 1) _ (by omega) hl.set (by rw [List.length_set]; exact hn)
theorem mkW_it {qs ps sh : Dt} {all : Int} {b : Nat} (hk : KeyOk qs ps all) (hn : sh.length = qs.length) (h7 : (pos sh).length <= 7) (hb : b < 2 ^ (pos sh).length) : mkW qs ps sh (uns sh) b = mk qs ps (itW (pos sh) b sh) := by
 have hb2 : b < 128 := Nat.lt_of_lt_of_le hb (Nat.le_trans (Nat.pow_le_pow_right (by decide) h7) (by decide));unfold mkW mk;rw [itW_len, hn];refine addW_G (np := ps.length) (fun i hi => by have := hk.part i hi; omega) (fun i hi => ?_) _ _ _ (by omega) (Nums.rep _ _) (by simp);unfold anW;rw [rowW_it hb2 h7 (by omega), ansX_of]
theorem psW_it {qs ps sh : Dt} {all : Int} {b : Nat} (hk : KeyOk qs ps all) (hn : sh.length = qs.length) (h7 : (pos sh).length <= 7) (hb : b < 2 ^ (pos sh).length) : psW qs ps all sh (uns sh) b = psS qs ps all (itW (pos sh) b sh) := by
 unfold psW psS;rw [mkW_it hk hn h7 hb]
theorem rds_ix {sh r : Dt} : r ∈ rds sh ↔ ∃ k, k < (rdD sh).length /\ row (rdD sh) k = r := by
 constructor
 ·intro h;obtain ⟨k, hk, e⟩ := List.mem_iff_getElem.1 h;have hk2 : k < (rdD sh).length := by unfold rdD; simpa using hk
  obtain ⟨h2, e2⟩ := rdD_row hk2;exact ⟨k, hk2, e2.trans e⟩
 ·rintro ⟨k, hk, e⟩;obtain ⟨h2, e2⟩ := rdD_row hk;rw [<- e, e2];exact List.getElem_mem h2
theorem any_rds {sh : Dt} (f : Dt -> Bool) : (∃ k, k < (rdD sh).length /\ f (row (rdD sh) k) = true) ↔ ∃ b, b < 2 ^ (pos sh).length /\ f (itW (pos sh) b sh) = true := by
 constructor
 ·rintro ⟨k, hk, h⟩;obtain ⟨b, hb, e⟩ := (rds_it _ sh _ rfl).1 (rds_ix.2 ⟨k, hk, rfl⟩);exact ⟨b, hb, by rw [<- e]; exact h⟩
 ·rintro ⟨b, hb, h⟩;obtain ⟨k, hk, e⟩ := rds_ix.1 ((rds_it _ sh _ rfl).2 ⟨b, hb, rfl⟩);exact ⟨k, hk, by rw [e]; exact h⟩
theorem anyF_0 {f : Nat -> Bool} {n : Nat} : anyF f 0 n = true ↔ ∃ k, k < n /\ f k = true := by
 rw [anyF_iff];exact ⟨fun ⟨k, _, h, e⟩ => ⟨k, by omega, e⟩, fun ⟨k, h, e⟩ => ⟨k, by omega, by omega, e⟩⟩
theorem allF_0 {f : Nat -> Bool} {n : Nat} : allF f 0 n = true ↔ ∀ k, k < n -> f k = true := by
 rw [allF_iff];exact ⟨fun h k hk => h k (by omega) (by omega), fun h k _ hk => h k (by omega)⟩
theorem bool_iff {a b : Bool} (h : a = true ↔ b = true) : a = b := by cases a <;> cases b <;> simp_all
theorem anyF_rds {sh : Dt} {f : Dt -> Bool} {g : Nat -> Bool} (h : ∀ b, b < 2 ^ (pos sh).length -> g b = f (itW (pos sh) b sh)) : anyF g 0 (2 ^ (uns sh).length) = anyF (fun k => f (row (rdD sh) k)) 0 (rdD sh).length := by
 refine bool_iff ?_;rw [anyF_0, anyF_0, any_rds, uns_len];exact ⟨fun ⟨b, hb, e⟩ => ⟨b, hb, by rw [<- h b hb]; exact e⟩, fun ⟨b, hb, e⟩ => ⟨b, hb, by rw [h b hb]; exact e⟩⟩
theorem allF_rds {sh : Dt} {f : Dt -> Bool} {g : Nat -> Bool} (h : ∀ b, b < 2 ^ (pos sh).length -> g b = f (itW (pos sh) b sh)) : allF g 0 (2 ^ (uns sh).length) = allF (fun k => f (row (rdD sh) k)) 0 (rdD sh).length := by
 refine bool_iff ?_;rw [allF_0, allF_0, uns_len];have := any_rds (sh := sh) fun r => !f r;constructor
 ·intro h1 k hk;cases e : f (row (rdD sh) k) with
  | true => rfl
  | false =>
   obtain ⟨b, hb, c⟩ := this.1 ⟨k, hk, by rw [e]; rfl⟩;rw [<- h b hb, h1 b hb] at c;cases c
 ·intro h1 b hb;rw [h b hb];cases e : f (itW (pos sh) b sh) with
  | true => rfl
  | false =>
   obtain ⟨k, hk, c⟩ := this.2 ⟨b, hb, by rw [e]; rfl⟩;rw [h1 k hk] at c;cases c
theorem ocV_bits {qs ps sh : Dt} {all : Int} (hk : KeyOk qs ps all) (hs : ShOk qs sh) : ocB (anyF (psB qs ps all sh (uns sh)) 0 (2 ^ (uns sh).length)) (allF (psB qs ps all sh (uns sh)) 0 (2 ^ (uns sh).length)) = ocV qs ps all sh := by
 have h7 := hs.seven;rw [uns_len] at h7;have h := fun b (hb : b < 2 ^ (pos sh).length) => psW_it (ps := ps) (all := all) hk hs.n h7 hb;rw [anyF_rds (f := psS qs ps all) (g := psB qs ps all sh (uns sh)) h, allF_rds (f := psS qs ps all) (g := psB qs ps all sh (uns sh)) h];rfl
theorem ShOk.se {qs sh : Dt} (h : ShOk qs sh) {ps : Dt} {all : Int} (hk : KeyOk qs ps all) : SeOk qs sh (uns sh) := by
 have h7 := h.seven;refine ⟨h.n, by omega, fun q hq => ⟨by omega, ?_, fun i hi e => ?_⟩⟩
 ·have := (h.toShapeOk.few hk).2 q hq; omega
 ·obtain ⟨p, hp, e1, e2⟩ := uns_cel hi;have hm := mem_pos.1 hp;unfold cA at e;unfold cB;rw [e1] at e;rw [e2];have : p.1 = q := by omega
  subst this;omega
end Sp
theorem Xna : PureOk Try.prog 19 Xb8 [(false, [.row 3 Jc]), (false, [.bool]), (false, [.int .i64])] (fun _ => True) Xda :=
 Xme fun W qs ps all sh hp Q h => by
  unfold Xdi;delta Zb;simp only [Xda, Sp.markR, Sp.markB] at h
  by_cases e : Sp.askE qs.xs ps.xs all sh.xs = 0
  ·obtain ⟨hk, hs⟩ := Sp.askE_ok e;have hse := hs.se hk
   by_cases e2 : (Sp.uns sh.xs).length = 0
   ·have e3 : Sp.markE qs.xs ps.xs all sh.xs = 0 := by unfold Sp.markE; rw [if_pos e, if_pos e2]
    rw [if_pos e3, if_pos e3, e3] at h;have hp0 : Sp.pos sh.xs = [] := List.length_eq_zero_iff.1 (by rw [<- Sp.uns_len]; exact e2);have hm := Sp.mkW_it (b := 0) (ps := ps.xs) hk hs.n (by rw [hp0]; simp) (by rw [hp0]; simp);have hm : Sp.mkW qs.xs ps.xs sh.xs (Sp.uns sh.xs) 0 = Sp.mk qs.xs ps.xs sh.xs := by rw [hp0] at hm; exact hm
    refine vifd (fun _ => vifd (fun c => by omega) fun _ => ⟨⟨by omega, hk, hse⟩, ⟨⟨by omega, hk, hse⟩, ?_⟩⟩) fun c => absurd e c;unfold Sp.psW;rw [hm];exact h
   ·have e3 : Sp.markE qs.xs ps.xs all sh.xs = 2 := by unfold Sp.markE; rw [if_pos e, if_neg e2]
    rw [if_neg (by omega), if_neg (by omega), e3] at h;exact vifd (fun _ => vifd (fun c => h) fun c => by omega) fun c => absurd e c
  ·have e3 : Sp.markE qs.xs ps.xs all sh.xs = Sp.askE qs.xs ps.xs all sh.xs := by unfold Sp.markE; rw [if_neg e]
   rw [if_neg (by omega), if_neg (by omega), e3] at h;exact vifd (fun c => absurd c e) fun _ => vifn (fun _ => h) fun c => absurd c e
def Xk8 : PC Try.prog := ⟨19, Xb8, [(false, [.row 3 Jc]), (false, [.bool]), (false, [.int .i64])], fun _ => True, Xda, Xna⟩
theorem Xm9 : PureOk Try.prog 23 Xb7 [(false, [.int .i64]), (false, [.int .i64])] (fun _ => True) Xc9 :=
 Xmd fun W qs ps all sh hp Q h => by
  unfold Xdh;simp only [Xc9, Sp.ocA] at h;refine vifd (fun e => ?_) fun e => vifn (fun _ => ?_) fun c => absurd c e
  ·obtain ⟨hk, hs⟩ := Sp.askE_ok e;rw [if_pos e, e] at h;rw [Sp.ocV_bits hk hs];exact ⟨⟨hk, hs.se hk, hs.seven⟩, trivial, h⟩
  ·rw [if_neg e] at h; exact h
def Xg6 : PC Try.prog := ⟨23, Xb7, [(false, [.int .i64]), (false, [.int .i64])], fun _ => True, Xc9, Xm9⟩
end Go.Proofs.Ytifhdbgciehicaa
