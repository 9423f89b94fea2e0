/-
  'PaperAny': for every input the law returns true, and what is handed in reads as before. No condition.
-/
import Derived.Test.YtilnbgpogfabaaaQd
import Derived.IntWalk
import Derived.Test.YtilnbgpogfabaaaProg
import Derived.Shelf.Sort.AssemblyIn
import Derived.Sort.EveryDepth
import Derived.Sort.OwnSortedInts
set_option linter.unusedVariables false
set_option linter.unusedSectionVars false
set_option linter.unusedSimpArgs false
namespace Go.Proofs.Ytilnbgpogfabaaa
abbrev Ja : List Ty := [.int .i64, .int .i64, .int .i64]
abbrev Jb : List Ty := [.int .i64]
abbrev Iv11 : List Ty := [.int .i64, .int .i64, .int .i64, .int .i64, .int .i64, .int .i64, .int .i64, .int .i64, .int .i64, .int .i64, .int .i64]
abbrev Iv5 : List Ty := [.int .i64, .int .i64, .int .i64, .int .i64, .int .i64]
abbrev Iv4 : List Ty := [.int .i64, .int .i64, .int .i64, .int .i64]
abbrev Ivs : List Ty := [.str, .int .i64, .int .i64, .int .i64]
open Go.RowKit
theorem vif [InW] {b : Bool} {A B : Prop} (h : b = true -> A) (h2 : b = false -> B) : Vif b A B := ⟨h, h2⟩
theorem vifd [InW] {p : Prop} {_ : Decidable p} {A B : Prop} (h : p -> A) (h2 : ¬ p -> B) : Vif (decide p) A B := ⟨fun e => h (of_decide_eq_true e), fun e => h2 (of_decide_eq_false e)⟩
theorem ned [InW] {b : Bool} {A : Prop} (h : b = true) (h2 : A) : Need b A := ⟨h, h2⟩
theorem nedd [InW] {p : Prop} {_ : Decidable p} {A : Prop} (h : p) (h2 : A) : Need (decide p) A := ⟨decide_eq_true h, h2⟩
theorem ar64 [InW] {n : Int} {K : Int -> Prop} (h : -9223372036854775808 <= n /\ n <= 9223372036854775807) (k : K n) : Ar .i64 n K := ⟨by rw [IntWalk.i64_in n h]; exact k⟩
theorem notT {b : Bool} (h : (!b) = true) : b = false := by cases b <;> simp_all
theorem notF {b : Bool} (h : (!b) = false) : b = true := by cases b <;> simp_all
theorem vifn [InW] {p : Prop} {_ : Decidable p} {A B : Prop} (h : ¬ p -> A) (h2 : p -> B) : Vif (!decide p) A B := ⟨fun e => h (of_decide_eq_false (notT e)), fun e => h2 (of_decide_eq_true (notF e))⟩
theorem vifb [InW] {b : Bool} {A B : Prop} (h : b = false -> A) (h2 : b = true -> B) : Vif (!b) A B := ⟨fun e => h (notT e), fun e => h2 (notF e)⟩
theorem Xk {p A : Prop} (h : p) (h2 : A) : Pre p A := ⟨h, h2⟩
theorem ned2 [InW] {p q : Prop} {_ : Decidable p} {_ : Decidable q} {K : Prop} (h : p /\ q) (hK : K) : Need (decide p && decide q) K := ⟨by simp [h], hK⟩
namespace Sp
def inr (n lo hi : Int) : Bool := decide (lo <= n) && decide (n <= hi)
def outs (lo hi : Int) (xs : Dt) : Nat -> Nat -> Bool
 | _, 0 => false
 | i, n + 1 => !inr (cel xs i 0).int lo hi || outs lo hi xs (i + 1) n
def out (lo hi : Int) (xs : Dt) : Bool := outs lo hi xs 0 xs.length
def outI (lo hi : Int) (xs : Dt) : Nat -> Nat -> Nat
 | i, 0 => i
 | i, n + 1 => if inr (cel xs i 0).int lo hi = true then outI lo hi xs (i + 1) n else i
def hasE (f : Nat -> Int) : Nat -> Nat -> Bool
 | _, 0 => false
 | i, n + 1 => !decide (f i = 0) || hasE f (i + 1) n
def idxE (f : Nat -> Int) : Nat -> Nat -> Nat
 | i, 0 => i
 | i, n + 1 => if f i = 0 then idxE f (i + 1) n else i
def allF (f : Nat -> Bool) : Nat -> Nat -> Bool
 | _, 0 => true
 | i, n + 1 => f i && allF f (i + 1) n
theorem allF_iff {f : Nat -> Bool} : ∀ {n i : Nat}, allF f i n = true ↔ ∀ k, i <= k -> k < i + n -> f k = true
 | 0, i => by simp [allF]; omega
 | n + 1, i => by
  simp only [allF, Bool.and_eq_true, allF_iff (n := n)];constructor
  ·rintro ⟨h1, h2⟩ k a b;rcases Nat.eq_or_lt_of_le a with e | e
   ·exact e ▸ h1
   ·exact h2 k (by omega) (by omega)
  ·exact fun h => ⟨h i (by omega) (by omega), fun k a b => h k (by omega) (by omega)⟩
def anyF (f : Nat -> Bool) : Nat -> Nat -> Bool
 | _, 0 => false
 | i, n + 1 => f i || anyF f (i + 1) n
theorem anyF_iff {f : Nat -> Bool} : ∀ {n i : Nat}, anyF f i n = true ↔ ∃ k, i <= k /\ k < i + n /\ f k = true
 | 0, i => by simp [anyF]; omega
 | n + 1, i => by
  simp only [anyF, Bool.or_eq_true, anyF_iff (n := n)];constructor
  ·rintro (h | ⟨k, a, b, c⟩)
   ·exact ⟨i, by omega, by omega, h⟩
   ·exact ⟨k, by omega, by omega, c⟩
  ·rintro ⟨k, a, b, c⟩;rcases Nat.eq_or_lt_of_le a with e | e
   ·exact .inl (e ▸ c)
   ·exact .inr ⟨k, by omega, by omega, c⟩
def fstF (f : Nat -> Bool) : Nat -> Nat -> Nat
 | i, 0 => i
 | i, n + 1 => if f i then i else fstF f (i + 1) n
theorem fstF_spec {f : Nat -> Bool} : ∀ {n i : Nat}, anyF f i n = true -> i <= fstF f i n /\ fstF f i n < i + n /\ f (fstF f i n) = true /\ ∀ k, i <= k -> k < fstF f i n -> f k = false
 | 0, i, h => by simp [anyF] at h
 | n + 1, i, h => by
  unfold fstF
  by_cases e : f i = true
  ·rw [if_pos e];exact ⟨by omega, by omega, e, fun k a b => by omega⟩
  ·rw [if_neg e];simp only [anyF, e, Bool.false_or, Bool.or_eq_true, Bool.false_eq_true, false_or] at h;obtain ⟨h1, h2, h3, h4⟩ := fstF_spec h;refine ⟨by omega, by omega, h3, fun k a b => ?_⟩;rcases Nat.eq_or_lt_of_le a with e2 | e2
   ·subst e2; simpa using e
   ·exact h4 k (by omega) b
theorem hasE_ix {f : Nat -> Int} : ∀ {n i : Nat}, hasE f i n = true -> i <= idxE f i n /\ idxE f i n < i + n /\ f (idxE f i n) ≠ 0
 | 0, i, h => by simp [hasE] at h
 | n + 1, i, h => by
  unfold idxE
  by_cases e : f i = 0
  ·rw [if_pos e];simp only [hasE, e, decide_true, Bool.not_true, Bool.false_or] at h;have := hasE_ix h;exact ⟨by omega, by omega, this.2.2⟩
  ·rw [if_neg e]; exact ⟨by omega, by omega, e⟩
theorem hasE_no {f : Nat -> Int} : ∀ {n i : Nat}, hasE f i n = false -> ∀ k, i <= k -> k < i + n -> f k = 0
 | 0, i, _, k, a, b => by omega
 | n + 1, i, h, k, a, b => by
  simp only [hasE, Bool.or_eq_false_iff, Bool.not_eq_false', decide_eq_true_eq] at h;rcases Nat.eq_or_lt_of_le a with e | e
  ·exact e ▸ h.1
  ·exact hasE_no h.2 k (by omega) (by omega)
theorem hasE_of {f : Nat -> Int} : ∀ {n i : Nat}, (∀ k, i <= k -> k < i + n -> f k = 0) -> hasE f i n = false
 | 0, i, _ => rfl
 | n + 1, i, h => by
  simp only [hasE, h i (by omega) (by omega), decide_true, Bool.not_true, Bool.false_or];exact hasE_of fun k a b => h k (by omega) (by omega)
theorem inr_iff {n lo hi : Int} : inr n lo hi = true ↔ lo <= n /\ n <= hi := by simp [inr]
theorem inr_ff {n lo hi : Int} : inr n lo hi = false ↔ n < lo \/ hi < n := by simp [inr]; omega
end Sp
theorem Xee [InW] {f : Nat -> Int} {i n : Nat} {K1 : Nat -> Int -> Prop} {K0 : Prop} (h : Vif (Sp.hasE f i (n + 1)) (K1 (Sp.idxE f i (n + 1)) (f (Sp.idxE f i (n + 1)))) K0) :
  (f i ≠ 0 -> K1 i (f i)) /\ (f i = 0 -> Vif (Sp.hasE f (i + 1) n) (K1 (Sp.idxE f (i + 1) n) (f (Sp.idxE f (i + 1) n))) K0) := by
 simp only [Sp.hasE, Sp.idxE] at h;refine ⟨fun e => ?_, fun e => ?_⟩
 ·have := h.1 (by simp [e]);simpa [e] using this
 ·simpa [e] using h
theorem Xef [InW] {f : Nat -> Bool} {i n : Nat} {K1 : Nat -> Prop} {K0 : Prop} (h : Vif (Sp.anyF f i (n + 1)) (K1 (Sp.fstF f i (n + 1))) K0) :
  (f i = true -> K1 i) /\ (f i = false -> Vif (Sp.anyF f (i + 1) n) (K1 (Sp.fstF f (i + 1) n)) K0) := by
 simp only [Sp.anyF, Sp.fstF] at h;refine ⟨fun e => ?_, fun e => ?_⟩
 ·have := h.1 (by simp [e]);simpa [e] using this
 ·simpa [e] using h
theorem Xg7 [InW] {f : Nat -> Bool} {i n : Nat} {A B : Prop} (h : Vif (Sp.allF f i (n + 1)) A B) : (f i = true -> Vif (Sp.allF f (i + 1) n) A B) /\ (f i = false -> B) := by
 simp only [Sp.allF] at h;refine ⟨fun e => ?_, fun e => ?_⟩
 ·simpa [e] using h
 ·exact h.2 (by simp [e])
theorem vifq [InW] {p q : Prop} {_ : Decidable p} {_ : Decidable q} {A B : Prop} (h : ¬ (p ↔ q) -> A) (h2 : (p ↔ q) -> B) : Vif (!(decide p == decide q)) A B :=
 ⟨fun e => h (by simpa using notT e), fun e => h2 (by simpa using notF e)⟩
theorem X7 [InW] {p : Prop} {_ : Decidable p} {A B : Prop} (h : p -> A) (h2 : ¬ p -> B) : Vif (!(decide p == false)) A B :=
 ⟨fun e => h (by simpa using e), fun e => h2 (by simpa using e)⟩
theorem X6 [InW] {p : Prop} {_ : Decidable p} {A B : Prop} (h : p -> A) (h2 : ¬ p -> B) : Vif (!(false == decide p)) A B :=
 ⟨fun e => h (by simpa using e), fun e => h2 (by simpa using e)⟩
theorem out1 (lo hi n : Int) : Sp.out lo hi [[Cl.i n]] = !Sp.inr n lo hi := by simp [Sp.out, Sp.outs, cel, Cl.int]
set_option maxRecDepth 100000
def tTak [InW] : TI := ⟨some false, some 1, some [.v (.int .u64 0)], [], none, none⟩
def tTab [InW] : TI := ⟨some false, some 1, some [.v (.nilFunc)], [], none, none⟩
def tTac [InW] : Tr TI := .node .nil ⟨none, none, none, [], none, none⟩ .nil
def tTaw [InW] : TI := ⟨some false, some 1, (some [.v (.tuple #[.slice none 0 0, .int .i64 0])]), [], none, none⟩
def tTaa [InW] : Tr TI := .node tTac tTab tTac
def tTad [InW] : TI := ⟨some false, some 1, some [.v (.pointer none)], [], none, none⟩
def tTba [InW] : Tr TI := .node (.node .nil tTab .nil) tTab tTac
def tTag [InW] : Tr TI := .node tTba tTab tTaa
def tTbb [InW] : List (Option (Nat × Nat)) := [(some (0, 1)), (some (1, 1)), (some (2, 1)), (some (3, 1))]
def tTan [InW] : TI := ⟨some true, some 4, some [.v (.int .i64 0), .v (.int .i64 0), .v (.bool false), .v (.int .u8 0)], tTbb, none, none⟩
def tTao [InW] : TI := ⟨some false, some 1, (some [.v (.tuple #[.int .i64 0, .int .i64 0])]), [], none, none⟩
def tTbc [InW] : List AV := [.v (.slice none 0 0)]
def tTae [InW] : Tr TI := .node .nil ⟨some true, some 11, some [.v (.int .u64 0), .v (.int .u64 0), .v (.int .u32 0), .v (.int .u8 0), .v (.int .u8 0), .v (.int .u8 0), .v (.int .u8 0), .v (.nilFunc), .v (.pointer none), .v (.int .i32 0), .v (.int .i32 0)], [(some (0, 1)), (some (1, 1)), (some (2, 1)), (some (3, 1)), (some (4, 1)), (some (5, 1)), (some (6, 1)), (some (7, 1)), (some (8, 1)), (some (9, 1)), (some (10, 1))], none, none⟩ .nil
def tTal [InW] : TI := ⟨some false, some 1, some [.v (.int .i64 0)], [], none, none⟩
def tTax [InW] : TI := ⟨some true, some 1, some [.v (.pointer none)], [(some (0, 1))], none, none⟩
def tTaz [InW] : Tr TI := .node (.node .nil tTad .nil) tTab tTac
def tTar [InW] : TI := ⟨some false, some 1, some [.v (.string ByteArray.empty)], [], none, none⟩
def tTah [InW] : Tr TI := .node .nil ⟨some true, some 4, some [.v (.pointer none), .v (.pointer none), .v (.pointer none), .v (.string ByteArray.empty)], tTbb, none, none⟩ .nil
def tTas [InW] : TI := ⟨some true, some 4, some [.v (.int .i64 0), .v (.int .i64 0), .v (.int .i64 0), .v (.int .i64 0)], [], none, (some (4, 1, false))⟩
def tTbd [InW] : List AV := [.v (.int .i64 0), .v (.int .i64 0), .v (.int .i64 0)]
def tTaf [InW] : TI := ⟨some true, some 3, some tTbd, [(some (0, 1)), (some (1, 1)), (some (2, 1))], none, none⟩
def tTap [InW] : TI := ⟨some true, some 4, some [.v (.slice none 0 0), .v (.slice none 0 0), .v (.int .i64 0), .v (.int .i64 0)], [(some (0, 1)), (some (1, 1)), (some (2, 2))], none, none⟩
def tTam [InW] : TI := ⟨some false, some 1, some [.v (.int .u8 0)], [], none, none⟩
def tTai [InW] : TI := ⟨some true, some 6, some [.v (.slice none 0 0), .v (.slice none 0 0), .v (.int .i64 0), .v (.int .i64 0), .v (.slice none 0 0), .v (.map none)], [(some (0, 4)), (some (4, 1)), (some (5, 1))], none, none⟩
def tTav [InW] : TI := ⟨some true, some 2, some [.v (.int .i64 0), .v (.int .i64 0)], [(some (0, 1)), (some (1, 1))], none, none⟩
def tTat [InW] : TI := ⟨some false, some 1, some [.v (.int .i32 0)], [], none, none⟩
def tTaj [InW] : TI := ⟨some true, some 6, some [.v (.int .i64 0), .v (.int .i64 0), .v (.int .i64 0), .v (.int .i64 0), .v (.int .i64 0), .v (.int .i64 0)], [(some (0, 1)), (some (1, 1)), (some (2, 4))], none, none⟩
def tTaq [InW] : TI := ⟨some true, some 4, some [.v (.int .i64 0), .v (.int .i64 0), .v (.int .i64 0), .v (.slice none 0 0)], [(some (0, 3)), (some (3, 1))], none, none⟩
def tTau [InW] : TI := ⟨some true, some 2, some [.v (.string ByteArray.empty), .v (.int .u64 0)], [(some (0, 1)), (some (1, 1))], none, none⟩
def tTay [InW] : Tr TI := .node .nil ⟨some true, some 0, some [], [(some (0, 0))], none, none⟩ .nil
def TT [InW] : Tr TI :=
 (.node (.node (.node (.node (.node (.node (.node (.node .nil tTak .nil) tTab tTac) tTaw tTaa) tTad tTag) tTan (.node (.node (.node (.node .nil tTao .nil) ⟨some true, some 4, some [.v (.int .u16 0), .v (.int .u16 0), .v (.int .u16 0), .v (.int .u16 0)], [], none, (some (4, 1, false))⟩ tTac) tTab tTaa) ⟨some false, some 1, some tTbc, [], (some (3, 1, 8, [.v (.int .i64 0)])), none⟩ (.node (.node tTae tTab tTac) tTab tTaa))) tTal (.node (.node (.node (.node (.node .nil tTad .nil) ⟨some true, some 3, some [.v (.int .u16 0), .v (.int .u16 0), .v (.int .u16 0)], [], none, (some (3, 1, false))⟩ tTac) tTab tTaa) tTax (.node tTaz tTab (.node tTac tTal tTac))) tTar (.node (.node (.node tTah tTas tTac) tTaf tTaa) tTap (.node (.node tTac ⟨some false, some 1, (some [.v (.tuple #[.int .i64 0, .bool false])]), [], none, none⟩ tTac) tTab (.node tTac ⟨some false, some 1, some [.v (.int .u32 0)], [], none, none⟩ tTac))))) tTab (.node (.node (.node tTag tTad (.node (.node (.node .nil tTam .nil) tTai tTac) tTab tTaa)) tTar (.node (.node (.node (.node .nil tTab .nil) tTad tTac) tTab tTaa) tTav (.node tTaa ⟨some false, some 1, some [.v (.int .u16 0)], [], none, none⟩ tTaa))) tTam (.node (.node tTag tTat (.node (.node (.node .nil tTat .nil) tTaj tTac) tTaq tTaa)) tTau (.node (.node (.node tTay tTad tTac) ⟨some false, some 1, some tTbc, [], (some (23, 1, 24, tTbc)), none⟩ tTaa) ⟨some false, some 1, (some [.v (.tuple #[.int .i64 0, .int .i64 0, .int .i64 0])]), [], none, none⟩ (.node tTaa tTaf (.node tTac tTak tTac)))))) ⟨some false, some 1, (some [.v (.tuple #[])]), [], none, none⟩ (.node (.node (.node (.node tTag tTad (.node (.node (.node .nil tTam .nil) ⟨some false, some 1, some [.v (.map none)], [], none, none⟩ tTac) tTab tTaa)) tTan (.node (.node tTba ⟨some false, some 1, (some [.v (.tuple #[.agg #[.int .i64 0, .int .i64 0], .int .i64 0])]), [], none, none⟩ tTaa) tTav (.node tTaz tTab tTaa))) ⟨some false, some 1, some [.v (.bool false)], [], none, none⟩ (.node (.node tTag ⟨some false, some 1, some [.v (.nilIface)], [], none, none⟩ (.node (.node (.node .nil tTat .nil) tTas tTac) tTab (.node tTac tTao tTac))) tTak (.node (.node (.node (.node .nil ⟨some true, some 0, some [], [], none, (some (0, 1, false))⟩ .nil) tTab tTac) tTaf (.node tTac tTak tTac)) tTal (.node tTaa tTaf tTaa)))) tTal (.node (.node (.node (.node tTba tTao tTaa) tTax (.node (.node (.node .nil tTab .nil) tTai tTac) tTab tTaa)) tTar (.node (.node (.node tTah tTab tTac) tTab tTaa) tTap (.node tTaa ⟨some true, some 2, some [.v (.int .u16 0), .v (.int .u16 0)], [], none, (some (2, 1, false))⟩ tTaa))) tTam (.node (.node (.node tTaz tTab tTaa) ⟨some false, some 1, some tTbc, [], (some (61, 3, 24, tTbd)), none⟩ (.node (.node tTae tTaj tTac) tTaq tTaa)) tTau (.node (.node (.node tTay ⟨some false, some 1, (some [.v (.tuple #[.pointer none, .int .i64 0])]), [], none, none⟩ tTac) tTaw tTaa) tTab (.node (.node tTac ⟨some false, some 1, (some [.v (.tuple #[.agg #[.int .i64 0, .int .i64 0, .int .i64 0, .int .i64 0, .int .i64 0, .int .i64 0], .bool false])]), [], none, none⟩ tTac) tTab tTaa))))))
theorem Xc [InW] : TabOk Try.prog TT := TabOk.of 8 (by kernel_rfl)
theorem Xa : Try.prog.follows .mixedOrders = true := by kernel_rfl
attribute [local irreducible] Go.Oper.wp
section
variable [W : InW]
def nthQ : List AV -> Nat -> AV
 | [], _ => .junk
 | x :: xs, n => match n with | 0 => x | n + 1 => nthQ xs n
def likeQ : Pt -> AV -> Bool
 | .lit v, x => (match x with | .v u => Yco u v | _ => false)
 | .row _, x => (match x with | .rw _ => true | .sl _ 0 0 _ => true | _ => false)
 | _, _ => true
def Xjk : List (Nat × Pt) -> List AV -> Bool
 | [], _ => true
 | p :: ps, tm => match likeQ p.2 (nthQ tm p.1) with | true => Xjk ps tm | false => false
end
noncomputable def LE.pick {P : Program} (T : List (Nat × Pt)) (a b : LE P) (hg : b.g = a.g) (hk : b.key = a.key) : LE P where
 g := a.g
 key := a.key
 f := fun W tm hp K => match @Xjk W T tm with | true => a.f W tm hp K | false => b.f W tm hp K
 ok := fun W body c h1 h2 h3 tm hp K h => by
  dsimp only at h
  split at h
  ·exact a.ok W body c h1 h2 h3 tm hp K h
  ·exact b.ok W body c (by rw [hg]; exact h1) h2 (by rw [hk]; exact h3) tm hp K h
end Go.Proofs.Ytilnbgpogfabaaa
namespace Go.Proofs.Ytilnbgpogfabaaa
open Go.RowKit
attribute [local irreducible] Go.Oper.wp
section
variable [W : InW]
end
end Go.Proofs.Ytilnbgpogfabaaa
namespace Go.Proofs.Ytilnbgpogfabaaa
open Go.RowKit
set_option maxRecDepth 100000
noncomputable def T0 : Tab Try.prog := ⟨[], [], []⟩
abbrev Xdk (ds : DS) : DS := match ds with | [[.i n], [.i lo], [.i hi]] => [[.b (Sp.inr n lo hi)]] | _ => []
abbrev Xbx (ds : DS) : DS := match ds with | [[.i lo], [.i hi], [.l xs]] => [[.b (Sp.out lo hi xs)]] | _ => []
def Xjy [W : InW] (n lo hi : Int) (Q : DS -> Prop) : Prop :=
 Vif (decide (lo <= n)) (Q [[Cl.b (decide (n <= hi))]]) (Q [[Cl.b false]])
theorem vc_in (W : InW) (n lo hi Q) : Yw5 (cxT Try.prog TT T0 1000 50) 1000 44 [.si .i64 n, .si .i64 lo, .si .i64 hi] [] 0 (Y1i [(false, [.bool])] Q) (fun _ _ _ _ => Stuck 421) = Xjy n lo hi Q := by kernel_rfl
abbrev Xey : List AT := [.one (.int .i64), .one (.int .i64), .one (.int .i64)]
theorem ok_in {pre : DS -> Prop} {res : DS -> DS} (hyp_ : ∀ (W : InW) (n lo hi : Int), pre [[.i n], [.i lo], [.i hi]] -> ∀ Q : DS -> Prop, Q (res [[.i n], [.i lo], [.i hi]]) -> Xjy n lo hi Q) : PureOk Try.prog 44 Xey [(false, [.bool])] pre res :=
 PureOk.of' (fun W => @TT W) (fun W => @Xc W) Xa T0 1000 50 fun W n lo hi hp =>
  (vc_in W n lo hi (fun o => o = res [[.i n], [.i lo], [.i hi]])).mpr (hyp_ W n lo hi hp _ rfl)
theorem okin : PureOk Try.prog 44 Xey [(false, [.bool])] (fun _ => True) Xdk :=
 ok_in fun W n lo hi _ Q h => vif (fun e => by simpa [Xdk, Sp.inr, e] using h) fun e => by simpa [Xdk, Sp.inr, e] using h
noncomputable def Xim : PC Try.prog := ⟨44, Xey, [(false, [.bool])], fun _ => True, Xdk, okin⟩
def Xdb [InW] (e : List Ed) (K : Nat -> List Ed -> Prop) : Prop := match e with
 | [.ro _ xs, .i n, .i i, .i lo, .i hi] => Pre (n = xs.xs.length /\ 0 <= i /\ i <= n) (Vif (Sp.outs lo hi xs.xs i.toNat (xs.xs.length - i.toNat)) (K 1 [.i (Sp.outI lo hi xs.xs i.toNat (xs.xs.length - i.toNat)), .i lo, .i hi]) (K 0 [.i lo, .i hi]))
 | _ => False
noncomputable def Xd4 : LC where
 len := 19
 T := [(0, .rs Jb), (1, (.fn (.func 63) [] [(.ptr 1 0), (.ptr 4 0)])), (7, .int .i64), (8, .int .i64)]
 H := [(1, .blk 3 [.int .i64]), (4, .blk 3 [.int .i64])]
 W := ([4, 5] ++ rg 9 10)
 outs := [⟨.exit 0, [(1, (.fn (.func 63) [] [(.ptr 1 0), (.ptr 4 0)]))], [(1, .blk 3 [.int .i64]), (4, .blk 3 [.int .i64])], ([0, 4, 5] ++ rg 7 12)⟩, ⟨.ret, [(1, (.fn (.func 63) [] [(.ptr 1 0), (.ptr 4 0)])), (4, .int .i64)], [(1, .blk 3 [.int .i64]), (4, .blk 3 [.int .i64])], ([0, 5] ++ rg 7 12)⟩]
 spec := Xdb
def Xcn [W : InW] (xs : Ro Jb) (n i lo hi : Int) (A : List Ed -> Prop) (K : Nat -> List Ed -> Prop) : Prop :=
 Vif (decide (i < n)) (Need (decide (0 <= i) && decide (i < (↑(xs.xs.length) : Int))) (Need (decide (i.toNat < xs.xs.length)) (Vif (decide ((cel xs.xs i.toNat (0 : Nat)).int < lo)) (K (0+1) [.i i, .i lo, .i hi]) (Vif (decide (hi < (cel xs.xs i.toNat (0 : Nat)).int)) (K (0+1) [.i i, .i lo, .i hi]) (Ar .i64 (i + 1) fun z => A [.ro _ xs, .i n, .i z, .i lo, .i hi]))))) (K 0 [.i lo, .i hi])
theorem Xgl (W : InW) (xs n i lo hi A K) : Yff { cxT Try.prog TT T0 1000 50 with fn := 69 } 1000 (Yob Try.prog 69 3) (Yd6 19 [(0, .rs _ xs), (1, .fn (.func 63) [] [.ptr 1 0, .ptr 4 0]), (7, .si .i64 n), (8, .si .i64 i)] ([4, 5] ++ rg 9 10)) [(1, .blk 3 [.si .i64 lo]), (4, .blk 3 [.si .i64 hi])] (Yut Xd4 A K) = Xcn xs n i lo hi A K := by kernel_rfl
def Xdr : Prop := ∀ (W : InW) (body a : Code), (Try.prog.funcs[69]?).bind (·.body) = some body -> a ∈ Yy body -> Yf0 a = 3 -> @Yms W Try.prog a (@Ytz W Xd4)
theorem Xhl (meas : [InW] -> List Ed -> Nat) (hyp_ : ∀ (W : InW) xs n i lo hi K, Xdb [.ro _ xs, .i n, .i i, .i lo, .i hi] K -> ∀ A : List Ed -> Prop, (∀ e, meas e < meas [.ro _ xs, .i n, .i i, .i lo, .i hi] -> Xdb e K -> A e) -> Xcn xs n i lo hi A K) : Xdr :=
 LE.okOf' (fun W => @TT W) (fun W => @Xc W) Xa T0 1000 50 (by kernel_rfl) Xd4 (fun W => @meas W) fun W xs n i lo hi K hs =>
  (Xgl W xs n i lo hi (fun e => meas e < meas [.ro _ xs, .i n, .i i, .i lo, .i hi] /\ Xdb e K) K).mpr (hyp_ W xs n i lo hi K hs _ fun e h1 h2 => ⟨h1, h2⟩)
theorem Xja : Xdr := Xhl (fun e => match e with | .ro _ xs :: .i n :: .i i :: _ => (n - i).toNat | _ => 0) fun W xs n i lo hi K hs A hA => by
 obtain ⟨⟨rfl, h0, h1⟩, hk⟩ := hs;unfold Xcn;have hm := xs.len;simp only [maxLen] at hm;refine vifd (fun e => ?_) fun e => ?_
 ·rw [show xs.xs.length - i.toNat = (xs.xs.length - (i.toNat + 1)) + 1 by omega] at hk;have hc : (cel xs.xs i.toNat 0).int < lo \/ hi < (cel xs.xs i.toNat 0).int -> K 1 [.i i, .i lo, .i hi] := fun h => by
   have hf : Sp.inr (cel xs.xs i.toNat 0).int lo hi = false := by simp only [Sp.inr, Bool.and_eq_false_iff, decide_eq_false_iff_not]; omega
   have := hk.1 (by simp [Sp.outs, hf]);unfold Sp.outI at this;rw [if_neg (by simp [hf]), Int.toNat_of_nonneg h0] at this;exact this
  refine ned (by simp; omega) (nedd (by omega) (vifd (fun e2 => hc (.inl e2)) fun e2 => vifd (fun e3 => hc (.inr e3)) fun e3 => ar64 (by omega) (hA _ ?_ ?_)))
  ·show ((xs.xs.length : Int) - (i + 1)).toNat < ((xs.xs.length : Int) - i).toNat
   omega
  ·have hf : Sp.inr (cel xs.xs i.toNat 0).int lo hi = true := by simp only [Sp.inr, Bool.and_eq_true, decide_eq_true_eq]; omega
   refine ⟨⟨rfl, by omega, by omega⟩, ?_⟩;rw [show (i + 1).toNat = i.toNat + 1 by omega];simp only [Sp.outs, hf, Bool.not_true, Bool.false_or, Sp.outI, if_true] at hk;exact hk
 ·rw [show xs.xs.length - i.toNat = 0 by omega] at hk;exact hk.2 rfl
noncomputable def Xjr : LE Try.prog := ⟨69, 3, fun W => @Ytz W Xd4, Xja⟩
noncomputable def T1 : Tab Try.prog := ⟨[], [Xjr], []⟩
def Xe2 [W : InW] (lo hi : Int) (xs : Ro Jb) (Q : DS -> Prop) : Prop :=
 Pre ((↑(xs.xs.length) : Int) = (↑(xs.xs.length) : Int) /\ (0 : Int) <= 0 /\ (0 : Int) <= (↑(xs.xs.length) : Int)) (Vif (Sp.outs lo hi xs.xs (Int.toNat (0 : Int)) (xs.xs.length - Int.toNat (0 : Int))) (Q [[Cl.b (decide ((0 : Int) <= (↑(Sp.outI lo hi xs.xs (Int.toNat (0 : Int)) (xs.xs.length - Int.toNat (0 : Int))) : Int)))]]) (Q [[Cl.b false]]))
theorem Xij (W : InW) (lo hi xs Q) : Yw5 (cxT Try.prog TT T1 1000 50) 1000 43 [.si .i64 lo, .si .i64 hi, .rs _ xs] [] 0 (Y1i [(false, [.bool])] Q) (fun _ _ _ _ => Stuck 421) = Xe2 lo hi xs Q := by kernel_rfl
abbrev Xb7 : List AT := [.one (.int .i64), .one (.int .i64), .one (.sl Jb)]
theorem Xi1 {pre : DS -> Prop} {res : DS -> DS} (hyp_ : ∀ (W : InW) (lo hi : Int) (xs : Ro Jb), pre [[.i lo], [.i hi], [.l xs.xs]] -> ∀ Q : DS -> Prop, Q (res [[.i lo], [.i hi], [.l xs.xs]]) -> Xe2 lo hi xs Q) : PureOk Try.prog 43 Xb7 [(false, [.bool])] pre res :=
 PureOk.of' (fun W => @TT W) (fun W => @Xc W) Xa T1 1000 50 fun W lo hi xs hp =>
  (Xij W lo hi xs (fun o => o = res [[.i lo], [.i hi], [.l xs.xs]])).mpr (hyp_ W lo hi xs hp _ rfl)
theorem okout : PureOk Try.prog 43 Xb7 [(false, [.bool])] (fun _ => True) Xbx :=
 Xi1 fun W lo hi xs _ Q h => by
  unfold Xe2;simp only [Xbx, Sp.out] at h;rw [show Int.toNat 0 = 0 from rfl, Nat.sub_zero];refine ⟨⟨rfl, by omega, by omega⟩, vif (fun e => ?_) fun e => ?_⟩
  ·rw [e] at h;rw [decide_eq_true (by omega)];exact h
  ·rw [e] at h;exact h
noncomputable def Xh : PC Try.prog := ⟨43, Xb7, [(false, [.bool])], fun _ => True, Xbx, okout⟩
set_option maxHeartbeats 1600000
abbrev tyQ : List Ty := [.int .i64, .int .i64, .int .i64]
namespace Sp
def qPart (qs : Dt) (i : Nat) : Int := (cel qs i 0).int
def qAsk (qs : Dt) (i : Nat) : Int := (cel qs i 1).int
def qBad (qs : Dt) (i : Nat) : Int := (cel qs i 2).int
def qErr (np : Nat) (qs : Dt) (i : Nat) : Int :=
 if inr (qPart qs i) 0 ((np : Int) - 1) then (if inr (qAsk qs i) 0 100000 then (if inr (qBad qs i) 0 (qAsk qs i) then 0 else 7) else 7) else 4
def many (qs : Dt) (p : Int) : Nat -> Int
 | 0 => 0
 | n + 1 => many qs p n + (if qPart qs n = p then 1 else 0)
def wErr (qs ws : Dt) (p : Nat) : Int := if inr (cel ws p 0).int 1 (many qs p qs.length) then 0 else 7
def chk (qs ws : Dt) (lo hi : Int) : Int × Int × Int :=
  if inr qs.length 1 16 && inr ws.length 1 4 then
    (if inr lo 0 16000 && inr hi 0 16000 then
      (if hi < lo then (1, 0, 2)
       else if hasE (qErr ws.length qs) 0 qs.length then (2, idxE (qErr ws.length qs) 0 qs.length, qErr ws.length qs (idxE (qErr ws.length qs) 0 qs.length))
       else if hasE (wErr qs ws) 0 ws.length then (3, idxE (wErr qs ws) 0 ws.length, wErr qs ws (idxE (wErr qs ws) 0 ws.length))
       else (0, 0, 0))
     else (1, 0, 7))
  else (1, 0, 3)
def chkP (qs ws : Dt) (lo hi : Int) : Int := (chk qs ws lo hi).1
def chkI (qs ws : Dt) (lo hi : Int) : Int := (chk qs ws lo hi).2.1
def chkE (qs ws : Dt) (lo hi : Int) : Int := (chk qs ws lo hi).2.2
structure MOk (qs : Dt) (np n : Nat) (ms : Dt) : Prop where
 len : ms.length = np
 ok : ∀ p, p < np -> (cel ms p 0).int = many qs p n
inductive FaM (P : Dt -> Prop) (K : Dt -> Prop) : Prop where
 | mk (h : ∀ xs, P xs -> K xs)
theorem many_bound (qs : Dt) (p : Int) : ∀ n, 0 <= many qs p n /\ many qs p n <= n
 | 0 => by simp [many]
 | n + 1 => by have := many_bound qs p n; rw [many]; split <;> omega
theorem many_succ (qs : Dt) (p : Int) (n : Nat) : many qs p (n + 1) = many qs p n + (if (cel qs n 0).int = p then 1 else 0) := rfl
theorem cel_setS {l : Dt} {j k : Nat} {c : List Cl} (h : j < l.length) : cel (l.set j c) j k = c.getD k .z := by
 unfold cel; rw [List.getD_eq_getElem?_getD (l := l.set j c), List.getElem?_set_self h]; rfl
theorem cel_setN {l : Dt} {j m k : Nat} {c : List Cl} (h : j ≠ m) : cel (l.set j c) m k = cel l m k := by
 unfold cel; rw [List.getD_eq_getElem?_getD (l := l.set j c), List.getElem?_set_ne h, <- List.getD_eq_getElem?_getD]
theorem MOk.step {qs : Dt} {np n : Nat} {ms : Dt} (h : MOk qs np n ms) {p : Int} (hp : (cel qs n 0).int = p) (h0 : 0 <= p) (h1 : p < np) : MOk qs np (n + 1) (ms.set p.toNat [.i ((cel ms p.toNat 0).int + 1)]) := by
 have hl := h.len;refine ⟨by rw [List.length_set, hl], fun k hk => ?_⟩;rw [many_succ, hp]
 by_cases hk2 : p.toNat = k
 ·subst hk2;rw [cel_setS (by omega), if_pos (by omega), <- h.ok _ hk];rfl
 ·rw [cel_setN hk2, if_neg (by omega), h.ok k hk]; omega
theorem MOk.zero {qs : Dt} {np : Nat} : MOk qs np 0 (List.replicate np [.i 0]) := by
 refine ⟨by simp, fun p hp => ?_⟩;simp [cel, hp, many, Cl.int, List.getD_eq_getElem?_getD]
end Sp
theorem Xbb (np : Nat) (qs : Dt) (i : Nat) : Sp.qErr np qs i = if Sp.inr (cel qs i 0).int 0 ((np : Int) - 1) then (if Sp.inr (cel qs i 1).int 0 100000 then (if Sp.inr (cel qs i 2).int 0 (cel qs i 1).int then 0 else 7) else 7) else 4 := rfl
theorem Xc2 (qs ws : Dt) (i : Nat) : Sp.wErr qs ws i = if Sp.inr (cel ws i 0).int 1 (Sp.many qs i qs.length) then 0 else 7 := rfl
abbrev Xj (ds : DS) : DS := match ds with | [[.l qs, .l ws, .i lo, .i hi]] => [[.i (Sp.chkP qs ws lo hi)], [.i (Sp.chkI qs ws lo hi)], [.i (Sp.chkE qs ws lo hi)]] | _ => []
noncomputable def T2 : Tab Try.prog := ⟨[Xim, Xh], [], []⟩
def Xc5 [InW] (e : List Ed) (K : Nat -> List Ed -> Prop) : Prop := match e with
 | [.i i, .ro _ qs, .ro _ ws, .i lo, .i hi, .l ms] => Pre (0 <= i /\ i <= qs.xs.length /\ Sp.MOk qs.xs ws.xs.length i.toNat ms) (Vif (Sp.hasE (Sp.qErr ws.xs.length qs.xs) i.toNat (qs.xs.length - i.toNat))
   (K 1 [.i (Sp.idxE (Sp.qErr ws.xs.length qs.xs) i.toNat (qs.xs.length - i.toNat)), .i (Sp.qErr ws.xs.length qs.xs (Sp.idxE (Sp.qErr ws.xs.length qs.xs) i.toNat (qs.xs.length - i.toNat)))])
   (Sp.FaM (Sp.MOk qs.xs ws.xs.length qs.xs.length) fun ms => K 0 [.ro _ qs, .ro _ ws, .i lo, .i hi, .l ms]))
 | _ => False
noncomputable def Xdy : LC where
 len := 103
 T := [(1, (.ptr 1 0)), (5, (.row 13)), (6, .int .i64)]
 H := [(1, .blk 27 [.rs tyQ, .rs Jb, .int .i64, .int .i64]), (13, .arr 3 Jb)]
 W := ([2, 3, 4, 7] ++ rg 44 41)
 outs := [⟨.exit 0, [(1, (.ptr 1 0)), (5, (.row 13))], [(1, .blk 27 [.rs tyQ, .rs Jb, .int .i64, .int .i64]), (13, .arr 3 Jb)], ([2, 3, 4, 6, 7] ++ rg 44 41)⟩, ⟨.ret, [(2, (.lit (.int .i64 2))), (3, .int .i64), (4, .int .i64)], [], ([1, 5, 6, 7] ++ rg 44 41)⟩]
 spec := Xc5
def Za [W : InW] (i : Int) (qs : Ro tyQ) := cel qs.xs i.toNat (0 : Nat)
def Xch [W : InW] (i : Int) (qs : Ro tyQ) (ws : Ro Jb) (lo hi : Int) (ms : Dt) (A : List Ed -> Prop) (K : Nat -> List Ed -> Prop) : Prop :=
 Vif (decide (i < (↑(qs.xs.length) : Int))) (Need (decide (0 <= i) && decide (i < (↑(qs.xs.length) : Int))) (Need (decide (i.toNat < qs.xs.length)) (Ar .i64 ((↑(ws.xs.length) : Int) - 1) fun z => Pre True (Vif (!Sp.inr (Za i qs).int (0 : Int) z) (K (0+1) [.i i, .i (4 : Int)]) (Pre True (Vif (!Sp.inr (cel qs.xs i.toNat (0+1)).int (0 : Int) (100000 : Int)) (K (0+1) [.i i, .i (7 : Int)]) (Pre True (Vif (!Sp.inr (cel qs.xs i.toNat ((0 : Nat) + 1 + 1)).int (0 : Int) (cel qs.xs i.toNat (0+1)).int) (K (0+1) [.i i, .i (7 : Int)]) (Need (decide ((0 : Int) <= (Za i qs).int) && decide ((Za i qs).int < (↑(ms.length) : Int))) (Need (decide ((Za i qs).int.toNat < ms.length)) (Ar .i64 ((cel ms (Za i qs).int.toNat (0 : Nat)).int + 1) fun z => Need (decide ((0 : Int) <= (Za i qs).int) && decide ((Za i qs).int < (↑(ms.length) : Int))) (Need (decide ((Za i qs).int.toNat < ms.length)) (Ar .i64 (i + 1) fun z_1 => A [.i z_1, .ro _ qs, .ro _ ws, .i lo, .i hi, .l (List.set ms (Za i qs).int.toNat [Cl.i z])]))))))))))))) (K 0 [.ro _ qs, .ro _ ws, .i lo, .i hi, .l ms])
theorem Xgf (W : InW) (i qs ws lo hi ms A K) : Yff { cxT Try.prog TT T2 1000 50 with fn := 17 } 1000 (Yob Try.prog 17 10) (Yd6 103 [(1, .ptr 1 0), (5, .rw 13), (6, .si .i64 i)] ([2, 3, 4, 7] ++ rg 44 41)) [(1, .blk 27 [.rs _ qs, .rs _ ws, .si .i64 lo, .si .i64 hi]), (13, .arr 3 Jb ms)] (Yut Xdy A K) = Xch i qs ws lo hi ms A K := by kernel_rfl
def Xdl : Prop := ∀ (W : InW) (body a : Code), (Try.prog.funcs[17]?).bind (·.body) = some body -> a ∈ Yy body -> Yf0 a = 10 -> @Yms W Try.prog a (@Ytz W Xdy)
theorem Xhf (meas : [InW] -> List Ed -> Nat) (hyp_ : ∀ (W : InW) i qs ws lo hi ms K, Xc5 [.i i, .ro _ qs, .ro _ ws, .i lo, .i hi, .l ms] K -> ∀ A : List Ed -> Prop, (∀ e, meas e < meas [.i i, .ro _ qs, .ro _ ws, .i lo, .i hi, .l ms] -> Xc5 e K -> A e) -> Xch i qs ws lo hi ms A K) : Xdl :=
 LE.okOf' (fun W => @TT W) (fun W => @Xc W) Xa T2 1000 50 (by kernel_rfl) Xdy (fun W => @meas W) fun W i qs ws lo hi ms K hs =>
  (Xgf W i qs ws lo hi ms (fun e => meas e < meas [.i i, .ro _ qs, .ro _ ws, .i lo, .i hi, .l ms] /\ Xc5 e K) K).mpr (hyp_ W i qs ws lo hi ms K hs _ fun e h1 h2 => ⟨h1, h2⟩)
def Xc6 [InW] (e : List Ed) (K : Nat -> List Ed -> Prop) : Prop := match e with
 | [.i i, .ro _ qs, .ro _ ws, .i lo, .i hi, .l ms] => Pre (0 <= i /\ i <= ws.xs.length /\ Sp.MOk qs.xs ws.xs.length qs.xs.length ms) (Vif (Sp.hasE (Sp.wErr qs.xs ws.xs) i.toNat (ws.xs.length - i.toNat))
   (K 1 [.i (Sp.idxE (Sp.wErr qs.xs ws.xs) i.toNat (ws.xs.length - i.toNat)), .i (Sp.wErr qs.xs ws.xs (Sp.idxE (Sp.wErr qs.xs ws.xs) i.toNat (ws.xs.length - i.toNat)))]) (K 0 [.ro _ qs, .ro _ ws, .i lo, .i hi]))
 | _ => False
noncomputable def Xdz : LC where
 len := 103
 T := [(1, (.ptr 1 0)), (5, (.row 13)), (8, .int .i64)]
 H := [(1, .blk 27 [.rs tyQ, .rs Jb, .int .i64, .int .i64]), (13, .arr 3 Jb)]
 W := ([2, 3, 4] ++ rg 85 18)
 outs := [⟨.exit 2, [(1, (.ptr 1 0))], [(1, .blk 27 [.rs tyQ, .rs Jb, .int .i64, .int .i64])], (rg 2 4 ++ [8] ++ rg 85 18)⟩, ⟨.ret, [(2, (.lit (.int .i64 3))), (3, .int .i64), (4, .int .i64)], [], ([1, 5, 8] ++ rg 85 18)⟩]
 spec := Xc6
def Xci [W : InW] (i : Int) (qs : Ro tyQ) (ws : Ro Jb) (lo hi : Int) (ms : Dt) (A : List Ed -> Prop) (K : Nat -> List Ed -> Prop) : Prop :=
 Vif (decide (i < (↑(ms.length) : Int))) (Need (decide (0 <= i) && decide (i < (↑(ws.xs.length) : Int))) (Need (decide (i.toNat < ws.xs.length)) (Need (decide (0 <= i) && decide (i < (↑(ms.length) : Int))) (Need (decide (i.toNat < ms.length)) (Pre True (Vif (!Sp.inr (cel ws.xs i.toNat (0 : Nat)).int (1 : Int) (cel ms i.toNat (0 : Nat)).int) (K (0+1) [.i i, .i (7 : Int)]) (Ar .i64 (i + 1) fun z => A [.i z, .ro _ qs, .ro _ ws, .i lo, .i hi, .l ms]))))))) (K 0 [.ro _ qs, .ro _ ws, .i lo, .i hi])
theorem Xgg (W : InW) (i qs ws lo hi ms A K) : Yff { cxT Try.prog TT T2 1000 50 with fn := 17 } 1000 (Yob Try.prog 17 19) (Yd6 103 [(1, .ptr 1 0), (5, .rw 13), (8, .si .i64 i)] ([2, 3, 4] ++ rg 85 18)) [(1, .blk 27 [.rs _ qs, .rs _ ws, .si .i64 lo, .si .i64 hi]), (13, .arr 3 Jb ms)] (Yut Xdz A K) = Xci i qs ws lo hi ms A K := by kernel_rfl
def Xdm : Prop := ∀ (W : InW) (body a : Code), (Try.prog.funcs[17]?).bind (·.body) = some body -> a ∈ Yy body -> Yf0 a = 19 -> @Yms W Try.prog a (@Ytz W Xdz)
theorem Xhg (meas : [InW] -> List Ed -> Nat) (hyp_ : ∀ (W : InW) i qs ws lo hi ms K, Xc6 [.i i, .ro _ qs, .ro _ ws, .i lo, .i hi, .l ms] K -> ∀ A : List Ed -> Prop, (∀ e, meas e < meas [.i i, .ro _ qs, .ro _ ws, .i lo, .i hi, .l ms] -> Xc6 e K -> A e) -> Xci i qs ws lo hi ms A K) : Xdm :=
 LE.okOf' (fun W => @TT W) (fun W => @Xc W) Xa T2 1000 50 (by kernel_rfl) Xdz (fun W => @meas W) fun W i qs ws lo hi ms K hs =>
  (Xgg W i qs ws lo hi ms (fun e => meas e < meas [.i i, .ro _ qs, .ro _ ws, .i lo, .i hi, .l ms] /\ Xc6 e K) K).mpr (hyp_ W i qs ws lo hi ms K hs _ fun e h1 h2 => ⟨h1, h2⟩)
def Xc8 [InW] (e : List Ed) (K : Nat -> List Ed -> Prop) : Prop := match e with
 | [.i np, .ro _ q2, .i n, .i i, .ro _ qs, .ro _ ws, .i lo, .i hi, .i a, .i b, .i c, .i d] => Pre (np = ws.xs.length /\ ws.xs.length <= 4 /\ 0 <= i /\ i <= qs.xs.length /\ n = qs.xs.length /\ q2.xs = qs.xs /\ a = Sp.many qs.xs 0 i.toNat /\ b = Sp.many qs.xs 1 i.toNat /\ c = Sp.many qs.xs 2 i.toNat /\ d = Sp.many qs.xs 3 i.toNat) (Vif (Sp.hasE (Sp.qErr ws.xs.length qs.xs) i.toNat (qs.xs.length - i.toNat))
   (K 1 [.i (Sp.idxE (Sp.qErr ws.xs.length qs.xs) i.toNat (qs.xs.length - i.toNat)), .i (Sp.qErr ws.xs.length qs.xs (Sp.idxE (Sp.qErr ws.xs.length qs.xs) i.toNat (qs.xs.length - i.toNat)))])
   (K 0 [.ro _ qs, .ro _ ws, .i lo, .i hi, .i (Sp.many qs.xs 0 qs.xs.length), .i (Sp.many qs.xs 1 qs.xs.length), .i (Sp.many qs.xs 2 qs.xs.length), .i (Sp.many qs.xs 3 qs.xs.length)]))
 | _ => False
noncomputable def Xd1 : LC where
 len := 95
 T := [(1, (.ptr 1 0)), (5, .int .i64), (6, (.ptr 19 0)), (43, .rs tyQ), (44, .int .i64), (45, .int .i64)]
 H := [(1, .blk 27 [.rs tyQ, .rs Jb, .int .i64, .int .i64]), (19, .blk 75 [.int .i64, .int .i64, .int .i64, .int .i64])]
 W := ([2, 3, 4, 7, 8] ++ rg 46 33)
 outs := [⟨.exit 1, [(1, (.ptr 1 0)), (6, (.ptr 19 0))], [(1, .blk 27 [.rs tyQ, .rs Jb, .int .i64, .int .i64]), (19, .blk 75 [.int .i64, .int .i64, .int .i64, .int .i64])], (rg 2 4 ++ [7, 8] ++ rg 43 36)⟩, ⟨.ret, [(2, (.lit (.int .i64 2))), (3, .int .i64), (4, .int .i64)], [], ([1] ++ rg 5 4 ++ rg 43 36)⟩]
 spec := Xc8
def Zc [W : InW] (q2 : Ro tyQ) (i : Int) := cel q2.xs i.toNat (0 : Nat)
def Zb [W : InW] (q2 : Ro tyQ) (i : Int) := decide ((0 : Int) <= (Zc q2 i).int) && decide ((Zc q2 i).int < (↑(4 : Nat) : Int))
def Zd [W : InW] (q2 : Ro tyQ) (i : Int) := decide ((Zc q2 i).int = (↑(0 : Nat) : Int))
def Ze [W : InW] (q2 : Ro tyQ) (i : Int) := decide ((Zc q2 i).int = (↑(0+1) : Int))
def Zf [W : InW] (q2 : Ro tyQ) (i : Int) := decide ((Zc q2 i).int = (↑(1+1) : Int))
def Xck [W : InW] (np : Int) (q2 : Ro tyQ) (n i : Int) (qs : Ro tyQ) (ws : Ro Jb) (lo hi a b c d : Int) (A : List Ed -> Prop) (K : Nat -> List Ed -> Prop) : Prop :=
 Vif (decide (i < n)) (Need (decide (0 <= i) && decide (i < (↑(q2.xs.length) : Int))) (Need (decide (i.toNat < q2.xs.length)) (Ar .i64 (np - 1) fun z => Pre True (Vif (Sp.out (0 : Int) z [[Cl.i (Zc q2 i).int]]) (K (0+1) [.i i, .i (4 : Int)]) (Pre True (Vif (Sp.out (0 : Int) (100000 : Int) [[Cl.i (cel q2.xs i.toNat (0+1)).int]]) (K (0+1) [.i i, .i (7 : Int)]) (Pre True (Vif (Sp.out (0 : Int) (cel q2.xs i.toNat (0+1)).int [[Cl.i (cel q2.xs i.toNat ((0 : Nat) + 1 + 1)).int]]) (K (0+1) [.i i, .i (7 : Int)]) (Need (Zb q2 i) (Vif (Zd q2 i) (Ar .i64 (a + 1) fun z => Need (Zb q2 i) (Vif (Zd q2 i) (Ar .i64 (i + 1) fun z_1 => A [.i np, .ro _ q2, .i n, .i z_1, .ro _ qs, .ro _ ws, .i lo, .i hi, .i z, .i b, .i c, .i d]) (Vif (Ze q2 i) (Ar .i64 (i + 1) fun z_1 => A [.i np, .ro _ q2, .i n, .i z_1, .ro _ qs, .ro _ ws, .i lo, .i hi, .i a, .i z, .i c, .i d]) (Vif (Zf q2 i) (Ar .i64 (i + 1) fun z_1 => A [.i np, .ro _ q2, .i n, .i z_1, .ro _ qs, .ro _ ws, .i lo, .i hi, .i a, .i b, .i z, .i d]) (Ar .i64 (i + 1) fun z_1 => A [.i np, .ro _ q2, .i n, .i z_1, .ro _ qs, .ro _ ws, .i lo, .i hi, .i a, .i b, .i c, .i z]))))) (Vif (Ze q2 i) (Ar .i64 (b + 1) fun z => Need (Zb q2 i) (Vif (Zd q2 i) (Ar .i64 (i + 1) fun z_1 => A [.i np, .ro _ q2, .i n, .i z_1, .ro _ qs, .ro _ ws, .i lo, .i hi, .i z, .i b, .i c, .i d]) (Vif (Ze q2 i) (Ar .i64 (i + 1) fun z_1 => A [.i np, .ro _ q2, .i n, .i z_1, .ro _ qs, .ro _ ws, .i lo, .i hi, .i a, .i z, .i c, .i d]) (Vif (Zf q2 i) (Ar .i64 (i + 1) fun z_1 => A [.i np, .ro _ q2, .i n, .i z_1, .ro _ qs, .ro _ ws, .i lo, .i hi, .i a, .i b, .i z, .i d]) (Ar .i64 (i + 1) fun z_1 => A [.i np, .ro _ q2, .i n, .i z_1, .ro _ qs, .ro _ ws, .i lo, .i hi, .i a, .i b, .i c, .i z]))))) (Vif (Zf q2 i) (Ar .i64 (c + 1) fun z => Need (Zb q2 i) (Vif (Zd q2 i) (Ar .i64 (i + 1) fun z_1 => A [.i np, .ro _ q2, .i n, .i z_1, .ro _ qs, .ro _ ws, .i lo, .i hi, .i z, .i b, .i c, .i d]) (Vif (Ze q2 i) (Ar .i64 (i + 1) fun z_1 => A [.i np, .ro _ q2, .i n, .i z_1, .ro _ qs, .ro _ ws, .i lo, .i hi, .i a, .i z, .i c, .i d]) (Vif (Zf q2 i) (Ar .i64 (i + 1) fun z_1 => A [.i np, .ro _ q2, .i n, .i z_1, .ro _ qs, .ro _ ws, .i lo, .i hi, .i a, .i b, .i z, .i d]) (Ar .i64 (i + 1) fun z_1 => A [.i np, .ro _ q2, .i n, .i z_1, .ro _ qs, .ro _ ws, .i lo, .i hi, .i a, .i b, .i c, .i z]))))) (Ar .i64 (d + 1) fun z => Need (Zb q2 i) (Vif (Zd q2 i) (Ar .i64 (i + 1) fun z_1 => A [.i np, .ro _ q2, .i n, .i z_1, .ro _ qs, .ro _ ws, .i lo, .i hi, .i z, .i b, .i c, .i d]) (Vif (Ze q2 i) (Ar .i64 (i + 1) fun z_1 => A [.i np, .ro _ q2, .i n, .i z_1, .ro _ qs, .ro _ ws, .i lo, .i hi, .i a, .i z, .i c, .i d]) (Vif (Zf q2 i) (Ar .i64 (i + 1) fun z_1 => A [.i np, .ro _ q2, .i n, .i z_1, .ro _ qs, .ro _ ws, .i lo, .i hi, .i a, .i b, .i z, .i d]) (Ar .i64 (i + 1) fun z_1 => A [.i np, .ro _ q2, .i n, .i z_1, .ro _ qs, .ro _ ws, .i lo, .i hi, .i a, .i b, .i c, .i z]))))))))))))))))) (K 0 [.ro _ qs, .ro _ ws, .i lo, .i hi, .i a, .i b, .i c, .i d])
theorem Xgi (W : InW) (np q2 n i qs ws lo hi a b c d A K) : Yff { cxT Try.prog TT T2 1000 50 with fn := 16 } 1000 (Yob Try.prog 16 11) (Yd6 95 [(1, .ptr 1 0), (5, .si .i64 np), (6, .ptr 19 0), (43, .rs _ q2), (44, .si .i64 n), (45, .si .i64 i)] ([2, 3, 4, 7, 8] ++ rg 46 33)) [(1, .blk 27 [.rs _ qs, .rs _ ws, .si .i64 lo, .si .i64 hi]), (19, .blk 75 [.si .i64 a, .si .i64 b, .si .i64 c, .si .i64 d])] (Yut Xd1 A K) = Xck np q2 n i qs ws lo hi a b c d A K := by kernel_rfl
def Xdo : Prop := ∀ (W : InW) (body a : Code), (Try.prog.funcs[16]?).bind (·.body) = some body -> a ∈ Yy body -> Yf0 a = 11 -> @Yms W Try.prog a (@Ytz W Xd1)
theorem Xhi (meas : [InW] -> List Ed -> Nat) (hyp_ : ∀ (W : InW) np q2 n i qs ws lo hi a b c d K, Xc8 [.i np, .ro _ q2, .i n, .i i, .ro _ qs, .ro _ ws, .i lo, .i hi, .i a, .i b, .i c, .i d] K -> ∀ A : List Ed -> Prop, (∀ e, meas e < meas [.i np, .ro _ q2, .i n, .i i, .ro _ qs, .ro _ ws, .i lo, .i hi, .i a, .i b, .i c, .i d] -> Xc8 e K -> A e) -> Xck np q2 n i qs ws lo hi a b c d A K) : Xdo :=
 LE.okOf' (fun W => @TT W) (fun W => @Xc W) Xa T2 1000 50 (by kernel_rfl) Xd1 (fun W => @meas W) fun W np q2 n i qs ws lo hi a b c d K hs =>
  (Xgi W np q2 n i qs ws lo hi a b c d (fun e => meas e < meas [.i np, .ro _ q2, .i n, .i i, .ro _ qs, .ro _ ws, .i lo, .i hi, .i a, .i b, .i c, .i d] /\ Xc8 e K) K).mpr (hyp_ W np q2 n i qs ws lo hi a b c d K hs _ fun e h1 h2 => ⟨h1, h2⟩)
def Xc9 [InW] (e : List Ed) (K : Nat -> List Ed -> Prop) : Prop := match e with
 | [.ro _ w2, .i n, .i i, .ro _ qs, .ro _ ws, .i lo, .i hi, .i a, .i b, .i c, .i d] => Pre (0 <= i /\ i <= ws.xs.length /\ ws.xs.length <= 4 /\ n = ws.xs.length /\ w2.xs = ws.xs /\ a = Sp.many qs.xs 0 qs.xs.length /\ b = Sp.many qs.xs 1 qs.xs.length /\ c = Sp.many qs.xs 2 qs.xs.length /\ d = Sp.many qs.xs 3 qs.xs.length) (Vif (Sp.hasE (Sp.wErr qs.xs ws.xs) i.toNat (ws.xs.length - i.toNat))
   (K 1 [.i (Sp.idxE (Sp.wErr qs.xs ws.xs) i.toNat (ws.xs.length - i.toNat)), .i (Sp.wErr qs.xs ws.xs (Sp.idxE (Sp.wErr qs.xs ws.xs) i.toNat (ws.xs.length - i.toNat)))]) (K 0 [.ro _ qs, .ro _ ws, .i lo, .i hi]))
 | _ => False
noncomputable def Xd2 : LC where
 len := 95
 T := [(1, (.ptr 1 0)), (6, (.ptr 19 0)), (80, .rs Jb), (81, .int .i64), (82, .int .i64)]
 H := [(1, .blk 27 [.rs tyQ, .rs Jb, .int .i64, .int .i64]), (19, .blk 75 [.int .i64, .int .i64, .int .i64, .int .i64])]
 W := ([2, 3, 4, 9, 10] ++ rg 83 12)
 outs := [⟨.exit 4, [(1, (.ptr 1 0))], [(1, .blk 27 [.rs tyQ, .rs Jb, .int .i64, .int .i64])], ([2, 3, 4, 6, 9, 10] ++ rg 80 15)⟩, ⟨.ret, [(2, (.lit (.int .i64 3))), (3, .int .i64), (4, .int .i64)], [], ([1, 6, 9, 10] ++ rg 80 15)⟩]
 spec := Xc9
def Zh [W : InW] (w2 : Ro Jb) (i : Int) := [[Cl.i (cel w2.xs i.toNat (0 : Nat)).int]]
def Zg [W : InW] (w2 : Ro Jb) (n i : Int) (qs : Ro tyQ) (ws : Ro Jb) (lo hi a b c d : Int) (A : List Ed -> Prop) := Ar .i64 (i + 1) fun z => A [.ro _ w2, .i n, .i z, .ro _ qs, .ro _ ws, .i lo, .i hi, .i a, .i b, .i c, .i d]
def Xcl [W : InW] (w2 : Ro Jb) (n i : Int) (qs : Ro tyQ) (ws : Ro Jb) (lo hi a b c d : Int) (A : List Ed -> Prop) (K : Nat -> List Ed -> Prop) : Prop :=
 Vif (decide (i < n)) (Need (decide (0 <= i) && decide (i < (↑(w2.xs.length) : Int))) (Need (decide (i.toNat < w2.xs.length)) (Need (decide (0 <= i) && decide (i < (↑(4 : Nat) : Int))) (Vif (decide (i = (↑(0 : Nat) : Int))) (Pre True (Vif (Sp.out (1 : Int) a (Zh w2 i)) (K (0+1) [.i i, .i (7 : Int)]) (Zg w2 n i qs ws lo hi a b c d A))) (Vif (decide (i = (↑(0+1) : Int))) (Pre True (Vif (Sp.out (1 : Int) b (Zh w2 i)) (K (0+1) [.i i, .i (7 : Int)]) (Zg w2 n i qs ws lo hi a b c d A))) (Vif (decide (i = (↑(1+1) : Int))) (Pre True (Vif (Sp.out (1 : Int) c (Zh w2 i)) (K (0+1) [.i i, .i (7 : Int)]) (Zg w2 n i qs ws lo hi a b c d A))) (Pre True (Vif (Sp.out (1 : Int) d (Zh w2 i)) (K (0+1) [.i i, .i (7 : Int)]) (Zg w2 n i qs ws lo hi a b c d A))))))))) (K 0 [.ro _ qs, .ro _ ws, .i lo, .i hi])
theorem Xgj (W : InW) (w2 n i qs ws lo hi a b c d A K) : Yff { cxT Try.prog TT T2 1000 50 with fn := 16 } 1000 (Yob Try.prog 16 20) (Yd6 95 [(1, .ptr 1 0), (6, .ptr 19 0), (80, .rs _ w2), (81, .si .i64 n), (82, .si .i64 i)] ([2, 3, 4, 9, 10] ++ rg 83 12)) [(1, .blk 27 [.rs _ qs, .rs _ ws, .si .i64 lo, .si .i64 hi]), (19, .blk 75 [.si .i64 a, .si .i64 b, .si .i64 c, .si .i64 d])] (Yut Xd2 A K) = Xcl w2 n i qs ws lo hi a b c d A K := by kernel_rfl
def Xdp : Prop := ∀ (W : InW) (body a : Code), (Try.prog.funcs[16]?).bind (·.body) = some body -> a ∈ Yy body -> Yf0 a = 20 -> @Yms W Try.prog a (@Ytz W Xd2)
theorem Xhj (meas : [InW] -> List Ed -> Nat) (hyp_ : ∀ (W : InW) w2 n i qs ws lo hi a b c d K, Xc9 [.ro _ w2, .i n, .i i, .ro _ qs, .ro _ ws, .i lo, .i hi, .i a, .i b, .i c, .i d] K -> ∀ A : List Ed -> Prop, (∀ e, meas e < meas [.ro _ w2, .i n, .i i, .ro _ qs, .ro _ ws, .i lo, .i hi, .i a, .i b, .i c, .i d] -> Xc9 e K -> A e) -> Xcl w2 n i qs ws lo hi a b c d A K) : Xdp :=
 LE.okOf' (fun W => @TT W) (fun W => @Xc W) Xa T2 1000 50 (by kernel_rfl) Xd2 (fun W => @meas W) fun W w2 n i qs ws lo hi a b c d K hs =>
  (Xgj W w2 n i qs ws lo hi a b c d (fun e => meas e < meas [.ro _ w2, .i n, .i i, .ro _ qs, .ro _ ws, .i lo, .i hi, .i a, .i b, .i c, .i d] /\ Xc9 e K) K).mpr (hyp_ W w2 n i qs ws lo hi a b c d K hs _ fun e h1 h2 => ⟨h1, h2⟩)
theorem Xi4 : Xdl := Xhf (fun e => match e with | .i i :: .ro _ qs :: _ => ((qs.xs.length : Int) - i).toNat | _ => 0) fun W i qs ws lo hi ms K hs A hA => by
 obtain ⟨⟨h0, h1, mo⟩, hk⟩ := hs;unfold Xch;delta Za;have hm := qs.len;have hm2 := ws.len;simp only [maxLen] at hm hm2;refine vifd (fun e => ?_) fun e => ?_
 ·rw [show qs.xs.length - i.toNat = (qs.xs.length - (i.toNat + 1)) + 1 by omega] at hk;obtain ⟨g1, g2⟩ := Xee (K1 := fun j e => K 1 [.i j, .i e]) hk;rw [Int.toNat_of_nonneg h0] at g1;have ez : (i + 1).toNat = i.toNat + 1 := by omega
  have hA' : Sp.qErr ws.xs.length qs.xs i.toNat = 0 -> ∀ z, z = (cel ms (cel qs.xs i.toNat 0).int.toNat 0).int + 1 -> A [.i (i + 1), .ro _ qs, .ro _ ws, .i lo, .i hi, .l (ms.set (cel qs.xs i.toNat 0).int.toNat [.i z])] := fun f z hz => by
   have hq := f;rw [Xbb] at hq
   split at hq
   ·rename_i hp;have hp := Sp.inr_iff.1 hp;exact hA _ (by show ((qs.xs.length : Int) - (i + 1)).toNat < ((qs.xs.length : Int) - i).toNat; omega) ⟨⟨by omega, by omega, by rw [ez, hz]; exact mo.step rfl hp.1 (by omega)⟩, by rw [ez]; exact g2 f⟩
   ·omega
  have bad : ∀ n, Sp.qErr ws.xs.length qs.xs i.toNat = n -> n ≠ 0 -> K 1 [.i i, .i n] := fun n hn h => by rw [<- hn]; exact g1 (by rw [hn]; exact h)
  have eN := Lib.hid (Xbb ws.xs.length qs.xs i.toNat);have hl := mo.len;have ho := mo.ok;have hb := fun p => Sp.many_bound qs.xs p i.toNat;clear g1 g2 hk hA mo;generalize Sp.qErr ws.xs.length qs.xs i.toNat = E at *;simp only [Nat.zero_add, Nat.reduceAdd]
  by_cases hp : Sp.inr (cel qs.xs i.toNat 0).int 0 ((ws.xs.length : Int) - 1) = true
  ·have i1 := Sp.inr_iff.1 hp;have h2 := ho (cel qs.xs i.toNat 0).int.toNat (by omega);have h3 := hb ((cel qs.xs i.toNat 0).int.toNat : Nat);clear ho hb
   repeat' (first | omega|intro _|with_reducible first|apply vifd|apply vifn|apply vifq|apply X7|apply X6|apply vifb|apply vif|apply nedd|apply ned2|apply ned|apply ar64|apply Xk|exact True.intro|assumption|rfl|apply And.intro)
   all_goals first | (refine bad _ (by rw [eN.out]; simp_all; done) (by omega)) | (refine hA' (by rw [eN.out]; simp_all; done) _ rfl) | (simp_all; done) | skip
  ·clear ho hb
   repeat' (first | omega|intro _|with_reducible first|apply vifd|apply vifn|apply vifq|apply X7|apply X6|apply vifb|apply vif|apply nedd|apply ned2|apply ned|apply ar64|apply Xk|exact True.intro|assumption|rfl|apply And.intro)
   all_goals first | (refine bad _ (by rw [eN.out]; simp_all; done) (by omega)) | (simp_all; done) | skip
  all_goals trace_state
 ·rw [show qs.xs.length - i.toNat = 0 by omega] at hk;have e2 : i.toNat = qs.xs.length := by omega
  rw [e2] at mo;obtain ⟨hf⟩ := hk.2 rfl;exact hf _ mo
noncomputable def Xjl : LE Try.prog := ⟨17, 10, fun W => @Ytz W Xdy, Xi4⟩
theorem Xi5 : Xdm := Xhg (fun e => match e with | .i i :: _ :: .ro _ ws :: _ => ((ws.xs.length : Int) - i).toNat | _ => 0) fun W i qs ws lo hi ms K hs A hA => by
 obtain ⟨⟨h0, h1, mo⟩, hk⟩ := hs;unfold Xci;have hm := ws.len;simp only [maxLen] at hm;have hl := mo.len;refine vifd (fun e => ?_) fun e => ?_
 ·rw [show ws.xs.length - i.toNat = (ws.xs.length - (i.toNat + 1)) + 1 by omega] at hk;obtain ⟨g1, g2⟩ := Xee (K1 := fun j e => K 1 [.i j, .i e]) hk;rw [Int.toNat_of_nonneg h0] at g1;have ez : (i + 1).toNat = i.toNat + 1 := by omega
  have hA' : Sp.wErr qs.xs ws.xs i.toNat = 0 -> A [.i (i + 1), .ro _ qs, .ro _ ws, .i lo, .i hi, .l ms] := fun f => hA _ (by show ((ws.xs.length : Int) - (i + 1)).toNat < ((ws.xs.length : Int) - i).toNat; omega) ⟨⟨by omega, by omega, mo⟩, by rw [ez]; exact g2 f⟩;have bad : ∀ n, Sp.wErr qs.xs ws.xs i.toNat = n -> n ≠ 0 -> K 1 [.i i, .i n] := fun n hn h => by rw [<- hn]; exact g1 (by rw [hn]; exact h)
  have eN := Lib.hid (Xc2 qs.xs ws.xs i.toNat);have hmo := mo.ok i.toNat (by omega);clear g1 g2 hk hA mo;generalize Sp.wErr qs.xs ws.xs i.toNat = E at *;simp only [Nat.zero_add, Nat.reduceAdd]
  repeat' (first | omega|intro _|with_reducible first|apply vifd|apply vifn|apply vifq|apply X7|apply X6|apply vifb|apply vif|apply nedd|apply ned2|apply ned|apply ar64|apply Xk|exact True.intro|assumption|rfl|apply And.intro)
  all_goals first | exact bad _ (by rw [eN.out]; simp_all) (by omega) | exact hA' (by rw [eN.out]; simp_all) | skip
  all_goals trace_state
 ·rw [show ws.xs.length - i.toNat = 0 by omega] at hk
  first | exact hk.2 rfl | exact vifd (fun e => absurd e (by omega)) fun _ => hk.2 rfl
noncomputable def Xjm : LE Try.prog := ⟨17, 19, fun W => @Ytz W Xdz, Xi5⟩
theorem Xi7 : Xdo := Xhi (fun e => match e with | _ :: _ :: _ :: .i i :: .ro _ qs :: _ => ((qs.xs.length : Int) - i).toNat | _ => 0) fun W np q2 n i qs ws lo hi a b c d K hs A hA => by
 obtain ⟨⟨rfl, h4, h0, h1, rfl, hq, rfl, rfl, rfl, rfl⟩, hk⟩ := hs;unfold Xck;delta Zf Ze Zd Zb Zc;have hm := qs.len;have hm2 := ws.len;simp only [maxLen] at hm hm2;refine vifd (fun e => ?_) fun e => ?_
 ·rw [show qs.xs.length - i.toNat = (qs.xs.length - (i.toNat + 1)) + 1 by omega] at hk;obtain ⟨g1, g2⟩ := Xee (K1 := fun j e => K 1 [.i j, .i e]) hk;rw [Int.toNat_of_nonneg h0] at g1;have ez : (i + 1).toNat = i.toNat + 1 := by omega
  have hA' : Sp.qErr ws.xs.length qs.xs i.toNat = 0 -> ∀ a b c d, a = Sp.many qs.xs 0 (i.toNat + 1) -> b = Sp.many qs.xs 1 (i.toNat + 1) -> c = Sp.many qs.xs 2 (i.toNat + 1) -> d = Sp.many qs.xs 3 (i.toNat + 1) -> A [.i ws.xs.length, .ro _ q2, .i qs.xs.length, .i (i + 1), .ro _ qs, .ro _ ws, .i lo, .i hi, .i a, .i b, .i c, .i d] := fun f a b c d ea eb ec ed => hA _ (by show ((qs.xs.length : Int) - (i + 1)).toNat < ((qs.xs.length : Int) - i).toNat; omega) ⟨⟨rfl, h4, by omega, by omega, rfl, hq, by rw [ez]; exact ea, by rw [ez]; exact eb, by rw [ez]; exact ec, by rw [ez]; exact ed⟩, by rw [ez]; exact g2 f⟩;have bad : ∀ n, Sp.qErr ws.xs.length qs.xs i.toNat = n -> n ≠ 0 -> K 1 [.i i, .i n] := fun n hn h => by rw [<- hn]; exact g1 (by rw [hn]; exact h)
  have eN := Lib.hid (Xbb ws.xs.length qs.xs i.toNat);simp only [Sp.many_succ] at hA';have b0 := Sp.many_bound qs.xs 0 i.toNat;have b1 := Sp.many_bound qs.xs 1 i.toNat;have b2 := Sp.many_bound qs.xs 2 i.toNat;have b3 := Sp.many_bound qs.xs 3 i.toNat;clear g1 g2 hk hA;generalize Sp.qErr ws.xs.length qs.xs i.toNat = E at *;generalize Sp.many qs.xs 0 i.toNat = m0 at *;generalize Sp.many qs.xs 1 i.toNat = m1 at *;generalize Sp.many qs.xs 2 i.toNat = m2 at *;generalize Sp.many qs.xs 3 i.toNat = m3 at *;have hl2 : q2.xs.length = qs.xs.length := by rw [hq]
  simp only [Nat.zero_add, Nat.reduceAdd, out1, hq]
  by_cases hp : Sp.inr (cel qs.xs i.toNat 0).int 0 ((ws.xs.length : Int) - 1) = true
  ·have i1 := Sp.inr_iff.1 hp
   repeat' (first | omega|intro _|with_reducible first|apply vifd|apply vifn|apply vifq|apply X7|apply X6|apply vifb|apply vif|apply nedd|apply ned2|apply ned|apply ar64|apply Xk|exact True.intro|assumption|rfl|apply And.intro)
   all_goals first | (refine bad _ (by rw [eN.out]; simp_all; done) (by omega)) | (refine hA' (by rw [eN.out]; simp_all; done) _ _ _ _ ?_ ?_ ?_ ?_ <;> split <;> omega) | (simp_all; done) | skip
  ·repeat' (first | omega|intro _|with_reducible first|apply vifd|apply vifn|apply vifq|apply X7|apply X6|apply vifb|apply vif|apply nedd|apply ned2|apply ned|apply ar64|apply Xk|exact True.intro|assumption|rfl|apply And.intro)
   all_goals first | (refine bad _ (by rw [eN.out]; simp_all; done) (by omega)) | (simp_all; done) | skip
  all_goals trace_state
 ·rw [show qs.xs.length - i.toNat = 0 by omega] at hk;have e2 : i.toNat = qs.xs.length := by omega
  rw [e2];exact hk.2 rfl
noncomputable def Xjo : LE Try.prog := ⟨16, 11, fun W => @Ytz W Xd1, Xi7⟩
theorem Xi8 : Xdp := Xhj (fun e => match e with | _ :: _ :: .i i :: _ :: .ro _ ws :: _ => ((ws.xs.length : Int) - i).toNat | _ => 0) fun W w2 n i qs ws lo hi a b c d K hs A hA => by
 obtain ⟨⟨h0, h1, h4, rfl, hq, rfl, rfl, rfl, rfl⟩, hk⟩ := hs;unfold Xcl;delta Zg Zh;have hm := ws.len;simp only [maxLen] at hm;refine vifd (fun e => ?_) fun e => ?_
 ·rw [show ws.xs.length - i.toNat = (ws.xs.length - (i.toNat + 1)) + 1 by omega] at hk;obtain ⟨g1, g2⟩ := Xee (K1 := fun j e => K 1 [.i j, .i e]) hk;rw [Int.toNat_of_nonneg h0] at g1;have ez : (i + 1).toNat = i.toNat + 1 := by omega
  have hA' : Sp.wErr qs.xs ws.xs i.toNat = 0 -> A [.ro _ w2, .i ws.xs.length, .i (i + 1), .ro _ qs, .ro _ ws, .i lo, .i hi, .i (Sp.many qs.xs 0 qs.xs.length), .i (Sp.many qs.xs 1 qs.xs.length), .i (Sp.many qs.xs 2 qs.xs.length), .i (Sp.many qs.xs 3 qs.xs.length)] := fun f => hA _ (by show ((ws.xs.length : Int) - (i + 1)).toNat < ((ws.xs.length : Int) - i).toNat; omega) ⟨⟨by omega, by omega, h4, rfl, hq, rfl, rfl, rfl, rfl⟩, by rw [ez]; exact g2 f⟩;have bad : ∀ n, Sp.wErr qs.xs ws.xs i.toNat = n -> n ≠ 0 -> K 1 [.i i, .i n] := fun n hn h => by rw [<- hn]; exact g1 (by rw [hn]; exact h)
  have eN := Lib.hid (Xc2 qs.xs ws.xs i.toNat);rw [Int.toNat_of_nonneg h0] at eN;clear g1 g2 hk hA;generalize Sp.wErr qs.xs ws.xs i.toNat = E at *;have hl2 : w2.xs.length = ws.xs.length := by rw [hq]
  simp only [Nat.zero_add, Nat.reduceAdd, out1, hq];have c4 : i = 0 \/ i = 1 \/ i = 2 \/ i = 3 := by omega
  rcases c4 with rfl | rfl | rfl | rfl
  all_goals repeat' (first | omega|intro _|with_reducible first|apply vifd|apply vifn|apply vifq|apply X7|apply X6|apply vifb|apply vif|apply nedd|apply ned2|apply ned|apply ar64|apply Xk|exact True.intro|assumption|rfl|apply And.intro)
  all_goals first | exact bad _ (eN.out.trans (if_neg (ne_true_of_eq_false (by assumption)))) (by omega) | exact hA' (eN.out.trans (if_pos (by assumption))) | omega
 ·rw [show ws.xs.length - i.toNat = 0 by omega] at hk;exact hk.2 rfl
noncomputable def Xjp : LE Try.prog := ⟨16, 20, fun W => @Ytz W Xd2, Xi8⟩
noncomputable def T3 : Tab Try.prog := ⟨[Xim], [Xjl, Xjm], []⟩
noncomputable def T4 : Tab Try.prog := ⟨[Xh], [Xjo, Xjp], []⟩
def Zj [W : InW] (k_Ws : Ro Jb) := (↑(k_Ws.xs.length) : Int)
def Zk := (0 : Int)
def Zi := Int.toNat Zk
def X2 [W : InW] (kQ : Ro tyQ) (k_Ws : Ro Jb) (k_Lo k_Hi : Int) (Q : DS -> Prop) : Prop :=
 Pre True (Vif (!Sp.inr (↑(kQ.xs.length) : Int) (1 : Int) (16 : Int)) (Q [[Cl.i 1], [Cl.i 0], [Cl.i 3]]) (Pre True (Vif (!Sp.inr (Zj k_Ws) (1 : Int) (4 : Int)) (Q [[Cl.i 1], [Cl.i 0], [Cl.i 3]]) (Pre True (Vif (!Sp.inr k_Lo Zk (16000 : Int)) (Q [[Cl.i 1], [Cl.i 0], [Cl.i 7]]) (Pre True (Vif (!Sp.inr k_Hi Zk (16000 : Int)) (Q [[Cl.i 1], [Cl.i 0], [Cl.i 7]]) (Vif (decide (k_Hi < k_Lo)) (Q [[Cl.i 1], [Cl.i 0], [Cl.i 2]]) (Need (decide ((Zj k_Ws) = (Zj k_Ws)) && decide (Zk <= (Zj k_Ws)) && decide ((8 : Nat) * (Zj k_Ws).toNat <= 281474976710656)) (Pre (Zk <= 0 /\ Zk <= (↑(kQ.xs.length) : Int) /\ Sp.MOk kQ.xs (k_Ws.xs.length) Zi (List.replicate (Zj k_Ws).toNat (Ybp [Ty.int IntKind.i64]))) (Vif (Sp.hasE (Sp.qErr (k_Ws.xs.length) kQ.xs) Zi (kQ.xs.length - Int.toNat Zk)) (Q [[Cl.i 2], [Cl.i (↑(Sp.idxE (Sp.qErr (k_Ws.xs.length) kQ.xs) Zi (kQ.xs.length - Int.toNat Zk)) : Int)], [Cl.i (Sp.qErr (k_Ws.xs.length) kQ.xs (Sp.idxE (Sp.qErr (k_Ws.xs.length) kQ.xs) Zi (kQ.xs.length - Int.toNat Zk)))]]) (Sp.FaM (Sp.MOk kQ.xs (k_Ws.xs.length) (kQ.xs.length)) fun ys => Pre (Zk <= 0 /\ Zk <= (Zj k_Ws) /\ Sp.MOk kQ.xs (k_Ws.xs.length) (kQ.xs.length) ys) (Vif (Sp.hasE (Sp.wErr kQ.xs k_Ws.xs) Zi (k_Ws.xs.length - Int.toNat Zk)) (Q [[Cl.i 3], [Cl.i (↑(Sp.idxE (Sp.wErr kQ.xs k_Ws.xs) Zi (k_Ws.xs.length - Int.toNat Zk)) : Int)], [Cl.i (Sp.wErr kQ.xs k_Ws.xs (Sp.idxE (Sp.wErr kQ.xs k_Ws.xs) Zi (k_Ws.xs.length - Int.toNat Zk)))]]) (Q [[Cl.i 0], [Cl.i 0], [Cl.i 0]]))))))))))))))
theorem Xec (W : InW) (kQ k_Ws k_Lo k_Hi Q) : Yw5 (cxT Try.prog TT T3 1000 50) 1000 17 [.agg [.rs _ kQ, .rs _ k_Ws, .si .i64 k_Lo, .si .i64 k_Hi]] [] 0 (Y1i [(false, [.int .i64]), (false, [.int .i64]), (false, [.int .i64])] Q) (fun _ _ _ _ => Stuck 421) = X2 kQ k_Ws k_Lo k_Hi Q := by kernel_rfl
abbrev Xp : List AT := [.agg [.sl tyQ, .sl Jb, .int .i64, .int .i64]]
theorem Xeo {pre : DS -> Prop} {res : DS -> DS} (hyp_ : ∀ (W : InW) (kQ : Ro tyQ) (k_Ws : Ro Jb) (k_Lo k_Hi : Int), pre [[.l kQ.xs, .l k_Ws.xs, .i k_Lo, .i k_Hi]] -> ∀ Q : DS -> Prop, Q (res [[.l kQ.xs, .l k_Ws.xs, .i k_Lo, .i k_Hi]]) -> X2 kQ k_Ws k_Lo k_Hi Q) : PureOk Try.prog 17 Xp [(false, [.int .i64]), (false, [.int .i64]), (false, [.int .i64])] pre res :=
 PureOk.of' (fun W => @TT W) (fun W => @Xc W) Xa T3 1000 50 fun W kQ k_Ws k_Lo k_Hi hp =>
  (Xec W kQ k_Ws k_Lo k_Hi (fun o => o = res [[.l kQ.xs, .l k_Ws.xs, .i k_Lo, .i k_Hi]])).mpr (hyp_ W kQ k_Ws k_Lo k_Hi hp _ rfl)
theorem out2n (lo hi a b : Int) : Sp.out lo hi [[Cl.i a], [Cl.i b]] = !(Sp.inr a lo hi && Sp.inr b lo hi) := by simp [Sp.out, Sp.outs, cel, Cl.int, Bool.not_and]
theorem Xev {qs ws : Dt} {lo hi : Int} {Q : Int × Int × Int -> Prop} (h : Q (Sp.chk qs ws lo hi)) :
  let c := Sp.inr qs.length 1 16 && Sp.inr ws.length 1 4
  let d := Sp.inr lo 0 16000 && Sp.inr hi 0 16000
  (c = false -> Q (1, 0, 3)) /\
  (c = true -> d = false -> Q (1, 0, 7)) /\
  (c = true -> d = true -> hi < lo -> Q (1, 0, 2)) /\
  (c = true -> d = true -> ¬ hi < lo -> Sp.hasE (Sp.qErr ws.length qs) 0 qs.length = true -> Q (2, Sp.idxE (Sp.qErr ws.length qs) 0 qs.length, Sp.qErr ws.length qs (Sp.idxE (Sp.qErr ws.length qs) 0 qs.length))) /\
  (c = true -> d = true -> ¬ hi < lo -> Sp.hasE (Sp.qErr ws.length qs) 0 qs.length = false -> Sp.hasE (Sp.wErr qs ws) 0 ws.length = true -> Q (3, Sp.idxE (Sp.wErr qs ws) 0 ws.length, Sp.wErr qs ws (Sp.idxE (Sp.wErr qs ws) 0 ws.length))) /\
  (c = true -> d = true -> ¬ hi < lo -> Sp.hasE (Sp.qErr ws.length qs) 0 qs.length = false -> Sp.hasE (Sp.wErr qs ws) 0 ws.length = false -> Q (0, 0, 0)) := by
 intro c d;unfold Sp.chk at h;refine ⟨fun e => ?_, fun e e1 => ?_, fun e e1 e2 => ?_, fun e e1 e2 e3 => ?_, fun e e1 e2 e3 e4 => ?_, fun e e1 e2 e3 e4 => ?_⟩
 ·rw [if_neg (by show ¬ c = true; simp [e])] at h; exact h
 ·rw [if_pos (show c = true from e), if_neg (by show ¬ d = true; simp [e1])] at h; exact h
 ·rw [if_pos (show c = true from e), if_pos (show d = true from e1), if_pos e2] at h; exact h
 ·rw [if_pos (show c = true from e), if_pos (show d = true from e1), if_neg e2, if_pos e3] at h; exact h
 ·rw [if_pos (show c = true from e), if_pos (show d = true from e1), if_neg e2, if_neg (by simp [e3]), if_pos e4] at h; exact h
 ·rw [if_pos (show c = true from e), if_pos (show d = true from e1), if_neg e2, if_neg (by simp [e3]), if_neg (by simp [e4])] at h; exact h
theorem Xfn : PureOk Try.prog 17 Xp [(false, [.int .i64]), (false, [.int .i64]), (false, [.int .i64])] (fun _ => True) Xj :=
 Xeo fun W qs ws lo hi hp Q h => by
  unfold X2;delta Zi Zk Zj;obtain ⟨q0, q1, q2, q3, q4, q5⟩ := Xev (Q := fun r => Q [[.i r.1], [.i r.2.1], [.i r.2.2]]) h;clear h;have h4 : Sp.inr ws.xs.length 1 4 = true -> ws.xs.length <= 4 := fun h => by have := (Sp.inr_iff.1 h).2; omega
  simp only [show Int.toNat 0 = 0 from rfl, Nat.sub_zero]
  repeat' (first | (refine ned (by have := h4 (by assumption); simp; omega) ?_) | exact Sp.MOk.zero | (refine Sp.FaM.mk fun ys hy => ?_) | omega|intro _|with_reducible first|apply vifd|apply vifn|apply vifq|apply X7|apply X6|apply vifb|apply vif|apply nedd|apply ned2|apply ned|apply ar64|apply Xk|exact True.intro|assumption|rfl|apply And.intro)
  all_goals first | exact q5 (by simp [*]) (by simp [*]) (by assumption) (by assumption) (by assumption) | exact q4 (by simp [*]) (by simp [*]) (by assumption) (by assumption) (by assumption) | exact q3 (by simp [*]) (by simp [*]) (by assumption) (by assumption) | exact q2 (by simp [*]) (by simp [*]) (by assumption) | exact q1 (by simp [*]) (by simp [*]) | exact q0 (by simp [*]) | (simp_all; done)
noncomputable def Xej : PC Try.prog := ⟨17, Xp, [(false, [.int .i64]), (false, [.int .i64]), (false, [.int .i64])], fun _ => True, Xj, Xfn⟩
def Zm [W : InW] (k_Ws : Ro Jb) := (↑(k_Ws.xs.length) : Int)
def Zl := Int.toNat Zk
def X3 [W : InW] (kQ : Ro tyQ) (k_Ws : Ro Jb) (k_Lo k_Hi : Int) (Q : DS -> Prop) : Prop :=
 Pre True (Vif (Sp.out (1 : Int) (16 : Int) [[Cl.i (↑(kQ.xs.length) : Int)]]) (Q [[Cl.i 1], [Cl.i 0], [Cl.i 3]]) (Pre True (Vif (Sp.out (1 : Int) (4 : Int) [[Cl.i (Zm k_Ws)]]) (Q [[Cl.i 1], [Cl.i 0], [Cl.i 3]]) (Pre True (Vif (Sp.out Zk (16000 : Int) [[Cl.i k_Lo], [Cl.i k_Hi]]) (Q [[Cl.i 1], [Cl.i 0], [Cl.i 7]]) (Vif (decide (k_Hi < k_Lo)) (Q [[Cl.i 1], [Cl.i 0], [Cl.i 2]]) (Pre ((Zm k_Ws) = (Zm k_Ws) /\ k_Ws.xs.length <= 4 /\ Zk <= 0 /\ Zk <= (↑(kQ.xs.length) : Int) /\ (↑(kQ.xs.length) : Int) = (↑(kQ.xs.length) : Int) /\ kQ.xs = kQ.xs /\ Zk = Sp.many kQ.xs Zk Zl /\ Zk = Sp.many kQ.xs (1 : Int) Zl /\ Zk = Sp.many kQ.xs (2 : Int) Zl /\ Zk = Sp.many kQ.xs (3 : Int) Zl) (Vif (Sp.hasE (Sp.qErr (k_Ws.xs.length) kQ.xs) Zl (kQ.xs.length - Int.toNat Zk)) (Q [[Cl.i 2], [Cl.i (↑(Sp.idxE (Sp.qErr (k_Ws.xs.length) kQ.xs) Zl (kQ.xs.length - Int.toNat Zk)) : Int)], [Cl.i (Sp.qErr (k_Ws.xs.length) kQ.xs (Sp.idxE (Sp.qErr (k_Ws.xs.length) kQ.xs) Zl (kQ.xs.length - Int.toNat Zk)))]]) (Pre (Zk <= 0 /\ Zk <= (Zm k_Ws) /\ k_Ws.xs.length <= 4 /\ (Zm k_Ws) = (Zm k_Ws) /\ k_Ws.xs = k_Ws.xs /\ Sp.many kQ.xs Zk (kQ.xs.length) = Sp.many kQ.xs Zk (kQ.xs.length) /\ Sp.many kQ.xs (1 : Int) (kQ.xs.length) = Sp.many kQ.xs (1 : Int) (kQ.xs.length) /\ Sp.many kQ.xs (2 : Int) (kQ.xs.length) = Sp.many kQ.xs (2 : Int) (kQ.xs.length) /\ Sp.many kQ.xs (3 : Int) (kQ.xs.length) = Sp.many kQ.xs (3 : Int) (kQ.xs.length)) (Vif (Sp.hasE (Sp.wErr kQ.xs k_Ws.xs) Zl (k_Ws.xs.length - Int.toNat Zk)) (Q [[Cl.i 3], [Cl.i (↑(Sp.idxE (Sp.wErr kQ.xs k_Ws.xs) Zl (k_Ws.xs.length - Int.toNat Zk)) : Int)], [Cl.i (Sp.wErr kQ.xs k_Ws.xs (Sp.idxE (Sp.wErr kQ.xs k_Ws.xs) Zl (k_Ws.xs.length - Int.toNat Zk)))]]) (Q [[Cl.i 0], [Cl.i 0], [Cl.i 0]])))))))))))
theorem Xed (W : InW) (kQ k_Ws k_Lo k_Hi Q) : Yw5 (cxT Try.prog TT T4 1000 50) 1000 16 [.agg [.rs _ kQ, .rs _ k_Ws, .si .i64 k_Lo, .si .i64 k_Hi]] [] 0 (Y1i [(false, [.int .i64]), (false, [.int .i64]), (false, [.int .i64])] Q) (fun _ _ _ _ => Stuck 421) = X3 kQ k_Ws k_Lo k_Hi Q := by kernel_rfl
abbrev Xq : List AT := [.agg [.sl tyQ, .sl Jb, .int .i64, .int .i64]]
theorem Xep {pre : DS -> Prop} {res : DS -> DS} (hyp_ : ∀ (W : InW) (kQ : Ro tyQ) (k_Ws : Ro Jb) (k_Lo k_Hi : Int), pre [[.l kQ.xs, .l k_Ws.xs, .i k_Lo, .i k_Hi]] -> ∀ Q : DS -> Prop, Q (res [[.l kQ.xs, .l k_Ws.xs, .i k_Lo, .i k_Hi]]) -> X3 kQ k_Ws k_Lo k_Hi Q) : PureOk Try.prog 16 Xq [(false, [.int .i64]), (false, [.int .i64]), (false, [.int .i64])] pre res :=
 PureOk.of' (fun W => @TT W) (fun W => @Xc W) Xa T4 1000 50 fun W kQ k_Ws k_Lo k_Hi hp =>
  (Xed W kQ k_Ws k_Lo k_Hi (fun o => o = res [[.l kQ.xs, .l k_Ws.xs, .i k_Lo, .i k_Hi]])).mpr (hyp_ W kQ k_Ws k_Lo k_Hi hp _ rfl)
theorem Xfo : PureOk Try.prog 16 Xq [(false, [.int .i64]), (false, [.int .i64]), (false, [.int .i64])] (fun _ => True) Xj :=
 Xep fun W qs ws lo hi hp Q h => by
  unfold X3;delta Zl Zk Zm;obtain ⟨q0, q1, q2, q3, q4, q5⟩ := Xev (Q := fun r => Q [[.i r.1], [.i r.2.1], [.i r.2.2]]) h;clear h;have h4 : Sp.inr ws.xs.length 1 4 = true -> ws.xs.length <= 4 := fun h => by have := (Sp.inr_iff.1 h).2; omega
  simp only [show Int.toNat 0 = 0 from rfl, Nat.sub_zero, out1, out2n, show ∀ p, Sp.many qs.xs p 0 = 0 from fun _ => rfl]
  repeat' (first | (exact h4 (by assumption)) | omega|intro _|with_reducible first|apply vifd|apply vifn|apply vifq|apply X7|apply X6|apply vifb|apply vif|apply nedd|apply ned2|apply ned|apply ar64|apply Xk|exact True.intro|assumption|rfl|apply And.intro)
  all_goals first | exact q5 (by simp [*]) (by simp [*]) (by assumption) (by assumption) (by assumption) | exact q4 (by simp [*]) (by simp [*]) (by assumption) (by assumption) (by assumption) | exact q3 (by simp [*]) (by simp [*]) (by assumption) (by assumption) | exact q2 (by simp [*]) (by simp [*]) (by assumption) | exact q1 (by simp [*]) (by simp [*]) | exact q0 (by simp [*]) | (simp_all; done)
noncomputable def Xbp : PC Try.prog := ⟨16, Xq, [(false, [.int .i64]), (false, [.int .i64]), (false, [.int .i64])], fun _ => True, Xj, Xfo⟩
structure V4 where
 a : Int
 b : Int
 c : Int
 d : Int
deriving DecidableEq
namespace Sp
def V4.get (v : V4) (p : Int) : Int := if p = 0 then v.a else if p = 1 then v.b else if p = 2 then v.c else v.d
def V4.dec (v : V4) (p : Int) : V4 := if p = 0 then ⟨v.a - 1, v.b, v.c, v.d⟩ else if p = 1 then ⟨v.a, v.b - 1, v.c, v.d⟩ else if p = 2 then ⟨v.a, v.b, v.c - 1, v.d⟩ else ⟨v.a, v.b, v.c, v.d - 1⟩
def V4.nil (v : V4) : Bool := decide (v.a = 0) && decide (v.b = 0) && decide (v.c = 0) && decide (v.d = 0)
structure V4.Ok (v : V4) : Prop where
 a : 0 <= v.a /\ v.a <= 16
 b : 0 <= v.b /\ v.b <= 16
 c : 0 <= v.c /\ v.c <= 16
 d : 0 <= v.d /\ v.d <= 16
theorem V4.Ok.dec {v : V4} (h : V4.Ok v) {p : Int} (hp : 1 <= V4.get v p) : V4.Ok (V4.dec v p) := by
 obtain ⟨h1, h2, h3, h4⟩ := h;unfold V4.get at hp;unfold V4.dec
 split at hp
 ·rw [if_pos (by assumption)]; exact ⟨by simp only; omega, h2, h3, h4⟩
 ·rw [if_neg (by assumption)]
  split at hp
  ·rw [if_pos (by assumption)]; exact ⟨h1, by simp only; omega, h3, h4⟩
  ·rw [if_neg (by assumption)]
   split at hp
   ·rw [if_pos (by assumption)]; exact ⟨h1, h2, by simp only; omega, h4⟩
   ·rw [if_neg (by assumption)]; exact ⟨h1, h2, h3, by simp only; omega⟩
def wt (qs : Dt) (i : Nat) : Int := if qAsk qs i = 0 then 500 else (qBad qs i * 1000).tdiv (qAsk qs i)
def gen (qs : Dt) (lo hi : Int) : Nat -> Int -> V4 -> List Dt
 | 0, s, v => if V4.nil v && inr s lo hi then [[]] else []
 | m + 1, s, v => if V4.nil v then (if inr s lo hi then [[]] else [])
  else (if 1 <= V4.get v (qPart qs (qs.length - (m + 1))) then (gen qs lo hi m (s + wt qs (qs.length - (m + 1))) (V4.dec v (qPart qs (qs.length - (m + 1))))).map ([Cl.i ((qs.length - (m + 1) : Nat) : Int)] :: ·) else []) ++ gen qs lo hi m s v
def cnt (qs : Dt) (lo hi : Int) (m : Nat) (s : Int) (v : V4) : Int := (gen qs lo hi m s v).length
theorem gen_nil {qs : Dt} {lo hi : Int} {v : V4} (h : V4.nil v = true) : ∀ m s, gen qs lo hi m s v = if inr s lo hi then [[]] else []
 | 0, s => by rw [gen, h]; simp
 | m + 1, s => by rw [gen, if_pos h]
theorem gen_zero {qs : Dt} {lo hi : Int} {v : V4} (h : V4.nil v = false) (s : Int) : gen qs lo hi 0 s v = [] := by rw [gen, h]; simp
theorem gen_succ {qs : Dt} {lo hi : Int} {v : V4} (h : V4.nil v = false) {m i : Nat} (hi' : i + m + 1 = qs.length) (s : Int) :
  gen qs lo hi (m + 1) s v = (if 1 <= V4.get v (qPart qs i) then (gen qs lo hi m (s + wt qs i) (V4.dec v (qPart qs i))).map ([Cl.i (i : Int)] :: ·) else []) ++ gen qs lo hi m s v := by
 rw [gen, if_neg (by simp [h]), show qs.length - (m + 1) = i by omega]
theorem cnt_nil {qs : Dt} {lo hi : Int} {v : V4} (h : V4.nil v = true) (m : Nat) (s : Int) : cnt qs lo hi m s v = if inr s lo hi then 1 else 0 := by
 unfold cnt; rw [gen_nil h]; split <;> rfl
theorem cnt_zero {qs : Dt} {lo hi : Int} {v : V4} (h : V4.nil v = false) (s : Int) : cnt qs lo hi 0 s v = 0 := by unfold cnt; rw [gen_zero h]; rfl
theorem cnt_succ {qs : Dt} {lo hi : Int} {v : V4} (h : V4.nil v = false) {m i : Nat} (hi' : i + m + 1 = qs.length) (s : Int) :
  cnt qs lo hi (m + 1) s v = (if 1 <= V4.get v (qPart qs i) then cnt qs lo hi m (s + wt qs i) (V4.dec v (qPart qs i)) else 0) + cnt qs lo hi m s v := by
 unfold cnt; rw [gen_succ h hi']; split <;> simp
theorem cnt_bound (qs : Dt) (lo hi : Int) : ∀ m s v, 0 <= cnt qs lo hi m s v /\ cnt qs lo hi m s v <= 2 ^ m
 | 0, s, v => by unfold cnt; rw [gen]; split <;> simp
 | m + 1, s, v => by
  have h1 : (2 : Int) ^ (m + 1) = 2 ^ m + 2 ^ m := by rw [Int.pow_succ]; omega
  have h2 : (0 : Int) < 2 ^ m := Int.pow_pos (by omega);cases hv : V4.nil v with
  | true => rw [cnt_nil hv]; split <;> omega
  | false =>
   unfold cnt;rw [gen, if_neg (by simp [hv])];have a1 := cnt_bound qs lo hi m s v;have a2 := cnt_bound qs lo hi m (s + wt qs (qs.length - (m + 1))) (V4.dec v (qPart qs (qs.length - (m + 1))));unfold cnt at a1 a2
   split <;> simp <;> omega
theorem cnt_16 {qs : Dt} {lo hi : Int} {m : Nat} (h : m <= 16) (s : Int) (v : V4) : 0 <= cnt qs lo hi m s v /\ cnt qs lo hi m s v <= 65536 := by
 have h1 := cnt_bound qs lo hi m s v;have h2 : (2 : Int) ^ m <= 2 ^ 16 := by exact_mod_cast Nat.pow_le_pow_right (n := 2) (by omega) h
 have h3 : (2 : Int) ^ 16 = 65536 := by decide
 omega
def stV (q : List Cl) : V4 := ⟨rI q 2, rI q 3, rI q 4, rI q 5⟩
def cntQ (qs : Dt) (lo hi : Int) (q : List Cl) : Int := cnt qs lo hi (qs.length - (rI q 0).toNat) (rI q 1) (stV q)
structure MemoOk (qs : Dt) (lo hi : Int) (xs : Dt) : Prop where
 ok : ∀ q, hasP xs q = true -> getP xs q = cntQ qs lo hi q
theorem key6_row7 (q r : List Cl) (v : Int) : key6 (row7 q v) r ↔ key6 q r := by simp [key6, row7, rI, Cl.int]
theorem key6_trans {a b c : List Cl} (h : key6 a b) (g : key6 a c) : key6 b c := by
 unfold key6 at *; omega
theorem Yr1 {a b : List Cl} (h : key6 a b) : key6 b a := by unfold key6 at *; omega
theorem hasP_set : ∀ (es : Dt) (q r : List Cl) (v : Int), hasP (setP es q v) r = true -> key6 q r \/ hasP es r = true
 | [], q, r, v, h => by
  simp only [setP, hasP] at h
  split at h
  ·rename_i hk; exact .inl ((key6_row7 q r v).1 hk)
  ·cases h
 | e :: es, q, r, v, h => by
  simp only [setP] at h
  split at h
  ·rename_i hk;simp only [hasP] at h
   split at h
   ·rename_i h2; exact .inl ((key6_row7 q r v).1 h2)
   ·refine .inr ?_;simp only [hasP]; split
    ·rfl
    ·exact h
  ·simp only [hasP] at h ⊢
   split at h
   ·rename_i h2; exact .inr (by rw [if_pos h2])
   ·rename_i h2;rw [if_neg h2];exact hasP_set es q r v h
theorem getP_set : ∀ (es : Dt) (q r : List Cl) (v : Int), key6 q r -> getP (setP es q v) r = v
 | [], q, r, v, h => by
  simp only [setP, getP];rw [if_pos ((key6_row7 q r v).2 h)];simp [row7, rI, Cl.int]
 | e :: es, q, r, v, h => by
  simp only [setP]
  split
  ·simp only [getP];rw [if_pos ((key6_row7 q r v).2 h)];simp [row7, rI, Cl.int]
  ·rename_i hk;simp only [getP];rw [if_neg fun h2 => hk (by have := Yr1 h; have h3 := Yr1 h2; exact Yr1 (key6_trans (Yr1 (Yr1 this)) h3)), getP_set es q r v h]
theorem getP_setN : ∀ (es : Dt) (q r : List Cl) (v : Int), ¬ key6 q r -> getP (setP es q v) r = getP es r
 | [], q, r, v, h => by
  simp only [setP, getP];rw [if_neg fun h2 => h ((key6_row7 q r v).1 h2)]
 | e :: es, q, r, v, h => by
  simp only [setP]
  split
  ·rename_i hk;simp only [getP];rw [if_neg fun h2 => h ((key6_row7 q r v).1 h2), if_neg fun h2 => h (key6_trans hk h2)]
  ·simp only [getP, getP_setN es q r v h]
theorem memo_set {qs : Dt} {lo hi : Int} {xs : Dt} (h : MemoOk qs lo hi xs) {q : List Cl} {v : Int} (hv : v = cntQ qs lo hi q) : MemoOk qs lo hi (setP xs q v) := ⟨fun r hr => by
 by_cases hk : key6 q r
 ·rw [getP_set _ _ _ _ hk, hv];obtain ⟨h0, h1, h2, h3, h4, h5⟩ := hk;simp only [cntQ, stV, h0, h1, h2, h3, h4, h5]
 ·rw [getP_setN _ _ _ _ hk];exact h.ok r ((hasP_set _ _ _ _ hr).resolve_left hk)⟩
theorem memo_nil {qs : Dt} {lo hi : Int} : MemoOk qs lo hi [] := ⟨fun q h => by simp [hasP] at h⟩
structure BkOk (qs ws : Dt) (lo hi : Int) (w : Dt) : Prop where
 few : qs.length <= 16
 part : ∀ i, i < qs.length -> 0 <= qPart qs i /\ qPart qs i <= 3
 len : w.length = qs.length
 wt : ∀ i, i < qs.length -> (cel w i 0).int = wt qs i /\ 0 <= Sp.wt qs i /\ Sp.wt qs i <= 1000
structure StOk (qs : Dt) (at_ s : Int) (v : V4) : Prop where
 a0 : 0 <= at_
 a1 : at_ <= qs.length
 s0 : 0 <= s
 s1 : s <= 1000 * at_
 v0 : V4.Ok v
theorem StOk.step {qs ws w : Dt} {lo hi t s : Int} {v : V4} (h : StOk qs t s v) (bk : BkOk qs ws lo hi w) {i : Int} (h0 : t <= i) (h1 : i < qs.length) (hp : 1 <= V4.get v (qPart qs i.toNat)) :
  StOk qs (i + 1) (s + Sp.wt qs i.toNat) (V4.dec v (qPart qs i.toNat)) := by
 obtain ⟨t0, t1, s0, s1, ok⟩ := h;obtain ⟨w1, w2, w3⟩ := bk.wt i.toNat (by omega);exact ⟨by omega, by omega, by omega, by omega, ok.dec hp⟩
theorem cnt_at {qs : Dt} {lo hi s : Int} {v : V4} (h : V4.nil v = false) {i : Int} (h0 : 0 <= i) (h1 : i < qs.length) :
  cnt qs lo hi (qs.length - i.toNat) s v = (if 1 <= V4.get v (qPart qs i.toNat) then cnt qs lo hi (qs.length - (i + 1).toNat) (s + wt qs i.toNat) (V4.dec v (qPart qs i.toNat)) else 0) + cnt qs lo hi (qs.length - (i + 1).toNat) s v := by
 have e : qs.length - i.toNat = (qs.length - (i + 1).toNat) + 1 := by omega
 rw [e, cnt_succ h (i := i.toNat) (by omega)]
end Sp
noncomputable def T5 : Tab Try.prog := ⟨[Xh], [], []⟩
def Xf7 [InW] (e : List Ed) (K : Nat -> List Ed -> Prop) : Prop := match e with
 | [.ro _ qs, .ro _ ws, .i lo, .i hi, .l w, .l xs] => K 0 [.i 0, .i 0, .i (cel ws.xs 0 0).int, .i (cel ws.xs 1 0).int, .i (cel ws.xs 2 0).int, .i (cel ws.xs 3 0).int, .ro _ qs, .ro _ ws, .i lo, .i hi, .l w, .l xs]
 | _ => False
noncomputable def Xe : CC where
 g := 47
 args := [(.ptr 4 0)]
 H := [(4, .blk 82 [.rs Ja, .rs Jb, .int .i64, .int .i64, (.row 7), (.mp 10)]), (7, .arr 3 Jb), (10, .mpP)]
 outs := [⟨false, .agg [.int .i64, .int .i64, .int .i64, .int .i64, .int .i64, .int .i64], [(4, .blk 82 [.rs Ja, .rs Jb, .int .i64, .int .i64, (.row 7), (.mp 10)]), (7, .arr 3 Jb), (10, .mpP)], false⟩]
 spec := Xf7
def Xc1 [W : InW] (qs : Ro Ja) (ws : Ro Jb) (lo hi : Int) (w xs : Dt) (K : Nat -> List Ed -> Prop) : Prop :=
 K 0 [.i (0 : Int), .i (0 : Int), .i (cel ws.xs (0 : Nat) (0 : Nat)).int, .i (cel ws.xs (0+1) (0 : Nat)).int, .i (cel ws.xs ((0 : Nat) + 1 + 1) (0 : Nat)).int, .i (cel ws.xs ((0 : Nat) + 1 + 1 + 1) (0 : Nat)).int, .ro _ qs, .ro _ ws, .i lo, .i hi, .l w, .l xs]
theorem Xgz (W : InW) (qs ws lo hi w xs K) : Yw2 (cxT Try.prog TT T5 1000 50) 1000 47 [.ptr 4 0] [(4, .blk 82 [.rs _ qs, .rs _ ws, .si .i64 lo, .si .i64 hi, .rw 7, .mp 10]), (7, .arr 3 Jb w), (10, .obj (.mpP xs))] (fun v h => outC Xe.H [.ro _ qs, .ro _ ws, .i lo, .i hi, .l w, .l xs] Xe.outs 0 false v h K) (fun v h => outC Xe.H [.ro _ qs, .ro _ ws, .i lo, .i hi, .l w, .l xs] Xe.outs 0 true v h K) = Xc1 qs ws lo hi w xs K := by kernel_rfl
theorem Xhz (hyp_ : ∀ (W : InW) qs ws lo hi w xs K, Xf7 [.ro _ qs, .ro _ ws, .i lo, .i hi, .l w, .l xs] K -> Xc1 qs ws lo hi w xs K) : ∀ W : InW, @CallC W Try.prog Xe :=
 CC.okOf (fun W => @TT W) (fun W => @Xc W) Xa T5 1000 50 Xe fun W qs ws lo hi w xs K hs => (Xgz W qs ws lo hi w xs K).mpr (hyp_ W qs ws lo hi w xs K hs)
def Xf2 [InW] (e : List Ed) (K : Nat -> List Ed -> Prop) : Prop := match e with
 | [.i t, .i s, .i a, .i b, .i c, .i d, .i i, .ro _ qs, .ro _ ws, .i lo, .i hi, .l w, .l xs] => Pre (Sp.BkOk qs.xs ws.xs lo hi w /\ Sp.StOk qs.xs t s ⟨a, b, c, d⟩ /\ t <= i /\ i < qs.xs.length)
   (K 0 [.i (i + 1), .i (s + Sp.wt qs.xs i.toNat), .i (Sp.V4.dec ⟨a, b, c, d⟩ (Sp.qPart qs.xs i.toNat)).a, .i (Sp.V4.dec ⟨a, b, c, d⟩ (Sp.qPart qs.xs i.toNat)).b, .i (Sp.V4.dec ⟨a, b, c, d⟩ (Sp.qPart qs.xs i.toNat)).c, .i (Sp.V4.dec ⟨a, b, c, d⟩ (Sp.qPart qs.xs i.toNat)).d,
    .b (decide (1 <= Sp.V4.get ⟨a, b, c, d⟩ (Sp.qPart qs.xs i.toNat))), .ro _ qs, .ro _ ws, .i lo, .i hi, .l w, .l xs])
 | _ => False
noncomputable def Xd : CC where
 g := 53
 args := [(.ptr 4 0), .agg [.int .i64, .int .i64, .int .i64, .int .i64, .int .i64, .int .i64], .int .i64]
 H := [(4, .blk 82 [.rs Ja, .rs Jb, .int .i64, .int .i64, (.row 7), (.mp 10)]), (7, .arr 3 Jb), (10, .mpP)]
 outs := [⟨false, .tup [.agg [.int .i64, .int .i64, .int .i64, .int .i64, .int .i64, .int .i64], .bool], [(4, .blk 82 [.rs Ja, .rs Jb, .int .i64, .int .i64, (.row 7), (.mp 10)]), (7, .arr 3 Jb), (10, .mpP)], false⟩]
 spec := Xf2
def Zo [W : InW] (i : Int) (qs : Ro Ja) := cel qs.xs i.toNat (0 : Nat)
def Zn [W : InW] (i : Int) (qs : Ro Ja) := decide ((0 : Int) <= (Zo i qs).int) && decide ((Zo i qs).int < (↑(4 : Nat) : Int))
def Zp [W : InW] (i : Int) (qs : Ro Ja) := decide ((Zo i qs).int = (↑(0 : Nat) : Int))
def Zq [W : InW] (i : Int) (w : Dt) := decide (0 <= i) && decide (i < (↑(w.length) : Int))
def Zu [W : InW] (i : Int) (w : Dt) := decide (i.toNat < w.length)
def Zt [W : InW] (s i : Int) (w : Dt) := s + (cel w i.toNat (0 : Nat)).int
def Zr [W : InW] (i : Int) (qs : Ro Ja) := decide ((Zo i qs).int = (↑(0+1) : Int))
def Zv [W : InW] (b : Int) := decide (0 <= b)
def Zs [W : InW] (i : Int) (qs : Ro Ja) := decide ((Zo i qs).int = (↑(1+1) : Int))
def Zw [W : InW] (c : Int) := decide (0 <= c)
def Zx [W : InW] (d : Int) := decide (0 <= d)
def Zy [W : InW] (a : Int) := decide (0 <= a)
def Xcw [W : InW] (t s a b c d i : Int) (qs : Ro Ja) (ws : Ro Jb) (lo hi : Int) (w xs : Dt) (K : Nat -> List Ed -> Prop) : Prop :=
 Need (decide (0 <= i) && decide (i < (↑(qs.xs.length) : Int))) (Need (decide (i.toNat < qs.xs.length)) (Need (Zn i qs) (Vif (Zp i qs) (Ar .i64 (a - 1) fun z => Need (Zn i qs) (Vif (Zp i qs) (Ar .i64 (i + 1) fun z_1 => Need (Zq i w) (Need (Zu i w) (Ar .i64 (Zt s i w) fun z_2 => Need (Zn i qs) (Vif (Zp i qs) (K 0 [.i z_1, .i z_2, .i z, .i b, .i c, .i d, .b (decide (0 <= z)), .ro _ qs, .ro _ ws, .i lo, .i hi, .l w, .l xs]) (Vif (Zr i qs) (K 0 [.i z_1, .i z_2, .i z, .i b, .i c, .i d, .b (Zv b), .ro _ qs, .ro _ ws, .i lo, .i hi, .l w, .l xs]) (Vif (Zs i qs) (K 0 [.i z_1, .i z_2, .i z, .i b, .i c, .i d, .b (Zw c), .ro _ qs, .ro _ ws, .i lo, .i hi, .l w, .l xs]) (K 0 [.i z_1, .i z_2, .i z, .i b, .i c, .i d, .b (Zx d), .ro _ qs, .ro _ ws, .i lo, .i hi, .l w, .l xs]))))))) (Vif (Zr i qs) (Ar .i64 (i + 1) fun z_1 => Need (Zq i w) (Need (Zu i w) (Ar .i64 (Zt s i w) fun z_2 => Need (Zn i qs) (Vif (Zp i qs) (K 0 [.i z_1, .i z_2, .i a, .i z, .i c, .i d, .b (Zy a), .ro _ qs, .ro _ ws, .i lo, .i hi, .l w, .l xs]) (Vif (Zr i qs) (K 0 [.i z_1, .i z_2, .i a, .i z, .i c, .i d, .b (decide (0 <= z)), .ro _ qs, .ro _ ws, .i lo, .i hi, .l w, .l xs]) (Vif (Zs i qs) (K 0 [.i z_1, .i z_2, .i a, .i z, .i c, .i d, .b (Zw c), .ro _ qs, .ro _ ws, .i lo, .i hi, .l w, .l xs]) (K 0 [.i z_1, .i z_2, .i a, .i z, .i c, .i d, .b (Zx d), .ro _ qs, .ro _ ws, .i lo, .i hi, .l w, .l xs]))))))) (Vif (Zs i qs) (Ar .i64 (i + 1) fun z_1 => Need (Zq i w) (Need (Zu i w) (Ar .i64 (Zt s i w) fun z_2 => Need (Zn i qs) (Vif (Zp i qs) (K 0 [.i z_1, .i z_2, .i a, .i b, .i z, .i d, .b (Zy a), .ro _ qs, .ro _ ws, .i lo, .i hi, .l w, .l xs]) (Vif (Zr i qs) (K 0 [.i z_1, .i z_2, .i a, .i b, .i z, .i d, .b (Zv b), .ro _ qs, .ro _ ws, .i lo, .i hi, .l w, .l xs]) (Vif (Zs i qs) (K 0 [.i z_1, .i z_2, .i a, .i b, .i z, .i d, .b (decide (0 <= z)), .ro _ qs, .ro _ ws, .i lo, .i hi, .l w, .l xs]) (K 0 [.i z_1, .i z_2, .i a, .i b, .i z, .i d, .b (Zx d), .ro _ qs, .ro _ ws, .i lo, .i hi, .l w, .l xs]))))))) (Ar .i64 (i + 1) fun z_1 => Need (Zq i w) (Need (Zu i w) (Ar .i64 (Zt s i w) fun z_2 => Need (Zn i qs) (Vif (Zp i qs) (K 0 [.i z_1, .i z_2, .i a, .i b, .i c, .i z, .b (Zy a), .ro _ qs, .ro _ ws, .i lo, .i hi, .l w, .l xs]) (Vif (Zr i qs) (K 0 [.i z_1, .i z_2, .i a, .i b, .i c, .i z, .b (Zv b), .ro _ qs, .ro _ ws, .i lo, .i hi, .l w, .l xs]) (Vif (Zs i qs) (K 0 [.i z_1, .i z_2, .i a, .i b, .i c, .i z, .b (Zw c), .ro _ qs, .ro _ ws, .i lo, .i hi, .l w, .l xs]) (K 0 [.i z_1, .i z_2, .i a, .i b, .i c, .i z, .b (decide (0 <= z)), .ro _ qs, .ro _ ws, .i lo, .i hi, .l w, .l xs]))))))))))) (Vif (Zr i qs) (Ar .i64 (b - 1) fun z => Need (Zn i qs) (Vif (Zp i qs) (Ar .i64 (i + 1) fun z_1 => Need (Zq i w) (Need (Zu i w) (Ar .i64 (Zt s i w) fun z_2 => Need (Zn i qs) (Vif (Zp i qs) (K 0 [.i z_1, .i z_2, .i z, .i b, .i c, .i d, .b (decide (0 <= z)), .ro _ qs, .ro _ ws, .i lo, .i hi, .l w, .l xs]) (Vif (Zr i qs) (K 0 [.i z_1, .i z_2, .i z, .i b, .i c, .i d, .b (Zv b), .ro _ qs, .ro _ ws, .i lo, .i hi, .l w, .l xs]) (Vif (Zs i qs) (K 0 [.i z_1, .i z_2, .i z, .i b, .i c, .i d, .b (Zw c), .ro _ qs, .ro _ ws, .i lo, .i hi, .l w, .l xs]) (K 0 [.i z_1, .i z_2, .i z, .i b, .i c, .i d, .b (Zx d), .ro _ qs, .ro _ ws, .i lo, .i hi, .l w, .l xs]))))))) (Vif (Zr i qs) (Ar .i64 (i + 1) fun z_1 => Need (Zq i w) (Need (Zu i w) (Ar .i64 (Zt s i w) fun z_2 => Need (Zn i qs) (Vif (Zp i qs) (K 0 [.i z_1, .i z_2, .i a, .i z, .i c, .i d, .b (Zy a), .ro _ qs, .ro _ ws, .i lo, .i hi, .l w, .l xs]) (Vif (Zr i qs) (K 0 [.i z_1, .i z_2, .i a, .i z, .i c, .i d, .b (decide (0 <= z)), .ro _ qs, .ro _ ws, .i lo, .i hi, .l w, .l xs]) (Vif (Zs i qs) (K 0 [.i z_1, .i z_2, .i a, .i z, .i c, .i d, .b (Zw c), .ro _ qs, .ro _ ws, .i lo, .i hi, .l w, .l xs]) (K 0 [.i z_1, .i z_2, .i a, .i z, .i c, .i d, .b (Zx d), .ro _ qs, .ro _ ws, .i lo, .i hi, .l w, .l xs]))))))) (Vif (Zs i qs) (Ar .i64 (i + 1) fun z_1 => Need (Zq i w) (Need (Zu i w) (Ar .i64 (Zt s i w) fun z_2 => Need (Zn i qs) (Vif (Zp i qs) (K 0 [.i z_1, .i z_2, .i a, .i b, .i z, .i d, .b (Zy a), .ro _ qs, .ro _ ws, .i lo, .i hi, .l w, .l xs]) (Vif (Zr i qs) (K 0 [.i z_1, .i z_2, .i a, .i b, .i z, .i d, .b (Zv b), .ro _ qs, .ro _ ws, .i lo, .i hi, .l w, .l xs]) (Vif (Zs i qs) (K 0 [.i z_1, .i z_2, .i a, .i b, .i z, .i d, .b (decide (0 <= z)), .ro _ qs, .ro _ ws, .i lo, .i hi, .l w, .l xs]) (K 0 [.i z_1, .i z_2, .i a, .i b, .i z, .i d, .b (Zx d), .ro _ qs, .ro _ ws, .i lo, .i hi, .l w, .l xs]))))))) (Ar .i64 (i + 1) fun z_1 => Need (Zq i w) (Need (Zu i w) (Ar .i64 (Zt s i w) fun z_2 => Need (Zn i qs) (Vif (Zp i qs) (K 0 [.i z_1, .i z_2, .i a, .i b, .i c, .i z, .b (Zy a), .ro _ qs, .ro _ ws, .i lo, .i hi, .l w, .l xs]) (Vif (Zr i qs) (K 0 [.i z_1, .i z_2, .i a, .i b, .i c, .i z, .b (Zv b), .ro _ qs, .ro _ ws, .i lo, .i hi, .l w, .l xs]) (Vif (Zs i qs) (K 0 [.i z_1, .i z_2, .i a, .i b, .i c, .i z, .b (Zw c), .ro _ qs, .ro _ ws, .i lo, .i hi, .l w, .l xs]) (K 0 [.i z_1, .i z_2, .i a, .i b, .i c, .i z, .b (decide (0 <= z)), .ro _ qs, .ro _ ws, .i lo, .i hi, .l w, .l xs]))))))))))) (Vif (Zs i qs) (Ar .i64 (c - 1) fun z => Need (Zn i qs) (Vif (Zp i qs) (Ar .i64 (i + 1) fun z_1 => Need (Zq i w) (Need (Zu i w) (Ar .i64 (Zt s i w) fun z_2 => Need (Zn i qs) (Vif (Zp i qs) (K 0 [.i z_1, .i z_2, .i z, .i b, .i c, .i d, .b (decide (0 <= z)), .ro _ qs, .ro _ ws, .i lo, .i hi, .l w, .l xs]) (Vif (Zr i qs) (K 0 [.i z_1, .i z_2, .i z, .i b, .i c, .i d, .b (Zv b), .ro _ qs, .ro _ ws, .i lo, .i hi, .l w, .l xs]) (Vif (Zs i qs) (K 0 [.i z_1, .i z_2, .i z, .i b, .i c, .i d, .b (Zw c), .ro _ qs, .ro _ ws, .i lo, .i hi, .l w, .l xs]) (K 0 [.i z_1, .i z_2, .i z, .i b, .i c, .i d, .b (Zx d), .ro _ qs, .ro _ ws, .i lo, .i hi, .l w, .l xs]))))))) (Vif (Zr i qs) (Ar .i64 (i + 1) fun z_1 => Need (Zq i w) (Need (Zu i w) (Ar .i64 (Zt s i w) fun z_2 => Need (Zn i qs) (Vif (Zp i qs) (K 0 [.i z_1, .i z_2, .i a, .i z, .i c, .i d, .b (Zy a), .ro _ qs, .ro _ ws, .i lo, .i hi, .l w, .l xs]) (Vif (Zr i qs) (K 0 [.i z_1, .i z_2, .i a, .i z, .i c, .i d, .b (decide (0 <= z)), .ro _ qs, .ro _ ws, .i lo, .i hi, .l w, .l xs]) (Vif (Zs i qs) (K 0 [.i z_1, .i z_2, .i a, .i z, .i c, .i d, .b (Zw c), .ro _ qs, .ro _ ws, .i lo, .i hi, .l w, .l xs]) (K 0 [.i z_1, .i z_2, .i a, .i z, .i c, .i d, .b (Zx d), .ro _ qs, .ro _ ws, .i lo, .i hi, .l w, .l xs]))))))) (Vif (Zs i qs) (Ar .i64 (i + 1) fun z_1 => Need (Zq i w) (Need (Zu i w) (Ar .i64 (Zt s i w) fun z_2 => Need (Zn i qs) (Vif (Zp i qs) (K 0 [.i z_1, .i z_2, .i a, .i b, .i z, .i d, .b (Zy a), .ro _ qs, .ro _ ws, .i lo, .i hi, .l w, .l xs]) (Vif (Zr i qs) (K 0 [.i z_1, .i z_2, .i a, .i b, .i z, .i d, .b (Zv b), .ro _ qs, .ro _ ws, .i lo, .i hi, .l w, .l xs]) (Vif (Zs i qs) (K 0 [.i z_1, .i z_2, .i a, .i b, .i z, .i d, .b (decide (0 <= z)), .ro _ qs, .ro _ ws, .i lo, .i hi, .l w, .l xs]) (K 0 [.i z_1, .i z_2, .i a, .i b, .i z, .i d, .b (Zx d), .ro _ qs, .ro _ ws, .i lo, .i hi, .l w, .l xs]))))))) (Ar .i64 (i + 1) fun z_1 => Need (Zq i w) (Need (Zu i w) (Ar .i64 (Zt s i w) fun z_2 => Need (Zn i qs) (Vif (Zp i qs) (K 0 [.i z_1, .i z_2, .i a, .i b, .i c, .i z, .b (Zy a), .ro _ qs, .ro _ ws, .i lo, .i hi, .l w, .l xs]) (Vif (Zr i qs) (K 0 [.i z_1, .i z_2, .i a, .i b, .i c, .i z, .b (Zv b), .ro _ qs, .ro _ ws, .i lo, .i hi, .l w, .l xs]) (Vif (Zs i qs) (K 0 [.i z_1, .i z_2, .i a, .i b, .i c, .i z, .b (Zw c), .ro _ qs, .ro _ ws, .i lo, .i hi, .l w, .l xs]) (K 0 [.i z_1, .i z_2, .i a, .i b, .i c, .i z, .b (decide (0 <= z)), .ro _ qs, .ro _ ws, .i lo, .i hi, .l w, .l xs]))))))))))) (Ar .i64 (d - 1) fun z => Need (Zn i qs) (Vif (Zp i qs) (Ar .i64 (i + 1) fun z_1 => Need (Zq i w) (Need (Zu i w) (Ar .i64 (Zt s i w) fun z_2 => Need (Zn i qs) (Vif (Zp i qs) (K 0 [.i z_1, .i z_2, .i z, .i b, .i c, .i d, .b (decide (0 <= z)), .ro _ qs, .ro _ ws, .i lo, .i hi, .l w, .l xs]) (Vif (Zr i qs) (K 0 [.i z_1, .i z_2, .i z, .i b, .i c, .i d, .b (Zv b), .ro _ qs, .ro _ ws, .i lo, .i hi, .l w, .l xs]) (Vif (Zs i qs) (K 0 [.i z_1, .i z_2, .i z, .i b, .i c, .i d, .b (Zw c), .ro _ qs, .ro _ ws, .i lo, .i hi, .l w, .l xs]) (K 0 [.i z_1, .i z_2, .i z, .i b, .i c, .i d, .b (Zx d), .ro _ qs, .ro _ ws, .i lo, .i hi, .l w, .l xs]))))))) (Vif (Zr i qs) (Ar .i64 (i + 1) fun z_1 => Need (Zq i w) (Need (Zu i w) (Ar .i64 (Zt s i w) fun z_2 => Need (Zn i qs) (Vif (Zp i qs) (K 0 [.i z_1, .i z_2, .i a, .i z, .i c, .i d, .b (Zy a), .ro _ qs, .ro _ ws, .i lo, .i hi, .l w, .l xs]) (Vif (Zr i qs) (K 0 [.i z_1, .i z_2, .i a, .i z, .i c, .i d, .b (decide (0 <= z)), .ro _ qs, .ro _ ws, .i lo, .i hi, .l w, .l xs]) (Vif (Zs i qs) (K 0 [.i z_1, .i z_2, .i a, .i z, .i c, .i d, .b (Zw c), .ro _ qs, .ro _ ws, .i lo, .i hi, .l w, .l xs]) (K 0 [.i z_1, .i z_2, .i a, .i z, .i c, .i d, .b (Zx d), .ro _ qs, .ro _ ws, .i lo, .i hi, .l w, .l xs]))))))) (Vif (Zs i qs) (Ar .i64 (i + 1) fun z_1 => Need (Zq i w) (Need (Zu i w) (Ar .i64 (Zt s i w) fun z_2 => Need (Zn i qs) (Vif (Zp i qs) (K 0 [.i z_1, .i z_2, .i a, .i b, .i z, .i d, .b (Zy a), .ro _ qs, .ro _ ws, .i lo, .i hi, .l w, .l xs]) (Vif (Zr i qs) (K 0 [.i z_1, .i z_2, .i a, .i b, .i z, .i d, .b (Zv b), .ro _ qs, .ro _ ws, .i lo, .i hi, .l w, .l xs]) (Vif (Zs i qs) (K 0 [.i z_1, .i z_2, .i a, .i b, .i z, .i d, .b (decide (0 <= z)), .ro _ qs, .ro _ ws, .i lo, .i hi, .l w, .l xs]) (K 0 [.i z_1, .i z_2, .i a, .i b, .i z, .i d, .b (Zx d), .ro _ qs, .ro _ ws, .i lo, .i hi, .l w, .l xs]))))))) (Ar .i64 (i + 1) fun z_1 => Need (Zq i w) (Need (Zu i w) (Ar .i64 (Zt s i w) fun z_2 => Need (Zn i qs) (Vif (Zp i qs) (K 0 [.i z_1, .i z_2, .i a, .i b, .i c, .i z, .b (Zy a), .ro _ qs, .ro _ ws, .i lo, .i hi, .l w, .l xs]) (Vif (Zr i qs) (K 0 [.i z_1, .i z_2, .i a, .i b, .i c, .i z, .b (Zv b), .ro _ qs, .ro _ ws, .i lo, .i hi, .l w, .l xs]) (Vif (Zs i qs) (K 0 [.i z_1, .i z_2, .i a, .i b, .i c, .i z, .b (Zw c), .ro _ qs, .ro _ ws, .i lo, .i hi, .l w, .l xs]) (K 0 [.i z_1, .i z_2, .i a, .i b, .i c, .i z, .b (decide (0 <= z)), .ro _ qs, .ro _ ws, .i lo, .i hi, .l w, .l xs]))))))))))))))))
theorem Xgu (W : InW) (t s a b c d i qs ws lo hi w xs K) : Yw2 (cxT Try.prog TT T5 1000 50) 1000 53 [.ptr 4 0, .agg [.si .i64 t, .si .i64 s, .si .i64 a, .si .i64 b, .si .i64 c, .si .i64 d], .si .i64 i] [(4, .blk 82 [.rs _ qs, .rs _ ws, .si .i64 lo, .si .i64 hi, .rw 7, .mp 10]), (7, .arr 3 Jb w), (10, .obj (.mpP xs))] (fun v h => outC Xd.H [.ro _ qs, .ro _ ws, .i lo, .i hi, .l w, .l xs] Xd.outs 0 false v h K) (fun v h => outC Xd.H [.ro _ qs, .ro _ ws, .i lo, .i hi, .l w, .l xs] Xd.outs 0 true v h K) = Xcw t s a b c d i qs ws lo hi w xs K := by kernel_rfl
theorem Xhu (hyp_ : ∀ (W : InW) t s a b c d i qs ws lo hi w xs K, Xf2 [.i t, .i s, .i a, .i b, .i c, .i d, .i i, .ro _ qs, .ro _ ws, .i lo, .i hi, .l w, .l xs] K -> Xcw t s a b c d i qs ws lo hi w xs K) : ∀ W : InW, @CallC W Try.prog Xd :=
 CC.okOf (fun W => @TT W) (fun W => @Xc W) Xa T5 1000 50 Xd fun W t s a b c d i qs ws lo hi w xs K hs => (Xgu W t s a b c d i qs ws lo hi w xs K).mpr (hyp_ W t s a b c d i qs ws lo hi w xs K hs)
theorem Xr : ∀ W : InW, @CallC W Try.prog Xe := Xhz fun W qs ws lo hi w xs K hs => by
 unfold Xc1;exact hs
theorem Xl : ∀ W : InW, @CallC W Try.prog Xd := Xhu fun W t s a b c d i qs ws lo hi w xs K hs => by
 obtain ⟨⟨bk, st, h0, h1⟩, hk⟩ := hs;unfold Xcw;delta Zs Zr Zp Zn Zw Zo Zv Zy Zt Zu Zq Zx;obtain ⟨t0, t1, s0, s1, ⟨va, vb, vc, vd⟩⟩ := st;have hp := bk.part i.toNat (by omega);obtain ⟨w1, w2, w3⟩ := bk.wt i.toNat (by omega);have hl := bk.len;have hf := bk.few;simp only at va vb vc vd;unfold Sp.qPart at hp hk;have d1 : ∀ x : Int, decide (0 <= x - 1) = decide (1 <= x) := fun x => by congr 1; simp only [eq_iff_iff]; omega
 have hc : (cel qs.xs i.toNat 0).int = 0 \/ (cel qs.xs i.toNat 0).int = 1 \/ (cel qs.xs i.toNat 0).int = 2 \/ (cel qs.xs i.toNat 0).int = 3 := by omega
 rcases hc with e | e | e | e
 all_goals
  simp only [e, w1, Sp.V4.dec, Sp.V4.get, if_true, if_neg (show ¬ (1 : Int) = 0 by omega), if_neg (show ¬ (2 : Int) = 0 by omega), if_neg (show ¬ (2 : Int) = 1 by omega), if_neg (show ¬ (3 : Int) = 0 by omega), if_neg (show ¬ (3 : Int) = 1 by omega), if_neg (show ¬ (3 : Int) = 2 by omega)] at hk ⊢
  repeat' (first | omega|intro _|with_reducible first|apply vifd|apply vifn|apply vifq|apply X7|apply X6|apply vifb|apply vif|apply nedd|apply ned2|apply ned|apply ar64|apply Xk|exact True.intro|assumption|rfl|apply And.intro)
 all_goals first | (rw [d1]; exact hk) | (simp_all; done) | skip
 all_goals trace_state
def Xdh (m : Nat) [InW] (e : List Ed) (K : Nat -> List Ed -> Prop) : Prop := match e with
 | [.i t, .i s, .i a, .i b, .i c, .i d, .ro _ qs, .ro _ ws, .i lo, .i hi, .l w, .l xs] => Pre (Sp.BkOk qs.xs ws.xs lo hi w /\ Sp.StOk qs.xs t s ⟨a, b, c, d⟩ /\ Sp.MemoOk qs.xs lo hi xs /\ qs.xs.length - t.toNat < m)
   (Sp.FaM (Sp.MemoOk qs.xs lo hi) fun ys => K 0 [.i (Sp.cnt qs.xs lo hi (qs.xs.length - t.toNat) s ⟨a, b, c, d⟩), .ro _ qs, .ro _ ws, .i lo, .i hi, .l w, .l ys])
 | _ => False
noncomputable def Xf (m : Nat) : CC where
 g := 46
 args := [(.ptr 4 0), .agg [.int .i64, .int .i64, .int .i64, .int .i64, .int .i64, .int .i64]]
 H := [(4, .blk 82 [.rs Ja, .rs Jb, .int .i64, .int .i64, (.row 7), (.mp 10)]), (7, .arr 3 Jb), (10, .mpP)]
 outs := [⟨false, .int .i64, [(4, .blk 82 [.rs Ja, .rs Jb, .int .i64, .int .i64, (.row 7), (.mp 10)]), (7, .arr 3 Jb), (10, .mpP)], false⟩]
 spec := Xdh m
def Xdi (m : Nat) [InW] (e : List Ed) (K : Nat -> List Ed -> Prop) : Prop := match e with
 | [.i n, .i i, .ro _ qs, .ro _ ws, .i lo, .i hi, .l w, .l xs, .i t, .i s, .i a, .i b, .i c, .i d] => Pre (Sp.BkOk qs.xs ws.xs lo hi w /\ Sp.StOk qs.xs t s ⟨a, b, c, d⟩ /\ Sp.V4.nil ⟨a, b, c, d⟩ = false /\ Sp.MemoOk qs.xs lo hi xs /\ qs.xs.length - t.toNat < m + 1 /\ t <= i /\ i <= qs.xs.length /\ 0 <= n /\ n + Sp.cnt qs.xs lo hi (qs.xs.length - i.toNat) s ⟨a, b, c, d⟩ <= 65536)
   (Sp.FaM (Sp.MemoOk qs.xs lo hi) fun ys => K 0 [.i (n + Sp.cnt qs.xs lo hi (qs.xs.length - i.toNat) s ⟨a, b, c, d⟩), .ro _ qs, .ro _ ws, .i lo, .i hi, .l w, .l ys, .i t, .i s, .i a, .i b, .i c, .i d])
 | _ => False
noncomputable def Xbs (m : Nat) : LC where
 len := 72
 T := [(0, (.ptr 4 0)), (3, (.ptr 13 0)), (4, .int .i64), (6, .int .i64)]
 H := [(4, .blk 82 [.rs Ja, .rs Jb, .int .i64, .int .i64, (.row 7), (.mp 10)]), (7, .arr 3 Jb), (10, .mpP), (13, .blk 86 [.int .i64, .int .i64, .int .i64, .int .i64, .int .i64, .int .i64])]
 W := ([7, 8] ++ rg 42 23)
 outs := [⟨.exit 0, [(0, (.ptr 4 0)), (3, (.ptr 13 0)), (4, .int .i64)], [(4, .blk 82 [.rs Ja, .rs Jb, .int .i64, .int .i64, (.row 7), (.mp 10)]), (7, .arr 3 Jb), (10, .mpP), (13, .blk 86 [.int .i64, .int .i64, .int .i64, .int .i64, .int .i64, .int .i64])], ([6, 7, 8] ++ rg 42 23)⟩]
 spec := Xdi m
def Zz [W : InW] (i : Int) (qs : Ro Ja) (a b c d : Int) := Sp.V4.dec { a := a, b := b, c := c, d := d } (Sp.qPart qs.xs i.toNat)
def Xct [W : InW] (m : Nat) (n i : Int) (qs : Ro Ja) (ws : Ro Jb) (lo hi : Int) (w xs : Dt) (t s a b c d : Int) (A : List Ed -> Prop) (K : Nat -> List Ed -> Prop) : Prop :=
 Vif (decide (i < (↑(qs.xs.length) : Int))) (Pre (Sp.BkOk qs.xs ws.xs lo hi w /\ Sp.StOk qs.xs t s { a := a, b := b, c := c, d := d } /\ t <= i /\ i < (↑(qs.xs.length) : Int)) (Vif (decide ((1 : Int) <= Sp.V4.get { a := a, b := b, c := c, d := d } (Sp.qPart qs.xs i.toNat))) (Pre (Sp.BkOk qs.xs ws.xs lo hi w /\ Sp.StOk qs.xs (i + 1) (s + Sp.wt qs.xs i.toNat) { a := (Zz i qs a b c d).1, b := (Zz i qs a b c d).2, c := (Zz i qs a b c d).3, d := (Zz i qs a b c d).4 } /\ Sp.MemoOk qs.xs lo hi xs /\ qs.xs.length - (i + 1).toNat < m) (Sp.FaM (Sp.MemoOk qs.xs lo hi) fun ys => Ar .i64 (n + Sp.cnt qs.xs lo hi (qs.xs.length - (i + 1).toNat) (s + Sp.wt qs.xs i.toNat) { a := (Zz i qs a b c d).1, b := (Zz i qs a b c d).2, c := (Zz i qs a b c d).3, d := (Zz i qs a b c d).4 }) fun z => Ar .i64 (i + 1) fun z_1 => A [.i z, .i z_1, .ro _ qs, .ro _ ws, .i lo, .i hi, .l w, .l ys, .i t, .i s, .i a, .i b, .i c, .i d])) (Ar .i64 (i + 1) fun z => A [.i n, .i z, .ro _ qs, .ro _ ws, .i lo, .i hi, .l w, .l xs, .i t, .i s, .i a, .i b, .i c, .i d]))) (K 0 [.i n, .ro _ qs, .ro _ ws, .i lo, .i hi, .l w, .l xs, .i t, .i s, .i a, .i b, .i c, .i d])
theorem Xgr (W : InW) (m h n i qs ws lo hi w xs t s a b c d A K) : Yff { cxT Try.prog TT (⟨[], [], [ceOf (Xf m) h, ceOf Xd Xl]⟩) 1000 50 with fn := 46 } 1000 (Yob Try.prog 46 11) (Yd6 72 [(0, .ptr 4 0), (3, .ptr 13 0), (4, .si .i64 n), (6, .si .i64 i)] ([7, 8] ++ rg 42 23)) [(4, .blk 82 [.rs _ qs, .rs _ ws, .si .i64 lo, .si .i64 hi, .rw 7, .mp 10]), (7, .arr 3 Jb w), (10, .obj (.mpP xs)), (13, .blk 86 [.si .i64 t, .si .i64 s, .si .i64 a, .si .i64 b, .si .i64 c, .si .i64 d])] (Yut (Xbs m) A K) = Xct m n i qs ws lo hi w xs t s a b c d A K := by kernel_rfl
def Xv (m : Nat) : Prop := ∀ (W : InW) (body a : Code), (Try.prog.funcs[46]?).bind (·.body) = some body -> a ∈ Yy body -> Yf0 a = 11 -> @Yms W Try.prog a (@Ytz W (Xbs m))
theorem Xhr (m : Nat) (h : ∀ W : InW, @CallC W Try.prog (Xf m)) (meas : [InW] -> List Ed -> Nat) (hyp_ : ∀ (W : InW) n i qs ws lo hi w xs t s a b c d K, Xdi m [.i n, .i i, .ro _ qs, .ro _ ws, .i lo, .i hi, .l w, .l xs, .i t, .i s, .i a, .i b, .i c, .i d] K -> ∀ A : List Ed -> Prop, (∀ e, meas e < meas [.i n, .i i, .ro _ qs, .ro _ ws, .i lo, .i hi, .l w, .l xs, .i t, .i s, .i a, .i b, .i c, .i d] -> Xdi m e K -> A e) -> Xct m n i qs ws lo hi w xs t s a b c d A K) : Xv m :=
 LE.okOf' (fun W => @TT W) (fun W => @Xc W) Xa (⟨[], [], [ceOf (Xf m) h, ceOf Xd Xl]⟩) 1000 50 (by kernel_rfl) (Xbs m) (fun W => @meas W) fun W n i qs ws lo hi w xs t s a b c d K hs =>
  (Xgr W m h n i qs ws lo hi w xs t s a b c d (fun e => meas e < meas [.i n, .i i, .ro _ qs, .ro _ ws, .i lo, .i hi, .l w, .l xs, .i t, .i s, .i a, .i b, .i c, .i d] /\ Xdi m e K) K).mpr (hyp_ W n i qs ws lo hi w xs t s a b c d K hs _ fun e h1 h2 => ⟨h1, h2⟩)
def Xf6 (m : Nat) [InW] (e : List Ed) (K : Nat -> List Ed -> Prop) : Prop := Xdh (m + 1) e K
noncomputable def Xy (m : Nat) : CC where
 g := 46
 args := [(.ptr 4 0), .agg [.int .i64, .int .i64, .int .i64, .int .i64, .int .i64, .int .i64]]
 H := [(4, .blk 82 [.rs Ja, .rs Jb, .int .i64, .int .i64, (.row 7), (.mp 10)]), (7, .arr 3 Jb), (10, .mpP)]
 outs := [⟨false, .int .i64, [(4, .blk 82 [.rs Ja, .rs Jb, .int .i64, .int .i64, (.row 7), (.mp 10)]), (7, .arr 3 Jb), (10, .mpP)], false⟩]
 spec := Xf6 m
def Xc0 [W : InW] (m : Nat) (t s a b c d : Int) (qs : Ro Ja) (ws : Ro Jb) (lo hi : Int) (w xs : Dt) (K : Nat -> List Ed -> Prop) : Prop :=
 Vif (decide (a = 0) && (decide (b = 0) && (decide (c = 0) && (decide (d = 0) && true)))) (Pre True (Vif (Sp.out lo hi [[Cl.i s]]) (K 0 [.i Zk, .ro _ qs, .ro _ ws, .i lo, .i hi, .l w, .l xs]) (K 0 [.i (1 : Int), .ro _ qs, .ro _ ws, .i lo, .i hi, .l w, .l xs]))) (Vif (hasP xs [Cl.i t, Cl.i s, Cl.i a, Cl.i b, Cl.i c, Cl.i d]) (K 0 [.i (getP xs [Cl.i t, Cl.i s, Cl.i a, Cl.i b, Cl.i c, Cl.i d]), .ro _ qs, .ro _ ws, .i lo, .i hi, .l w, .l xs]) (Pre (Sp.BkOk qs.xs ws.xs lo hi w /\ Sp.StOk qs.xs t s { a := a, b := b, c := c, d := d } /\ Sp.V4.nil { a := a, b := b, c := c, d := d } = false /\ Sp.MemoOk qs.xs lo hi xs /\ qs.xs.length - t.toNat < m + 1 /\ t <= t /\ t <= (↑(qs.xs.length) : Int) /\ Zk <= 0 /\ Zk + Sp.cnt qs.xs lo hi (qs.xs.length - t.toNat) s { a := a, b := b, c := c, d := d } <= (65536 : Int)) (Sp.FaM (Sp.MemoOk qs.xs lo hi) fun ys => K 0 [.i (Zk + Sp.cnt qs.xs lo hi (qs.xs.length - t.toNat) s { a := a, b := b, c := c, d := d }), .ro _ qs, .ro _ ws, .i lo, .i hi, .l w, .l (setP ys [Cl.i t, Cl.i s, Cl.i a, Cl.i b, Cl.i c, Cl.i d] (Zk + Sp.cnt qs.xs lo hi (qs.xs.length - t.toNat) s { a := a, b := b, c := c, d := d }))])))
theorem Xgy (W : InW) (m h t s a b c d qs ws lo hi w xs K) : Yw2 (cxT Try.prog TT (⟨[Xh], [⟨46, 11, fun W => @Ytz W (Xbs m), h⟩], []⟩) 1000 50) 1000 46 [.ptr 4 0, .agg [.si .i64 t, .si .i64 s, .si .i64 a, .si .i64 b, .si .i64 c, .si .i64 d]] [(4, .blk 82 [.rs _ qs, .rs _ ws, .si .i64 lo, .si .i64 hi, .rw 7, .mp 10]), (7, .arr 3 Jb w), (10, .obj (.mpP xs))] (fun v h => outC (Xy m).H [.ro _ qs, .ro _ ws, .i lo, .i hi, .l w, .l xs] (Xy m).outs 0 false v h K) (fun v h => outC (Xy m).H [.ro _ qs, .ro _ ws, .i lo, .i hi, .l w, .l xs] (Xy m).outs 0 true v h K) = Xc0 m t s a b c d qs ws lo hi w xs K := by kernel_rfl
theorem Xhy (m : Nat) (h : Xv m) (hyp_ : ∀ (W : InW) t s a b c d qs ws lo hi w xs K, Xf6 m [.i t, .i s, .i a, .i b, .i c, .i d, .ro _ qs, .ro _ ws, .i lo, .i hi, .l w, .l xs] K -> Xc0 m t s a b c d qs ws lo hi w xs K) : ∀ W : InW, @CallC W Try.prog (Xy m) :=
 CC.okOf (fun W => @TT W) (fun W => @Xc W) Xa (⟨[Xh], [⟨46, 11, fun W => @Ytz W (Xbs m), h⟩], []⟩) 1000 50 (Xy m) fun W t s a b c d qs ws lo hi w xs K hs => (Xgy W m h t s a b c d qs ws lo hi w xs K).mpr (hyp_ W t s a b c d qs ws lo hi w xs K hs)
theorem Xjg (m : Nat) (hc : ∀ W : InW, @CallC W Try.prog (Xf m)) : Xv m := Xhr m hc (fun e => match e with | _ :: .i i :: .ro _ qs :: _ => ((qs.xs.length : Int) - i).toNat | _ => 0) fun W n i qs ws lo hi w xs t s a b c d K hs A hA => by
 obtain ⟨⟨bk, st, hv, mo, fu, h0, h1, n0, n1⟩, ⟨hk⟩⟩ := hs;unfold Xct;delta Zz;have hf := bk.few;have ht := st.a0
 by_cases hi' : i < qs.xs.length
 ·have hc := Sp.cnt_at (qs := qs.xs) (lo := lo) (hi := hi) (s := s) hv (by omega) hi';have hl : ((qs.xs.length : Int) - (i + 1)).toNat < ((qs.xs.length : Int) - i).toNat := by omega
  have b1 := Sp.cnt_16 (qs := qs.xs) (lo := lo) (hi := hi) (m := qs.xs.length - (i + 1).toNat) (by omega) s ⟨a, b, c, d⟩;have b2 := Sp.cnt_16 (qs := qs.xs) (lo := lo) (hi := hi) (m := qs.xs.length - (i + 1).toNat) (by omega) (s + Sp.wt qs.xs i.toNat) (Sp.V4.dec ⟨a, b, c, d⟩ (Sp.qPart qs.xs i.toNat));refine vifd (fun _ => ?_) (fun h => absurd hi' h);refine ⟨⟨bk, st, h0, hi'⟩, vifd (fun hg => ?_) (fun hg => ?_)⟩
  ·rw [if_pos hg] at hc;refine ⟨⟨bk, st.step bk h0 hi' hg, mo, by omega⟩, ⟨fun ys hy => ar64 (by omega) (ar64 (by omega) (hA _ hl ⟨⟨bk, st, hv, hy, fu, by omega, by omega, by omega, by omega⟩, ⟨fun zs hz => ?_⟩⟩))⟩⟩;have := hk zs hz;rw [hc, <- Int.add_assoc] at this;exact this
  ·rw [if_neg hg] at hc;refine ar64 (by omega) (hA _ hl ⟨⟨bk, st, hv, mo, fu, by omega, by omega, by omega, by omega⟩, ⟨fun zs hz => ?_⟩⟩);have := hk zs hz;rw [hc, Int.zero_add] at this;exact this
 ·refine vifd (fun h => absurd h hi') (fun _ => ?_);have := hk xs mo;rw [show qs.xs.length - i.toNat = 0 by omega, Sp.cnt_zero hv, Int.add_zero] at this;exact this
theorem Xjj (m : Nat) (h : Xv m) : ∀ W : InW, @CallC W Try.prog (Xy m) := Xhy m h fun W t s a b c d qs ws lo hi w xs K hs => by
 obtain ⟨⟨bk, st, mo, fu⟩, ⟨hk⟩⟩ := hs;unfold Xc0;delta Zk;have hf := bk.few;have b1 := Sp.cnt_16 (qs := qs.xs) (lo := lo) (hi := hi) (m := qs.xs.length - t.toNat) (by omega) s ⟨a, b, c, d⟩;refine vif (fun hv => ?_) (fun hv => ?_)
 ·have hv : Sp.V4.nil ⟨a, b, c, d⟩ = true := by simpa [Sp.V4.nil, and_assoc] using hv
  have := hk xs mo;rw [Sp.cnt_nil hv] at this;refine ⟨trivial, ?_⟩;rw [out1];refine vif (fun ho => ?_) (fun ho => ?_)
  ·rw [if_neg (by simpa using ho)] at this; exact this
  ·rw [if_pos (by simpa using ho)] at this; exact this
 ·have hv : Sp.V4.nil ⟨a, b, c, d⟩ = false := by
   rw [<- Bool.not_eq_true] at hv ⊢;intro h2;exact hv (by simpa [Sp.V4.nil, and_assoc] using h2)
  have eq : ∀ u, Sp.cntQ qs.xs lo hi [Cl.i t, Cl.i s, Cl.i a, Cl.i b, Cl.i c, Cl.i d] = u ↔ Sp.cnt qs.xs lo hi (qs.xs.length - t.toNat) s ⟨a, b, c, d⟩ = u := fun u => Iff.rfl;refine vif (fun hh => ?_) (fun hh => ?_)
  ·have := hk xs mo;rw [mo.ok _ hh];exact this
  ·refine ⟨⟨bk, st, hv, mo, fu, by omega, st.a1, by omega, by omega⟩, ⟨fun ys hy => ?_⟩⟩;rw [Int.zero_add];exact hk _ (Sp.memo_set hy rfl)
theorem Xi : ∀ (m : Nat) (W : InW), @CallC W Try.prog (Xf m)
 | 0, W => fun xs ys e1 e2 m1 n1 K hs => by
  have hs : Xdh 0 (e1 ++ e2) K := hs;unfold Xdh at hs
  split at hs
  ·obtain ⟨⟨_, _, _, h⟩, _⟩ := hs;exact absurd h (Nat.not_lt_zero _)
  ·exact hs.elim
 | m + 1, W => Xjj m (Xjg m (Xi m)) W
namespace Sp
structure BankV (qs ws : Dt) (lo hi : Int) : Prop where
 n1 : 1 <= qs.length
 n2 : qs.length <= 16
 w1 : 1 <= ws.length
 w2 : ws.length <= 4
 l0 : 0 <= lo
 lh : lo <= hi
 hh : hi <= 16000
 part : ∀ i, i < qs.length -> 0 <= qPart qs i /\ qPart qs i <= ws.length - 1
 ask : ∀ i, i < qs.length -> 0 <= qAsk qs i /\ qAsk qs i <= 100000
 bad : ∀ i, i < qs.length -> 0 <= qBad qs i /\ qBad qs i <= qAsk qs i
 want : ∀ p, p < ws.length -> 1 <= (cel ws p 0).int /\ (cel ws p 0).int <= many qs p qs.length
theorem chkE_iff {qs ws : Dt} {lo hi : Int} : chkE qs ws lo hi = 0 ↔ BankV qs ws lo hi := by
  constructor
  · intro h;unfold chkE chk at h
    split at h
    · rename_i h1
      split at h
      · rename_i h2
        split at h
        · simp at h
        · rename_i h3
          split at h
          · rename_i h4;exact absurd h (hasE_ix h4).2.2
          · rename_i h4
            split at h
            · rename_i h5;exact absurd h (hasE_ix h5).2.2
            · rename_i h5;simp only [Bool.and_eq_true, inr_iff] at h1 h2;simp only [Bool.not_eq_true] at h4 h5;have hq : ∀ i, i < qs.length -> (0 <= qPart qs i /\ qPart qs i <= ws.length - 1) /\ (0 <= qAsk qs i /\ qAsk qs i <= 100000) /\ (0 <= qBad qs i /\ qBad qs i <= qAsk qs i) := fun i hi => by
                have := hasE_no h4 i (by omega) (by omega);unfold qErr at this
                split at this
                · rename_i a1
                  split at this
                  · rename_i a2
                    split at this
                    · rename_i a3;exact ⟨inr_iff.1 a1, inr_iff.1 a2, inr_iff.1 a3⟩
                    · omega
                  · omega
                · omega
              refine ⟨by omega, by omega, by omega, by omega, by omega, by omega, by omega, fun i hi => (hq i hi).1, fun i hi => (hq i hi).2.1, fun i hi => (hq i hi).2.2, fun p hp => ?_⟩;have := hasE_no h5 p (by omega) (by omega);unfold wErr at this
              split at this
              · rename_i a1; exact inr_iff.1 a1
              · omega
      · simp at h
    · simp at h
  · intro h;unfold chkE chk;rw [if_pos (by simp only [Bool.and_eq_true, inr_iff]; have := h.n1; have := h.n2; have := h.w1; have := h.w2; omega),
      if_pos (by simp only [Bool.and_eq_true, inr_iff]; have := h.l0; have := h.lh; have := h.hh; omega), if_neg (by have := h.lh; omega),
      if_neg (by rw [hasE_of fun i _ hi => ?_]; · simp
                 · unfold qErr; rw [if_pos (inr_iff.2 (h.part i (by omega))), if_pos (inr_iff.2 (h.ask i (by omega))), if_pos (inr_iff.2 (h.bad i (by omega)))]),
      if_neg (by rw [hasE_of fun i _ hi => ?_]; · simp
                 · unfold wErr; rw [if_pos (inr_iff.2 (h.want i (by omega)))])]
theorem BankV.wt {qs ws : Dt} {lo hi : Int} (h : BankV qs ws lo hi) {i : Nat} (hi' : i < qs.length) : 0 <= Sp.wt qs i /\ Sp.wt qs i <= 1000 := by
 have a := h.ask i hi';have b := h.bad i hi';unfold Sp.wt
 split
 ·omega
 ·rename_i hz;rw [Int.tdiv_eq_ediv_of_nonneg (by omega)];constructor
  ·exact Int.ediv_nonneg (by omega) (by omega)
  ·exact Int.ediv_le_of_le_mul (by omega) (by omega)
def wts (qs : Dt) (n : Nat) : Dt := (List.range n).map fun i => [.i (Sp.wt qs i)]
theorem length_wts (qs : Dt) (n : Nat) : (wts qs n).length = n := by simp [wts]
theorem wts_succ (qs : Dt) (n : Nat) : wts qs (n + 1) = wts qs n ++ [[.i (Sp.wt qs n)]] := by simp [wts, List.range_succ]
theorem cel_wts {qs : Dt} {n i : Nat} (h : i < n) : (cel (wts qs n) i 0).int = Sp.wt qs i := by
 simp [cel, wts, h, Cl.int, List.getD_eq_getElem?_getD]
theorem BankV.bk {qs ws : Dt} {lo hi : Int} (h : BankV qs ws lo hi) : BkOk qs ws lo hi (wts qs qs.length) :=
 ⟨h.n2, fun i hi => by have := h.part i hi; have := h.w2; omega, length_wts _ _, fun i hi => ⟨cel_wts hi, (h.wt hi).1, (h.wt hi).2⟩⟩
def v0 (ws : Dt) : V4 := ⟨(cel ws 0 0).int, (cel ws 1 0).int, (cel ws 2 0).int, (cel ws 3 0).int⟩
theorem BankV.w16 {qs ws : Dt} {lo hi : Int} (h : BankV qs ws lo hi) (p : Nat) : 0 <= (cel ws p 0).int /\ (cel ws p 0).int <= 16 := by
 have h2 := h.n2
 by_cases hp : p < ws.length
 ·have := h.want p hp;have := many_bound qs p qs.length;omega
 ·rw [show cel ws p 0 = .z by simp [cel, List.getD_eq_getElem?_getD, List.getElem?_eq_none (Nat.le_of_not_lt hp)]];simp [Cl.int]
theorem BankV.st {qs ws : Dt} {lo hi : Int} (h : BankV qs ws lo hi) : StOk qs 0 0 (v0 ws) :=
 ⟨by omega, by omega, by omega, by omega, ⟨h.w16 0, h.w16 1, h.w16 2, h.w16 3⟩⟩
theorem V4.get_nil {v : V4} (h : V4.nil v = true) (p : Int) : V4.get v p = 0 := by
 simp only [V4.nil, Bool.and_eq_true, decide_eq_true_eq] at h;obtain ⟨⟨⟨h1, h2⟩, h3⟩, h4⟩ := h;unfold V4.get
 split
 ·exact h1
 ·split
  ·exact h2
  ·split
   ·exact h3
   ·exact h4
theorem cnt_at' {qs : Dt} {lo hi s : Int} {v : V4} {i : Int} (h0 : 0 <= i) (h1 : i < qs.length) :
  cnt qs lo hi (qs.length - i.toNat) s v = (if 1 <= V4.get v (qPart qs i.toNat) then cnt qs lo hi (qs.length - (i + 1).toNat) (s + wt qs i.toNat) (V4.dec v (qPart qs i.toNat)) else 0) + cnt qs lo hi (qs.length - (i + 1).toNat) s v := by
 cases hv : V4.nil v with
 | true => rw [if_neg (by rw [V4.get_nil hv]; omega), cnt_nil hv, cnt_nil hv, Int.zero_add]
 | false => exact cnt_at hv h0 h1
theorem cnt_pos {qs : Dt} {lo hi s : Int} {v : V4} {m : Nat} : 0 <= cnt qs lo hi m s v := (cnt_bound qs lo hi m s v).1
theorem cnt_mono {qs : Dt} {lo hi s : Int} {v : V4} {i : Int} : ∀ (k : Nat), 0 <= i -> i + k <= qs.length -> cnt qs lo hi (qs.length - (i + k).toNat) s v <= cnt qs lo hi (qs.length - i.toNat) s v
 | 0, _, _ => by simp
 | k + 1, h0, h1 => by
  have h2 := cnt_mono (qs := qs) (lo := lo) (hi := hi) (s := s) (v := v) (i := i) k h0 (by omega);have h3 := cnt_at' (qs := qs) (lo := lo) (hi := hi) (s := s) (v := v) (i := i + k) (by omega) (by omega);have h4 : 0 <= (if 1 <= V4.get v (qPart qs (i + k).toNat) then cnt qs lo hi (qs.length - (i + k + 1).toNat) (s + wt qs (i + k).toNat) (V4.dec v (qPart qs (i + k).toNat)) else 0) := by
   split
   ·exact cnt_pos
   ·omega
  rw [show i + ((k + 1 : Nat) : Int) = i + k + 1 by omega];omega
def nthD (qs : Dt) (lo hi : Int) (m : Nat) (s : Int) (v : V4) (k : Int) : Dt := (gen qs lo hi m s v).getD k.toNat []
theorem nth_nil {qs : Dt} {lo hi s k : Int} {v : V4} {m : Nat} (h : V4.nil v = true) : nthD qs lo hi m s v k = [] := by
 unfold nthD;rw [gen_nil h]
 split
 ·cases k.toNat <;> simp
 ·simp
theorem nth_at {qs : Dt} {lo hi s k : Int} {v : V4} (h : V4.nil v = false) {i : Int} (h0 : 0 <= i) (h1 : i < qs.length) (k0 : 0 <= k) :
  (1 <= V4.get v (qPart qs i.toNat) -> k < cnt qs lo hi (qs.length - (i + 1).toNat) (s + wt qs i.toNat) (V4.dec v (qPart qs i.toNat)) ->
   nthD qs lo hi (qs.length - i.toNat) s v k = [Cl.i i] :: nthD qs lo hi (qs.length - (i + 1).toNat) (s + wt qs i.toNat) (V4.dec v (qPart qs i.toNat)) k) /\
  (1 <= V4.get v (qPart qs i.toNat) -> ¬ k < cnt qs lo hi (qs.length - (i + 1).toNat) (s + wt qs i.toNat) (V4.dec v (qPart qs i.toNat)) ->
   nthD qs lo hi (qs.length - i.toNat) s v k = nthD qs lo hi (qs.length - (i + 1).toNat) s v (k - cnt qs lo hi (qs.length - (i + 1).toNat) (s + wt qs i.toNat) (V4.dec v (qPart qs i.toNat)))) /\
  (¬ 1 <= V4.get v (qPart qs i.toNat) -> nthD qs lo hi (qs.length - i.toNat) s v k = nthD qs lo hi (qs.length - (i + 1).toNat) s v k) := by
 have e : qs.length - i.toNat = (qs.length - (i + 1).toNat) + 1 := by omega
 unfold nthD;rw [e, gen_succ h (i := i.toNat) (by omega)];refine ⟨fun hg hk => ?_, fun hg hk => ?_, fun hg => ?_⟩
 ·rw [if_pos hg];unfold cnt at hk;rw [List.getD_eq_getElem?_getD, List.getElem?_append_left (by simp; omega), List.getElem?_map, List.getElem?_eq_getElem (by omega), List.getD_eq_getElem?_getD, List.getElem?_eq_getElem (by omega)];simp [Int.toNat_of_nonneg h0]
 ·rw [if_pos hg];unfold cnt at hk ⊢;rw [List.getD_eq_getElem?_getD, List.getElem?_append_right (by simp; omega), List.getD_eq_getElem?_getD]
  congr 2
  simp
 ·rw [if_neg hg]; rfl
structure NthR where
 k : Int
 l : Dt
 t : Int
 s : Int
 v : V4
def nthI (qs : Dt) (lo hi : Int) : Nat -> Int -> V4 -> Int -> Dt -> NthR
  | 0, s, v, k, l => ⟨k, l, qs.length, s, v⟩
  | m + 1, s, v, k, l =>
    if 1 <= V4.get v (qPart qs (qs.length - (m + 1))) then
      (if k < cnt qs lo hi m (s + wt qs (qs.length - (m + 1))) (V4.dec v (qPart qs (qs.length - (m + 1)))) then
        ⟨k, l ++ [[.i ((qs.length - (m + 1) : Nat) : Int)]], ((qs.length - (m + 1) : Nat) : Int) + 1, s + wt qs (qs.length - (m + 1)), V4.dec v (qPart qs (qs.length - (m + 1)))⟩
       else nthI qs lo hi m s v (k - cnt qs lo hi m (s + wt qs (qs.length - (m + 1))) (V4.dec v (qPart qs (qs.length - (m + 1))))) l)
    else nthI qs lo hi m s v k l
theorem nthI_at {qs : Dt} {lo hi s k : Int} {v : V4} {l : Dt} {i : Int} (h0 : 0 <= i) (h1 : i < qs.length) :
    nthI qs lo hi (qs.length - i.toNat) s v k l = if 1 <= V4.get v (qPart qs i.toNat) then
      (if k < cnt qs lo hi (qs.length - (i + 1).toNat) (s + wt qs i.toNat) (V4.dec v (qPart qs i.toNat)) then ⟨k, l ++ [[.i i]], i + 1, s + wt qs i.toNat, V4.dec v (qPart qs i.toNat)⟩
       else nthI qs lo hi (qs.length - (i + 1).toNat) s v (k - cnt qs lo hi (qs.length - (i + 1).toNat) (s + wt qs i.toNat) (V4.dec v (qPart qs i.toNat))) l)
    else nthI qs lo hi (qs.length - (i + 1).toNat) s v k l := by
  rw [show qs.length - i.toNat = (qs.length - (i + 1).toNat) + 1 by omega, nthI];have e : qs.length - (qs.length - (i + 1).toNat + 1) = i.toNat := by omega
  rw [e, Int.toNat_of_nonneg h0]
structure NthOk (qs : Dt) (lo hi : Int) (m : Nat) (t s : Int) (v : V4) (k : Int) (l : Dt) (r : NthR) : Prop where
 k0 : 0 <= r.k
 k1 : r.k < cnt qs lo hi (qs.length - r.t.toNat) r.s r.v
 st : StOk qs r.t r.s r.v
 t1 : t < r.t
 l1 : l ++ nthD qs lo hi m s v k = r.l ++ nthD qs lo hi (qs.length - r.t.toNat) r.s r.v r.k
 l2 : r.l.length = l.length + 1
theorem nthI_ok {qs ws w : Dt} {lo hi t s : Int} {v : V4} {l : Dt} (bk : BkOk qs ws lo hi w) (st : StOk qs t s v) (hv : V4.nil v = false) : ∀ (m : Nat) (i k : Int), (qs.length : Int) - i = m -> t <= i -> 0 <= k -> k < cnt qs lo hi (qs.length - i.toNat) s v ->
  NthOk qs lo hi (qs.length - i.toNat) t s v k l (nthI qs lo hi (qs.length - i.toNat) s v k l)
 | 0, i, k, hm, ht, k0, k1 => by
  rw [show qs.length - i.toNat = 0 by omega, cnt_zero hv] at k1;omega
 | m + 1, i, k, hm, ht, k0, k1 => by
  have t0 := st.a0;have hc := cnt_at (qs := qs) (lo := lo) (hi := hi) (s := s) hv (by omega) (show i < qs.length by omega);have hnt := nth_at (qs := qs) (lo := lo) (hi := hi) (s := s) hv (by omega) (show i < qs.length by omega) k0;rw [nthI_at (by omega) (by omega)]
  split
  ·rename_i hg;rw [if_pos hg] at hc
   split
   ·rename_i hl;exact ⟨k0, hl, st.step bk ht (by omega) hg, by show t < i + 1; omega, by rw [hnt.1 hg hl]; simp, by simp⟩
   ·rename_i hl;have r := nthI_ok (l := l) bk st hv m (i + 1) (k - cnt qs lo hi (qs.length - (i + 1).toNat) (s + wt qs i.toNat) (V4.dec v (qPart qs i.toNat))) (by omega) (by omega) (by omega) (by omega);exact ⟨r.k0, r.k1, r.st, r.t1, by rw [hnt.2.1 hg hl]; exact r.l1, r.l2⟩
  ·rename_i hg;rw [if_neg hg] at hc;have r := nthI_ok (l := l) bk st hv m (i + 1) k (by omega) (by omega) k0 (by omega);exact ⟨r.k0, r.k1, r.st, r.t1, by rw [hnt.2.2 hg]; exact r.l1, r.l2⟩
structure FolR where
 n : Int
 t : Int
 s : Int
 v : V4
def folS (qs : Dt) (lo hi : Int) : Dt -> FolR -> Option FolR
 | [], r => some r
 | x :: xs, r => if inr (x.getD 0 .z).int r.t ((qs.length : Int) - 1) = true /\ 1 <= V4.get r.v (qPart qs (x.getD 0 .z).int.toNat) then
   folS qs lo hi xs ⟨r.n + (cnt qs lo hi (qs.length - r.t.toNat) r.s r.v - cnt qs lo hi (qs.length - (x.getD 0 .z).int.toNat) r.s r.v), (x.getD 0 .z).int + 1, r.s + wt qs (x.getD 0 .z).int.toNat, V4.dec r.v (qPart qs (x.getD 0 .z).int.toNat)⟩
  else none
def fol (qs ws : Dt) (lo hi : Int) (xs : Dt) : Int × Bool :=
 match folS qs lo hi xs ⟨0, 0, 0, v0 ws⟩ with
 | none => (0, false)
 | some r => (r.n, V4.nil r.v && inr r.s lo hi)
end Sp
def Xdc [InW] (e : List Ed) (K : Nat -> List Ed -> Prop) : Prop := match e with
 | [.ro _ q2, .i n, .i i, .ro _ qs, .ro _ ws, .i lo, .i hi, .l w, .l xs] => Pre (Sp.BankV qs.xs ws.xs lo hi /\ q2.xs = qs.xs /\ n = qs.xs.length /\ 0 <= i /\ i <= n /\ w = Sp.wts qs.xs i.toNat) (K 0 [.ro _ qs, .ro _ ws, .i lo, .i hi, .l (Sp.wts qs.xs qs.xs.length), .l xs])
 | _ => False
noncomputable def T6 : Tab Try.prog := ⟨[Xbp], [], []⟩
noncomputable def Xd5 : LC where
 len := 52
 T := [(7, (.ptr 4 0)), (25, .rs Ja), (26, .int .i64), (27, .int .i64)]
 H := [(4, .blk 82 [.rs Ja, .rs Jb, .int .i64, .int .i64, (.row 9), (.mp 10)]), (9, .arr 3 Jb), (10, .mpP)]
 W := ([9, 10] ++ rg 28 23)
 outs := [⟨.exit 0, [(7, (.ptr 4 0))], [(4, .blk 82 [.rs Ja, .rs Jb, .int .i64, .int .i64, (.row 6), (.mp 10)]), (6, .arr 3 Jb), (10, .mpP)], ([9, 10] ++ rg 25 26)⟩]
 spec := Xdc
def Xco [W : InW] (q2 : Ro Ja) (n i : Int) (qs : Ro Ja) (ws : Ro Jb) (lo hi : Int) (w xs : Dt) (A : List Ed -> Prop) (K : Nat -> List Ed -> Prop) : Prop :=
 Vif (decide (i < n)) (Need (decide (0 <= i) && decide (i < (↑(q2.xs.length) : Int))) (Need (decide (i.toNat < q2.xs.length)) (Vif (decide ((0 : Int) < (cel q2.xs i.toNat (0+1)).int)) (Ar .i64 ((cel q2.xs i.toNat ((0 : Nat) + 1 + 1)).int * 1000) fun z => Need (!decide ((cel q2.xs i.toNat (0+1)).int = 0)) (Ar .i64 (z.tdiv (cel q2.xs i.toNat (0+1)).int) fun z => Need (decide ((w.length + [[Cl.i z]].length) * 8 <= 140737488355328)) (Ar .i64 (i + 1) fun z_1 => A [.ro _ q2, .i n, .i z_1, .ro _ qs, .ro _ ws, .i lo, .i hi, .l (w ++ [[Cl.i z]]), .l xs]))) (Need (decide ((w.length + [[Cl.i 500]].length) * 8 <= 140737488355328)) (Ar .i64 (i + 1) fun z => A [.ro _ q2, .i n, .i z, .ro _ qs, .ro _ ws, .i lo, .i hi, .l (w ++ [[Cl.i 500]]), .l xs]))))) (K 0 [.ro _ qs, .ro _ ws, .i lo, .i hi, .l w, .l xs])
theorem Xgm (W : InW) (q2 n i qs ws lo hi w xs A K) : Yff { cxT Try.prog TT T6 1000 50 with fn := 45 } 1000 (Yob Try.prog 45 7) (Yd6 52 [(7, .ptr 4 0), (25, .rs _ q2), (26, .si .i64 n), (27, .si .i64 i)] ([9, 10] ++ rg 28 23)) [(4, .blk 82 [.rs _ qs, .rs _ ws, .si .i64 lo, .si .i64 hi, .rw 9, .mp 10]), (9, .arr 3 Jb w), (10, .obj (.mpP xs))] (Yut Xd5 A K) = Xco q2 n i qs ws lo hi w xs A K := by kernel_rfl
def Xds : Prop := ∀ (W : InW) (body a : Code), (Try.prog.funcs[45]?).bind (·.body) = some body -> a ∈ Yy body -> Yf0 a = 7 -> @Yms W Try.prog a (@Ytz W Xd5)
theorem Xhm (meas : [InW] -> List Ed -> Nat) (hyp_ : ∀ (W : InW) q2 n i qs ws lo hi w xs K, Xdc [.ro _ q2, .i n, .i i, .ro _ qs, .ro _ ws, .i lo, .i hi, .l w, .l xs] K -> ∀ A : List Ed -> Prop, (∀ e, meas e < meas [.ro _ q2, .i n, .i i, .ro _ qs, .ro _ ws, .i lo, .i hi, .l w, .l xs] -> Xdc e K -> A e) -> Xco q2 n i qs ws lo hi w xs A K) : Xds :=
 LE.okOf' (fun W => @TT W) (fun W => @Xc W) Xa T6 1000 50 (by kernel_rfl) Xd5 (fun W => @meas W) fun W q2 n i qs ws lo hi w xs K hs =>
  (Xgm W q2 n i qs ws lo hi w xs (fun e => meas e < meas [.ro _ q2, .i n, .i i, .ro _ qs, .ro _ ws, .i lo, .i hi, .l w, .l xs] /\ Xdc e K) K).mpr (hyp_ W q2 n i qs ws lo hi w xs K hs _ fun e h1 h2 => ⟨h1, h2⟩)
theorem Xjb : Xds := Xhm (fun e => match e with | _ :: .i n :: .i i :: _ => (n - i).toNat | _ => 0) fun W q2 n i qs ws lo hi w xs K hs A hA => by
 obtain ⟨⟨bv, hq, rfl, h0, h1, rfl⟩, hk⟩ := hs;unfold Xco;have hn := bv.n2;have hl := Sp.length_wts qs.xs i.toNat;have hl2 : q2.xs.length = qs.xs.length := by rw [hq]
 by_cases hi' : i < qs.xs.length
 ·have ha := bv.ask i.toNat (by omega);have hb := bv.bad i.toNat (by omega);have hw := bv.wt (i := i.toNat) (by omega);have go : ∀ z, z = Sp.wt qs.xs i.toNat -> A [.ro _ q2, .i qs.xs.length, .i (i + 1), .ro _ qs, .ro _ ws, .i lo, .i hi, .l (Sp.wts qs.xs i.toNat ++ [[.i z]]), .l xs] := fun z hz => hA _ (by show ((qs.xs.length : Int) - (i + 1)).toNat < ((qs.xs.length : Int) - i).toNat; omega) ⟨⟨bv, hq, rfl, by omega, by omega, by rw [hz, <- Sp.wts_succ, show (i + 1).toNat = i.toNat + 1 by omega]⟩, hk⟩;clear hA hk;unfold Sp.qAsk at ha hb;unfold Sp.qBad at hb;unfold Sp.wt Sp.qAsk Sp.qBad at go hw;simp only [hq, Nat.zero_add, Nat.reduceAdd];refine vifd (fun _ => ?_) (fun h => absurd hi' h);refine ned (by simp; omega) (nedd (by omega) (vifd (fun e1 => ?_) (fun e1 => ?_)))
  ·rw [if_neg (by omega)] at hw;refine ar64 (by omega) (ned (by simp; omega) (ar64 (by omega) (nedd (by simp [hl]; omega) (ar64 (by omega) (go _ ?_)))));rw [if_neg (by omega)]
  ·refine nedd (by simp [hl]; omega) (ar64 (by omega) (go _ ?_));rw [if_pos (by omega)]
 ·refine vifd (fun h => absurd h hi') (fun _ => ?_);rw [show i.toNat = qs.xs.length by omega];exact hk
noncomputable def Xjs : LE Try.prog := ⟨45, 7, fun W => @Ytz W Xd5, Xjb⟩
noncomputable def T7 : Tab Try.prog := ⟨[Xbp], [Xjs], []⟩
def Xeg [InW] (e : List Ed) (K : Nat -> List Ed -> Prop) : Prop := match e with
 | [.ro _ qs, .ro _ ws, .i lo, .i hi] => Vif (decide (Sp.chkE qs.xs ws.xs lo hi = 0)) (K 1 [.ro _ qs, .ro _ ws, .i lo, .i hi, .l (Sp.wts qs.xs qs.xs.length), .l []]) (K 0 [.i (Sp.chkE qs.xs ws.xs lo hi)])
 | _ => False
noncomputable def Xg : CC where
 g := 45
 args := [.agg [.rs Ja, .rs Jb, .int .i64, .int .i64]]
 H := []
 outs := [⟨false, .tup [(.lit (.pointer none)), .int .i64], [], false⟩, ⟨false, .tup [(.ptr 6 0), (.lit (.int .i64 0))], [(6, .blk 82 [.rs Ja, .rs Jb, .int .i64, .int .i64, (.row 12), (.mp 18)]), (12, .arr 3 Jb), (18, .mpP)], false⟩]
 spec := Xeg
def Xbo [W : InW] (qs : Ro Ja) (ws : Ro Jb) (lo hi : Int) (K : Nat -> List Ed -> Prop) : Prop :=
 Pre True (Vif (!decide (Sp.chkE qs.xs ws.xs lo hi = 0)) (K 0 [.i (Sp.chkE qs.xs ws.xs lo hi)]) (Pre (Sp.BankV qs.xs ws.xs lo hi /\ qs.xs = qs.xs /\ (↑(qs.xs.length) : Int) = (↑(qs.xs.length) : Int) /\ Zk <= 0 /\ Zk <= (↑(qs.xs.length) : Int) /\ [] = Sp.wts qs.xs (Int.toNat Zk)) (K (0+1) [.ro _ qs, .ro _ ws, .i lo, .i hi, .l (Sp.wts qs.xs (qs.xs.length)), .l []])))
theorem Xfa (W : InW) (qs ws lo hi K) : Yw2 (cxT Try.prog TT T7 1000 50) 1000 45 [.agg [.rs _ qs, .rs _ ws, .si .i64 lo, .si .i64 hi]] [] (fun v h => outC Xg.H [] Xg.outs 0 false v h K) (fun v h => outC Xg.H [] Xg.outs 0 true v h K) = Xbo qs ws lo hi K := by kernel_rfl
theorem Xfq (hyp_ : ∀ (W : InW) qs ws lo hi K, Xeg [.ro _ qs, .ro _ ws, .i lo, .i hi] K -> Xbo qs ws lo hi K) : ∀ W : InW, @CallC W Try.prog Xg :=
 CC.okOf (fun W => @TT W) (fun W => @Xc W) Xa T7 1000 50 Xg fun W qs ws lo hi K hs => (Xfa W qs ws lo hi K).mpr (hyp_ W qs ws lo hi K hs)
theorem Xb5 : ∀ W : InW, @CallC W Try.prog Xg := Xfq fun W qs ws lo hi K hs => by
 unfold Xbo;delta Zk;refine ⟨trivial, vifn (fun e => hs.2 (decide_eq_false e)) (fun e => ?_)⟩;exact ⟨⟨Sp.chkE_iff.1 e, rfl, rfl, by omega, by omega, rfl⟩, hs.1 (decide_eq_true e)⟩
noncomputable def T8 : Tab Try.prog := ⟨[Xh], [], [ceOf Xe Xr, ceOf Xd Xl, ceOf (Xf 17) (Xi 17)]⟩
def Xde [InW] (e : List Ed) (K : Nat -> List Ed -> Prop) : Prop := match e with
 | [.i k, .i i, .ro _ qs, .ro _ ws, .i lo, .i hi, .l w, .l xs, .i t, .i s, .i a, .i b, .i c, .i d, .l l] => Pre (Sp.BkOk qs.xs ws.xs lo hi w /\ Sp.StOk qs.xs t s ⟨a, b, c, d⟩ /\ Sp.MemoOk qs.xs lo hi xs /\ Sp.V4.nil ⟨a, b, c, d⟩ = false /\ t <= i /\ i <= qs.xs.length /\ 0 <= k /\ k < Sp.cnt qs.xs lo hi (qs.xs.length - i.toNat) s ⟨a, b, c, d⟩ /\ l.length <= t)
   (Sp.FaM (Sp.MemoOk qs.xs lo hi) fun ys => K 0 [.i (Sp.nthI qs.xs lo hi (qs.xs.length - i.toNat) s ⟨a, b, c, d⟩ k l).k, .ro _ qs, .ro _ ws, .i lo, .i hi, .l w, .l ys, .i (Sp.nthI qs.xs lo hi (qs.xs.length - i.toNat) s ⟨a, b, c, d⟩ k l).t, .i (Sp.nthI qs.xs lo hi (qs.xs.length - i.toNat) s ⟨a, b, c, d⟩ k l).s, .i (Sp.nthI qs.xs lo hi (qs.xs.length - i.toNat) s ⟨a, b, c, d⟩ k l).v.a, .i (Sp.nthI qs.xs lo hi (qs.xs.length - i.toNat) s ⟨a, b, c, d⟩ k l).v.b, .i (Sp.nthI qs.xs lo hi (qs.xs.length - i.toNat) s ⟨a, b, c, d⟩ k l).v.c, .i (Sp.nthI qs.xs lo hi (qs.xs.length - i.toNat) s ⟨a, b, c, d⟩ k l).v.d, .l (Sp.nthI qs.xs lo hi (qs.xs.length - i.toNat) s ⟨a, b, c, d⟩ k l).l])
 | _ => False
noncomputable def Xd7 : LC where
 len := 53
 T := [(0, (.ptr 4 0)), (1, .int .i64), (4, (.row 15)), (5, (.ptr 13 0)), (6, .int .i64)]
 H := [(4, .blk 82 [.rs Ja, .rs Jb, .int .i64, .int .i64, (.row 7), (.mp 10)]), (7, .arr 3 Jb), (10, .mpP), (13, .blk 86 [.int .i64, .int .i64, .int .i64, .int .i64, .int .i64, .int .i64]), (15, .arr 3 Jb)]
 W := ([7, 8, 9] ++ rg 18 33)
 outs := [⟨.exit 2, [(0, (.ptr 4 0)), (1, .int .i64), (4, (.row 6)), (5, (.ptr 13 0))], [(4, .blk 82 [.rs Ja, .rs Jb, .int .i64, .int .i64, (.row 7), (.mp 10)]), (7, .arr 3 Jb), (10, .mpP), (13, .blk 86 [.int .i64, .int .i64, .int .i64, .int .i64, .int .i64, .int .i64]), (6, .arr 3 Jb)], (rg 6 4 ++ rg 18 33)⟩]
 spec := Xde
def Zba [W : InW] (i : Int) (qs : Ro Ja) (a b c d : Int) := Sp.V4.dec { a := a, b := b, c := c, d := d } (Sp.qPart qs.xs i.toNat)
def Xcq [W : InW] (k i : Int) (qs : Ro Ja) (ws : Ro Jb) (lo hi : Int) (w xs : Dt) (t s a b c d : Int) (l : Dt) (A : List Ed -> Prop) (K : Nat -> List Ed -> Prop) : Prop :=
 Vif (decide (i < (↑(qs.xs.length) : Int))) (Pre (Sp.BkOk qs.xs ws.xs lo hi w /\ Sp.StOk qs.xs t s { a := a, b := b, c := c, d := d } /\ t <= i /\ i < (↑(qs.xs.length) : Int)) (Vif (!decide ((1 : Int) <= Sp.V4.get { a := a, b := b, c := c, d := d } (Sp.qPart qs.xs i.toNat))) (Ar .i64 (i + 1) fun z => A [.i k, .i z, .ro _ qs, .ro _ ws, .i lo, .i hi, .l w, .l xs, .i t, .i s, .i a, .i b, .i c, .i d, .l l]) (Pre (Sp.BkOk qs.xs ws.xs lo hi w /\ Sp.StOk qs.xs (i + 1) (s + Sp.wt qs.xs i.toNat) { a := (Zba i qs a b c d).1, b := (Zba i qs a b c d).2, c := (Zba i qs a b c d).3, d := (Zba i qs a b c d).4 } /\ Sp.MemoOk qs.xs lo hi xs /\ qs.xs.length - (i + 1).toNat < 17) (Sp.FaM (Sp.MemoOk qs.xs lo hi) fun ys => Vif (decide (k < Sp.cnt qs.xs lo hi (qs.xs.length - (i + 1).toNat) (s + Sp.wt qs.xs i.toNat) { a := (Zba i qs a b c d).1, b := (Zba i qs a b c d).2, c := (Zba i qs a b c d).3, d := (Zba i qs a b c d).4 })) (Need (decide ((l.length + [[Cl.i i]].length) * 8 <= 140737488355328)) (K 0 [.i k, .ro _ qs, .ro _ ws, .i lo, .i hi, .l w, .l ys, .i (i + 1), .i (s + Sp.wt qs.xs i.toNat), .i (Zba i qs a b c d).1, .i (Zba i qs a b c d).2, .i (Zba i qs a b c d).3, .i (Zba i qs a b c d).4, .l (l ++ [[Cl.i i]])])) (Ar .i64 (k - Sp.cnt qs.xs lo hi (qs.xs.length - (i + 1).toNat) (s + Sp.wt qs.xs i.toNat) { a := (Zba i qs a b c d).1, b := (Zba i qs a b c d).2, c := (Zba i qs a b c d).3, d := (Zba i qs a b c d).4 }) fun z => Ar .i64 (i + 1) fun z_1 => A [.i z, .i z_1, .ro _ qs, .ro _ ws, .i lo, .i hi, .l w, .l ys, .i t, .i s, .i a, .i b, .i c, .i d, .l l]))))) (K 0 [.i k, .ro _ qs, .ro _ ws, .i lo, .i hi, .l w, .l xs, .i t, .i s, .i a, .i b, .i c, .i d, .l l])
theorem Xgo (W : InW) (k i qs ws lo hi w xs t s a b c d l A K) : Yff { cxT Try.prog TT T8 1000 50 with fn := 50 } 1000 (Yob Try.prog 50 5) (Yd6 53 [(0, .ptr 4 0), (1, .si .i64 k), (4, .rw 15), (5, .ptr 13 0), (6, .si .i64 i)] ([7, 8, 9] ++ rg 18 33)) [(4, .blk 82 [.rs _ qs, .rs _ ws, .si .i64 lo, .si .i64 hi, .rw 7, .mp 10]), (7, .arr 3 Jb w), (10, .obj (.mpP xs)), (13, .blk 86 [.si .i64 t, .si .i64 s, .si .i64 a, .si .i64 b, .si .i64 c, .si .i64 d]), (15, .arr 3 Jb l)] (Yut Xd7 A K) = Xcq k i qs ws lo hi w xs t s a b c d l A K := by kernel_rfl
def Xdu : Prop := ∀ (W : InW) (body a : Code), (Try.prog.funcs[50]?).bind (·.body) = some body -> a ∈ Yy body -> Yf0 a = 5 -> @Yms W Try.prog a (@Ytz W Xd7)
theorem Xho (meas : [InW] -> List Ed -> Nat) (hyp_ : ∀ (W : InW) k i qs ws lo hi w xs t s a b c d l K, Xde [.i k, .i i, .ro _ qs, .ro _ ws, .i lo, .i hi, .l w, .l xs, .i t, .i s, .i a, .i b, .i c, .i d, .l l] K -> ∀ A : List Ed -> Prop, (∀ e, meas e < meas [.i k, .i i, .ro _ qs, .ro _ ws, .i lo, .i hi, .l w, .l xs, .i t, .i s, .i a, .i b, .i c, .i d, .l l] -> Xde e K -> A e) -> Xcq k i qs ws lo hi w xs t s a b c d l A K) : Xdu :=
 LE.okOf' (fun W => @TT W) (fun W => @Xc W) Xa T8 1000 50 (by kernel_rfl) Xd7 (fun W => @meas W) fun W k i qs ws lo hi w xs t s a b c d l K hs =>
  (Xgo W k i qs ws lo hi w xs t s a b c d l (fun e => meas e < meas [.i k, .i i, .ro _ qs, .ro _ ws, .i lo, .i hi, .l w, .l xs, .i t, .i s, .i a, .i b, .i c, .i d, .l l] /\ Xde e K) K).mpr (hyp_ W k i qs ws lo hi w xs t s a b c d l K hs _ fun e h1 h2 => ⟨h1, h2⟩)
theorem Xjd : Xdu := Xho (fun e => match e with | _ :: .i i :: .ro _ qs :: _ => ((qs.xs.length : Int) - i).toNat | _ => 0) fun W k i qs ws lo hi w xs t s a b c d l K hs A hA => by
 obtain ⟨⟨bk, st, mo, hv, h0, h1, k0, k1, hl⟩, ⟨hk⟩⟩ := hs;unfold Xcq;delta Zba;have hf := bk.few;have ht := st.a0
 by_cases hi' : i < qs.xs.length
 ·have hc := Sp.cnt_at (qs := qs.xs) (lo := lo) (hi := hi) (s := s) hv (by omega) hi';rw [Sp.nthI_at (by omega) hi'] at hk;have hlt : ((qs.xs.length : Int) - (i + 1)).toNat < ((qs.xs.length : Int) - i).toNat := by omega
  have b1 := Sp.cnt_16 (qs := qs.xs) (lo := lo) (hi := hi) (m := qs.xs.length - (i + 1).toNat) (by omega) s ⟨a, b, c, d⟩;have b2 := Sp.cnt_16 (qs := qs.xs) (lo := lo) (hi := hi) (m := qs.xs.length - (i + 1).toNat) (by omega) (s + Sp.wt qs.xs i.toNat) (Sp.V4.dec ⟨a, b, c, d⟩ (Sp.qPart qs.xs i.toNat));refine vifd (fun _ => ?_) (fun h => absurd hi' h);refine ⟨⟨bk, st, h0, hi'⟩, vifn (fun hg => ?_) (fun hg => ?_)⟩
  ·rw [if_neg hg] at hc hk;exact ar64 (by omega) (hA _ hlt ⟨⟨bk, st, mo, hv, by omega, by omega, k0, by omega, hl⟩, ⟨hk⟩⟩)
  ·rw [if_pos hg] at hc hk;refine ⟨⟨bk, st.step bk h0 hi' hg, mo, by omega⟩, ⟨fun ys hy => vifd (fun hlt2 => ?_) (fun hlt2 => ?_)⟩⟩
   ·rw [if_pos hlt2] at hk;exact nedd (by simp; omega) (hk ys hy)
   ·rw [if_neg hlt2] at hk;exact ar64 (by omega) (ar64 (by omega) (hA _ hlt ⟨⟨bk, st, hy, hv, by omega, by omega, by omega, by omega, hl⟩, ⟨hk⟩⟩))
 ·rw [show qs.xs.length - i.toNat = 0 by omega, Sp.cnt_zero hv] at k1;omega
noncomputable def Xju : LE Try.prog := ⟨50, 5, fun W => @Ytz W Xd7, Xjd⟩
noncomputable def T9 : Tab Try.prog := ⟨[Xh], [Xju], [ceOf Xe Xr, ceOf Xd Xl, ceOf (Xf 17) (Xi 17)]⟩
def Xdd [InW] (e : List Ed) (K : Nat -> List Ed -> Prop) : Prop := match e with
 | [.i k, .ro _ qs, .ro _ ws, .i lo, .i hi, .l w, .l xs, .i t, .i s, .i a, .i b, .i c, .i d, .l l] => Pre (Sp.BkOk qs.xs ws.xs lo hi w /\ Sp.StOk qs.xs t s ⟨a, b, c, d⟩ /\ Sp.MemoOk qs.xs lo hi xs /\ 0 <= k /\ k < Sp.cnt qs.xs lo hi (qs.xs.length - t.toNat) s ⟨a, b, c, d⟩ /\ l.length <= t)
   (Sp.FaM (Sp.MemoOk qs.xs lo hi) fun ys => K 0 [.ro _ qs, .ro _ ws, .i lo, .i hi, .l w, .l ys, .l (l ++ Sp.nthD qs.xs lo hi (qs.xs.length - t.toNat) s ⟨a, b, c, d⟩ k)])
 | _ => False
noncomputable def Xd6 : LC where
 len := 53
 T := [(0, (.ptr 4 0)), (1, .int .i64), (4, (.row 15)), (5, (.ptr 12 0))]
 H := [(4, .blk 82 [.rs Ja, .rs Jb, .int .i64, .int .i64, (.row 7), (.mp 10)]), (7, .arr 3 Jb), (10, .mpP), (12, .blk 86 [.int .i64, .int .i64, .int .i64, .int .i64, .int .i64, .int .i64]), (15, .arr 3 Jb)]
 W := (rg 6 4 ++ rg 12 40)
 outs := [⟨.exit 0, [(0, (.ptr 4 0)), (4, (.row 6))], [(4, .blk 82 [.rs Ja, .rs Jb, .int .i64, .int .i64, (.row 7), (.mp 10)]), (7, .arr 3 Jb), (10, .mpP), (6, .arr 3 Jb)], ([1] ++ rg 5 5 ++ rg 12 40)⟩]
 spec := Xdd
def Zbb [W : InW] (k : Int) (qs : Ro Ja) (lo hi t s a b c d : Int) (l : Dt) := Sp.nthI qs.xs lo hi (qs.xs.length - t.toNat) s { a := a, b := b, c := c, d := d } k l
def Xcp [W : InW] (k : Int) (qs : Ro Ja) (ws : Ro Jb) (lo hi : Int) (w xs : Dt) (t s a b c d : Int) (l : Dt) (A : List Ed -> Prop) (K : Nat -> List Ed -> Prop) : Prop :=
 Vif (!(decide (a = 0) && (decide (b = 0) && (decide (c = 0) && (decide (d = 0) && true))))) (Pre (Sp.BkOk qs.xs ws.xs lo hi w /\ Sp.StOk qs.xs t s { a := a, b := b, c := c, d := d } /\ Sp.MemoOk qs.xs lo hi xs /\ Sp.V4.nil { a := a, b := b, c := c, d := d } = false /\ t <= t /\ t <= (↑(qs.xs.length) : Int) /\ 0 <= k /\ k < Sp.cnt qs.xs lo hi (qs.xs.length - t.toNat) s { a := a, b := b, c := c, d := d } /\ (↑(l.length) : Int) <= t) (Sp.FaM (Sp.MemoOk qs.xs lo hi) fun ys => A [.i (Zbb k qs lo hi t s a b c d l).k, .ro _ qs, .ro _ ws, .i lo, .i hi, .l w, .l ys, .i (Zbb k qs lo hi t s a b c d l).t, .i (Zbb k qs lo hi t s a b c d l).s, .i (Zbb k qs lo hi t s a b c d l).v.1, .i (Zbb k qs lo hi t s a b c d l).v.2, .i (Zbb k qs lo hi t s a b c d l).v.3, .i (Zbb k qs lo hi t s a b c d l).v.4, .l (Zbb k qs lo hi t s a b c d l).l])) (K 0 [.ro _ qs, .ro _ ws, .i lo, .i hi, .l w, .l xs, .l l])
theorem Xgn (W : InW) (k qs ws lo hi w xs t s a b c d l A K) : Yff { cxT Try.prog TT T9 1000 50 with fn := 50 } 1000 (Yob Try.prog 50 3) (Yd6 53 [(0, .ptr 4 0), (1, .si .i64 k), (4, .rw 15), (5, .ptr 12 0)] (rg 6 4 ++ rg 12 40)) [(4, .blk 82 [.rs _ qs, .rs _ ws, .si .i64 lo, .si .i64 hi, .rw 7, .mp 10]), (7, .arr 3 Jb w), (10, .obj (.mpP xs)), (12, .blk 86 [.si .i64 t, .si .i64 s, .si .i64 a, .si .i64 b, .si .i64 c, .si .i64 d]), (15, .arr 3 Jb l)] (Yut Xd6 A K) = Xcp k qs ws lo hi w xs t s a b c d l A K := by kernel_rfl
def Xdt : Prop := ∀ (W : InW) (body a : Code), (Try.prog.funcs[50]?).bind (·.body) = some body -> a ∈ Yy body -> Yf0 a = 3 -> @Yms W Try.prog a (@Ytz W Xd6)
theorem Xhn (meas : [InW] -> List Ed -> Nat) (hyp_ : ∀ (W : InW) k qs ws lo hi w xs t s a b c d l K, Xdd [.i k, .ro _ qs, .ro _ ws, .i lo, .i hi, .l w, .l xs, .i t, .i s, .i a, .i b, .i c, .i d, .l l] K -> ∀ A : List Ed -> Prop, (∀ e, meas e < meas [.i k, .ro _ qs, .ro _ ws, .i lo, .i hi, .l w, .l xs, .i t, .i s, .i a, .i b, .i c, .i d, .l l] -> Xdd e K -> A e) -> Xcp k qs ws lo hi w xs t s a b c d l A K) : Xdt :=
 LE.okOf' (fun W => @TT W) (fun W => @Xc W) Xa T9 1000 50 (by kernel_rfl) Xd6 (fun W => @meas W) fun W k qs ws lo hi w xs t s a b c d l K hs =>
  (Xgn W k qs ws lo hi w xs t s a b c d l (fun e => meas e < meas [.i k, .ro _ qs, .ro _ ws, .i lo, .i hi, .l w, .l xs, .i t, .i s, .i a, .i b, .i c, .i d, .l l] /\ Xdd e K) K).mpr (hyp_ W k qs ws lo hi w xs t s a b c d l K hs _ fun e h1 h2 => ⟨h1, h2⟩)
theorem Xjc : Xdt := Xhn (fun e => match e with | [_, .ro _ qs, _, _, _, _, _, .i t, _, _, _, _, _, _] => ((qs.xs.length : Int) - t).toNat | _ => 0) fun W k qs ws lo hi w xs t s a b c d l K hs A hA => by
 obtain ⟨⟨bk, st, mo, k0, k1, hl⟩, ⟨hk⟩⟩ := hs;unfold Xcp;delta Zbb;refine vifb (fun hv => ?_) (fun hv => ?_)
 ·have hv : Sp.V4.nil ⟨a, b, c, d⟩ = false := by
   rw [<- Bool.not_eq_true];intro h2;simp [Sp.V4.nil, and_assoc] at h2;simp [h2] at hv
  have r := Sp.nthI_ok (l := l) bk st hv _ t k (Int.toNat_of_nonneg (show 0 <= (qs.xs.length : Int) - t by have := st.a1; omega)).symm (by omega) k0 k1;refine ⟨⟨bk, st, mo, hv, by omega, st.a1, k0, k1, hl⟩, ⟨fun ys hy => ?_⟩⟩;refine hA _ ?_ ⟨⟨bk, r.st, hy, r.k0, r.k1, ?_⟩, ⟨fun zs hz => ?_⟩⟩
  ·have := r.t1;have := r.st.a1
   show ((qs.xs.length : Int) - (Sp.nthI qs.xs lo hi (qs.xs.length - t.toNat) s ⟨a, b, c, d⟩ k l).t).toNat < ((qs.xs.length : Int) - t).toNat
   omega
  ·have := r.l2;have := r.t1;omega
  ·have := hk zs hz;rw [r.l1] at this;exact this
 ·have hv : Sp.V4.nil ⟨a, b, c, d⟩ = true := by simpa [Sp.V4.nil, and_assoc] using hv
  have := hk xs mo;rw [Sp.nth_nil hv, List.append_nil] at this;exact this
noncomputable def Xjt : LE Try.prog := ⟨50, 3, fun W => @Ytz W Xd6, Xjc⟩
noncomputable def T10 : Tab Try.prog := ⟨[Xh], [Xjt], [ceOf Xe Xr, ceOf Xd Xl, ceOf (Xf 17) (Xi 17)]⟩
def Xf3 [InW] (e : List Ed) (K : Nat -> List Ed -> Prop) : Prop := match e with
 | [.i k, .ro _ qs, .ro _ ws, .i lo, .i hi, .l w, .l xs] => Pre (Sp.BkOk qs.xs ws.xs lo hi w /\ Sp.StOk qs.xs 0 0 (Sp.v0 ws.xs) /\ Sp.MemoOk qs.xs lo hi xs /\ 0 <= k /\ k < Sp.cnt qs.xs lo hi qs.xs.length 0 (Sp.v0 ws.xs))
   (Sp.FaM (Sp.MemoOk qs.xs lo hi) fun ys => K 0 [.ro _ qs, .ro _ ws, .i lo, .i hi, .l w, .l ys, .l (Sp.nthD qs.xs lo hi qs.xs.length 0 (Sp.v0 ws.xs) k)])
 | _ => False
noncomputable def Xm : CC where
 g := 50
 args := [(.ptr 4 0), .int .i64]
 H := [(4, .blk 82 [.rs Ja, .rs Jb, .int .i64, .int .i64, (.row 7), (.mp 10)]), (7, .arr 3 Jb), (10, .mpP)]
 outs := [⟨false, (.row 6), [(4, .blk 82 [.rs Ja, .rs Jb, .int .i64, .int .i64, (.row 7), (.mp 10)]), (7, .arr 3 Jb), (10, .mpP), (6, .arr 3 Jb)], false⟩]
 spec := Xf3
def Zbc := (0 : Nat)
def Xcx [W : InW] (k : Int) (qs : Ro Ja) (ws : Ro Jb) (lo hi : Int) (w xs : Dt) (K : Nat -> List Ed -> Prop) : Prop :=
 Pre (Sp.BkOk qs.xs ws.xs lo hi w /\ Sp.StOk qs.xs Zk Zk { a := (cel ws.xs Zbc Zbc).int, b := (cel ws.xs (1 : Nat) Zbc).int, c := (cel ws.xs (2 : Nat) Zbc).int, d := (cel ws.xs (3 : Nat) Zbc).int } /\ Sp.MemoOk qs.xs lo hi xs /\ 0 <= k /\ k < Sp.cnt qs.xs lo hi (qs.xs.length - Int.toNat Zk) Zk { a := (cel ws.xs Zbc Zbc).int, b := (cel ws.xs (1 : Nat) Zbc).int, c := (cel ws.xs (2 : Nat) Zbc).int, d := (cel ws.xs (3 : Nat) Zbc).int } /\ (↑Zbc : Int) <= 0) (Sp.FaM (Sp.MemoOk qs.xs lo hi) fun ys => K 0 [.ro _ qs, .ro _ ws, .i lo, .i hi, .l w, .l ys, .l (Sp.nthD qs.xs lo hi (qs.xs.length - Int.toNat Zk) Zk { a := (cel ws.xs Zbc Zbc).int, b := (cel ws.xs (1 : Nat) Zbc).int, c := (cel ws.xs (2 : Nat) Zbc).int, d := (cel ws.xs (3 : Nat) Zbc).int } k)])
theorem Xgv (W : InW) (k qs ws lo hi w xs K) : Yw2 (cxT Try.prog TT T10 1000 50) 1000 50 [.ptr 4 0, .si .i64 k] [(4, .blk 82 [.rs _ qs, .rs _ ws, .si .i64 lo, .si .i64 hi, .rw 7, .mp 10]), (7, .arr 3 Jb w), (10, .obj (.mpP xs))] (fun v h => outC Xm.H [.ro _ qs, .ro _ ws, .i lo, .i hi, .l w, .l xs] Xm.outs 0 false v h K) (fun v h => outC Xm.H [.ro _ qs, .ro _ ws, .i lo, .i hi, .l w, .l xs] Xm.outs 0 true v h K) = Xcx k qs ws lo hi w xs K := by kernel_rfl
theorem Xhv (hyp_ : ∀ (W : InW) k qs ws lo hi w xs K, Xf3 [.i k, .ro _ qs, .ro _ ws, .i lo, .i hi, .l w, .l xs] K -> Xcx k qs ws lo hi w xs K) : ∀ W : InW, @CallC W Try.prog Xm :=
 CC.okOf (fun W => @TT W) (fun W => @Xc W) Xa T10 1000 50 Xm fun W k qs ws lo hi w xs K hs => (Xgv W k qs ws lo hi w xs K).mpr (hyp_ W k qs ws lo hi w xs K hs)
theorem Xgb : ∀ W : InW, @CallC W Try.prog Xm := Xhv fun W k qs ws lo hi w xs K hs => by
 obtain ⟨⟨bk, st, mo, k0, k1⟩, ⟨hk⟩⟩ := hs;unfold Xcx;delta Zbc Zk;exact ⟨⟨bk, st, mo, k0, k1, by omega⟩, ⟨fun ys hy => hk ys hy⟩⟩
def Xdg [InW] (e : List Ed) (K : Nat -> List Ed -> Prop) : Prop := match e with
 | [.i n, .i x, .i i, .ro _ qs, .ro _ ws, .i lo, .i hi, .l w, .l xs, .i t, .i s, .i a, .i b, .i c, .i d] => Pre (Sp.BkOk qs.xs ws.xs lo hi w /\ Sp.StOk qs.xs t s ⟨a, b, c, d⟩ /\ Sp.MemoOk qs.xs lo hi xs /\ t <= i /\ i <= x /\ x < qs.xs.length /\ 0 <= n /\ n + Sp.cnt qs.xs lo hi (qs.xs.length - i.toNat) s ⟨a, b, c, d⟩ <= 65536)
   (Sp.FaM (Sp.MemoOk qs.xs lo hi) fun ys => K 0 [.i (n + (Sp.cnt qs.xs lo hi (qs.xs.length - i.toNat) s ⟨a, b, c, d⟩ - Sp.cnt qs.xs lo hi (qs.xs.length - x.toNat) s ⟨a, b, c, d⟩)), .i x, .ro _ qs, .ro _ ws, .i lo, .i hi, .l w, .l ys, .i t, .i s, .i a, .i b, .i c, .i d])
 | _ => False
noncomputable def Xd9 : LC where
 len := 76
 T := [(0, (.ptr 4 0)), (4, .int .i64), (6, (.ptr 13 0)), (8, .int .i64), (9, .int .i64)]
 H := [(4, .blk 82 [.rs Ja, .rs Jb, .int .i64, .int .i64, (.row 7), (.mp 10)]), (7, .arr 3 Jb), (10, .mpP), (13, .blk 86 [.int .i64, .int .i64, .int .i64, .int .i64, .int .i64, .int .i64])]
 W := ([10, 11] ++ rg 36 18)
 outs := [⟨.exit 2, [(0, (.ptr 4 0)), (4, .int .i64), (6, (.ptr 13 0)), (8, .int .i64)], [(4, .blk 82 [.rs Ja, .rs Jb, .int .i64, .int .i64, (.row 7), (.mp 10)]), (7, .arr 3 Jb), (10, .mpP), (13, .blk 86 [.int .i64, .int .i64, .int .i64, .int .i64, .int .i64, .int .i64])], ([9, 10, 11] ++ rg 36 18)⟩]
 spec := Xdg
def Zbd [W : InW] (i : Int) (qs : Ro Ja) (a b c d : Int) := Sp.V4.dec { a := a, b := b, c := c, d := d } (Sp.qPart qs.xs i.toNat)
def Xcs [W : InW] (n x i : Int) (qs : Ro Ja) (ws : Ro Jb) (lo hi : Int) (w xs : Dt) (t s a b c d : Int) (A : List Ed -> Prop) (K : Nat -> List Ed -> Prop) : Prop :=
 Vif (decide (i < x)) (Pre (Sp.BkOk qs.xs ws.xs lo hi w /\ Sp.StOk qs.xs t s { a := a, b := b, c := c, d := d } /\ t <= i /\ i < (↑(qs.xs.length) : Int)) (Vif (decide ((1 : Int) <= Sp.V4.get { a := a, b := b, c := c, d := d } (Sp.qPart qs.xs i.toNat))) (Pre (Sp.BkOk qs.xs ws.xs lo hi w /\ Sp.StOk qs.xs (i + 1) (s + Sp.wt qs.xs i.toNat) { a := (Zbd i qs a b c d).1, b := (Zbd i qs a b c d).2, c := (Zbd i qs a b c d).3, d := (Zbd i qs a b c d).4 } /\ Sp.MemoOk qs.xs lo hi xs /\ qs.xs.length - (i + 1).toNat < 17) (Sp.FaM (Sp.MemoOk qs.xs lo hi) fun ys => Ar .i64 (n + Sp.cnt qs.xs lo hi (qs.xs.length - (i + 1).toNat) (s + Sp.wt qs.xs i.toNat) { a := (Zbd i qs a b c d).1, b := (Zbd i qs a b c d).2, c := (Zbd i qs a b c d).3, d := (Zbd i qs a b c d).4 }) fun z => Ar .i64 (i + 1) fun z_1 => A [.i z, .i x, .i z_1, .ro _ qs, .ro _ ws, .i lo, .i hi, .l w, .l ys, .i t, .i s, .i a, .i b, .i c, .i d])) (Ar .i64 (i + 1) fun z => A [.i n, .i x, .i z, .ro _ qs, .ro _ ws, .i lo, .i hi, .l w, .l xs, .i t, .i s, .i a, .i b, .i c, .i d]))) (K 0 [.i n, .i x, .ro _ qs, .ro _ ws, .i lo, .i hi, .l w, .l xs, .i t, .i s, .i a, .i b, .i c, .i d])
theorem Xgq (W : InW) (n x i qs ws lo hi w xs t s a b c d A K) : Yff { cxT Try.prog TT T8 1000 50 with fn := 51 } 1000 (Yob Try.prog 51 9) (Yd6 76 [(0, .ptr 4 0), (4, .si .i64 n), (6, .ptr 13 0), (8, .si .i64 x), (9, .si .i64 i)] ([10, 11] ++ rg 36 18)) [(4, .blk 82 [.rs _ qs, .rs _ ws, .si .i64 lo, .si .i64 hi, .rw 7, .mp 10]), (7, .arr 3 Jb w), (10, .obj (.mpP xs)), (13, .blk 86 [.si .i64 t, .si .i64 s, .si .i64 a, .si .i64 b, .si .i64 c, .si .i64 d])] (Yut Xd9 A K) = Xcs n x i qs ws lo hi w xs t s a b c d A K := by kernel_rfl
def Xdw : Prop := ∀ (W : InW) (body a : Code), (Try.prog.funcs[51]?).bind (·.body) = some body -> a ∈ Yy body -> Yf0 a = 9 -> @Yms W Try.prog a (@Ytz W Xd9)
theorem Xhq (meas : [InW] -> List Ed -> Nat) (hyp_ : ∀ (W : InW) n x i qs ws lo hi w xs t s a b c d K, Xdg [.i n, .i x, .i i, .ro _ qs, .ro _ ws, .i lo, .i hi, .l w, .l xs, .i t, .i s, .i a, .i b, .i c, .i d] K -> ∀ A : List Ed -> Prop, (∀ e, meas e < meas [.i n, .i x, .i i, .ro _ qs, .ro _ ws, .i lo, .i hi, .l w, .l xs, .i t, .i s, .i a, .i b, .i c, .i d] -> Xdg e K -> A e) -> Xcs n x i qs ws lo hi w xs t s a b c d A K) : Xdw :=
 LE.okOf' (fun W => @TT W) (fun W => @Xc W) Xa T8 1000 50 (by kernel_rfl) Xd9 (fun W => @meas W) fun W n x i qs ws lo hi w xs t s a b c d K hs =>
  (Xgq W n x i qs ws lo hi w xs t s a b c d (fun e => meas e < meas [.i n, .i x, .i i, .ro _ qs, .ro _ ws, .i lo, .i hi, .l w, .l xs, .i t, .i s, .i a, .i b, .i c, .i d] /\ Xdg e K) K).mpr (hyp_ W n x i qs ws lo hi w xs t s a b c d K hs _ fun e h1 h2 => ⟨h1, h2⟩)
theorem Xjf : Xdw := Xhq (fun e => match e with | _ :: .i x :: .i i :: _ => (x - i).toNat | _ => 0) fun W n x i qs ws lo hi w xs t s a b c d K hs A hA => by
 obtain ⟨⟨bk, st, mo, h0, h1, h2, n0, n1⟩, ⟨hk⟩⟩ := hs;unfold Xcs;delta Zbd;have hf := bk.few;have ht := st.a0;have hm := Sp.cnt_mono (qs := qs.xs) (lo := lo) (hi := hi) (s := s) (v := ⟨a, b, c, d⟩) (i := i) (x - i).toNat (by omega) (by omega);rw [show i + ((x - i).toNat : Nat) = x by omega] at hm
 by_cases hi' : i < x
 ·have hc := Sp.cnt_at' (qs := qs.xs) (lo := lo) (hi := hi) (s := s) (v := ⟨a, b, c, d⟩) (i := i) (by omega) (by omega);have hl : (x - (i + 1)).toNat < (x - i).toNat := by omega
  have b1 := Sp.cnt_16 (qs := qs.xs) (lo := lo) (hi := hi) (m := qs.xs.length - (i + 1).toNat) (by omega) s ⟨a, b, c, d⟩;have b2 := Sp.cnt_16 (qs := qs.xs) (lo := lo) (hi := hi) (m := qs.xs.length - (i + 1).toNat) (by omega) (s + Sp.wt qs.xs i.toNat) (Sp.V4.dec ⟨a, b, c, d⟩ (Sp.qPart qs.xs i.toNat));refine vifd (fun _ => ?_) (fun h => absurd hi' h);refine ⟨⟨bk, st, h0, by omega⟩, vifd (fun hg => ?_) (fun hg => ?_)⟩
  ·rw [if_pos hg] at hc;refine ⟨⟨bk, st.step bk h0 (by omega) hg, mo, by omega⟩, ⟨fun ys hy => ar64 (by omega) (ar64 (by omega) (hA _ hl ⟨⟨bk, st, hy, by omega, by omega, h2, by omega, by omega⟩, ⟨fun zs hz => ?_⟩⟩))⟩⟩;have := hk zs hz;rw [hc] at this;refine Eq.mp (congrArg (fun z => K 0 (Ed.i z :: _)) ?_) this;omega
  ·rw [if_neg hg, Int.zero_add] at hc;refine ar64 (by omega) (hA _ hl ⟨⟨bk, st, mo, by omega, by omega, h2, by omega, by omega⟩, ⟨fun zs hz => ?_⟩⟩);have := hk zs hz;rw [hc] at this;exact this
 ·refine vifd (fun h => absurd h hi') (fun _ => ?_);have := hk xs mo;rw [show x = i by omega] at this;rw [show x = i by omega];simpa using this
noncomputable def Xjw : LE Try.prog := ⟨51, 9, fun W => @Ytz W Xd9, Xjf⟩
noncomputable def T11 : Tab Try.prog := ⟨[Xh], [Xjw], [ceOf Xe Xr, ceOf Xd Xl, ceOf (Xf 17) (Xi 17)]⟩
namespace Sp
def isS : Option FolR -> Bool
 | some _ => true
 | none => false
def getS (r : Option FolR) : FolR := r.getD ⟨0, 0, 0, ⟨0, 0, 0, 0⟩⟩
theorem folS_at {qs : Dt} {lo hi : Int} {zs : Dt} {j : Int} (h0 : 0 <= j) (h1 : j < zs.length) (r : FolR) :
  folS qs lo hi (zs.drop j.toNat) r = if inr (cel zs j.toNat 0).int r.t ((qs.length : Int) - 1) = true /\ 1 <= V4.get r.v (qPart qs (cel zs j.toNat 0).int.toNat) then
   folS qs lo hi (zs.drop (j + 1).toNat) ⟨r.n + (cnt qs lo hi (qs.length - r.t.toNat) r.s r.v - cnt qs lo hi (qs.length - (cel zs j.toNat 0).int.toNat) r.s r.v), (cel zs j.toNat 0).int + 1, r.s + wt qs (cel zs j.toNat 0).int.toNat, V4.dec r.v (qPart qs (cel zs j.toNat 0).int.toNat)⟩
  else none := by
 rw [List.drop_eq_getElem_cons (by omega), folS, show (j + 1).toNat = j.toNat + 1 by omega];have e : (zs[j.toNat]'(by omega)).getD 0 .z = cel zs j.toNat 0 := by
  unfold cel;rw [List.getD_eq_getElem?_getD (l := zs), List.getElem?_eq_getElem (by omega)];rfl
 rw [e]
theorem folS_ok {qs ws w : Dt} {lo hi : Int} (bk : BkOk qs ws lo hi w) : ∀ (zs : Dt) (r r' : FolR), StOk qs r.t r.s r.v -> folS qs lo hi zs r = some r' -> StOk qs r'.t r'.s r'.v
 | [], r, r', st, h => by rw [folS] at h; cases h; exact st
 | z :: zs, r, r', st, h => by
  rw [folS] at h
  split at h
  ·rename_i hg;have h1 := inr_iff.1 hg.1;exact folS_ok bk zs _ r' (st.step bk h1.1 (by omega) hg.2) h
  ·cases h
end Sp
def Xdf [InW] (e : List Ed) (K : Nat -> List Ed -> Prop) : Prop := match e with
 | [.i n, .ro _ zs, .i l, .i j, .ro _ qs, .ro _ ws, .i lo, .i hi, .l w, .l xs, .i t, .i s, .i a, .i b, .i c, .i d] => Pre (Sp.BkOk qs.xs ws.xs lo hi w /\ Sp.StOk qs.xs t s ⟨a, b, c, d⟩ /\ Sp.MemoOk qs.xs lo hi xs /\ l = zs.xs.length /\ 0 <= j /\ j <= l /\ 0 <= n /\ n + Sp.cnt qs.xs lo hi (qs.xs.length - t.toNat) s ⟨a, b, c, d⟩ <= 65536)
   (Sp.FaM (Sp.MemoOk qs.xs lo hi) fun ys => Vif (Sp.isS (Sp.folS qs.xs lo hi (zs.xs.drop j.toNat) ⟨n, t, s, ⟨a, b, c, d⟩⟩))
    (K 0 [.i (Sp.getS (Sp.folS qs.xs lo hi (zs.xs.drop j.toNat) ⟨n, t, s, ⟨a, b, c, d⟩⟩)).n, .ro _ qs, .ro _ ws, .i lo, .i hi, .l w, .l ys, .i (Sp.getS (Sp.folS qs.xs lo hi (zs.xs.drop j.toNat) ⟨n, t, s, ⟨a, b, c, d⟩⟩)).t, .i (Sp.getS (Sp.folS qs.xs lo hi (zs.xs.drop j.toNat) ⟨n, t, s, ⟨a, b, c, d⟩⟩)).s, .i (Sp.getS (Sp.folS qs.xs lo hi (zs.xs.drop j.toNat) ⟨n, t, s, ⟨a, b, c, d⟩⟩)).v.a, .i (Sp.getS (Sp.folS qs.xs lo hi (zs.xs.drop j.toNat) ⟨n, t, s, ⟨a, b, c, d⟩⟩)).v.b, .i (Sp.getS (Sp.folS qs.xs lo hi (zs.xs.drop j.toNat) ⟨n, t, s, ⟨a, b, c, d⟩⟩)).v.c, .i (Sp.getS (Sp.folS qs.xs lo hi (zs.xs.drop j.toNat) ⟨n, t, s, ⟨a, b, c, d⟩⟩)).v.d])
    (K 1 [.ro _ qs, .ro _ ws, .i lo, .i hi, .l w, .l ys]))
 | _ => False
noncomputable def Xd8 : LC where
 len := 76
 T := [(0, (.ptr 4 0)), (4, .int .i64), (6, (.ptr 13 0)), (16, .rs Jb), (17, .int .i64), (18, .int .i64)]
 H := [(4, .blk 82 [.rs Ja, .rs Jb, .int .i64, .int .i64, (.row 7), (.mp 10)]), (7, .arr 3 Jb), (10, .mpP), (13, .blk 86 [.int .i64, .int .i64, .int .i64, .int .i64, .int .i64, .int .i64])]
 W := ([5] ++ rg 8 6 ++ rg 19 46)
 outs := [⟨.exit 0, [(0, (.ptr 4 0)), (4, .int .i64), (6, (.ptr 13 0))], [(4, .blk 82 [.rs Ja, .rs Jb, .int .i64, .int .i64, (.row 7), (.mp 10)]), (7, .arr 3 Jb), (10, .mpP), (13, .blk 86 [.int .i64, .int .i64, .int .i64, .int .i64, .int .i64, .int .i64])], ([5] ++ rg 8 6 ++ rg 16 49)⟩, ⟨.ret, [(4, (.lit (.int .i64 0))), (5, (.lit (.bool false)))], [(4, .blk 82 [.rs Ja, .rs Jb, .int .i64, .int .i64, (.row 7), (.mp 10)]), (7, .arr 3 Jb), (10, .mpP)], ([0, 6] ++ rg 8 6 ++ rg 16 49)⟩]
 spec := Xdf
def Zbe [W : InW] (zs : Ro Jb) (j : Int) := cel zs.xs j.toNat (0 : Nat)
def Zbf [W : InW] (zs : Ro Jb) (j : Int) (qs : Ro Ja) (a b c d : Int) := Sp.V4.dec { a := a, b := b, c := c, d := d } (Sp.qPart qs.xs (Zbe zs j).int.toNat)
def Xcr [W : InW] (n : Int) (zs : Ro Jb) (l j : Int) (qs : Ro Ja) (ws : Ro Jb) (lo hi : Int) (w xs : Dt) (t s a b c d : Int) (A : List Ed -> Prop) (K : Nat -> List Ed -> Prop) : Prop :=
 Vif (decide (j < l)) (Need (decide (0 <= j) && decide (j < (↑(zs.xs.length) : Int))) (Need (decide (j.toNat < zs.xs.length)) (Ar .i64 ((↑(qs.xs.length) : Int) - 1) fun z => Pre True (Vif (Sp.out t z [[Cl.i (Zbe zs j).int]]) (K (0+1) [.ro _ qs, .ro _ ws, .i lo, .i hi, .l w, .l xs]) (Pre (Sp.BkOk qs.xs ws.xs lo hi w /\ Sp.StOk qs.xs t s { a := a, b := b, c := c, d := d } /\ Sp.MemoOk qs.xs lo hi xs /\ t <= t /\ t <= (Zbe zs j).int /\ (Zbe zs j).int < (↑(qs.xs.length) : Int) /\ 0 <= n /\ n + Sp.cnt qs.xs lo hi (qs.xs.length - t.toNat) s { a := a, b := b, c := c, d := d } <= (65536 : Int)) (Sp.FaM (Sp.MemoOk qs.xs lo hi) fun ys => Pre (Sp.BkOk qs.xs ws.xs lo hi w /\ Sp.StOk qs.xs t s { a := a, b := b, c := c, d := d } /\ t <= (Zbe zs j).int /\ (Zbe zs j).int < (↑(qs.xs.length) : Int)) (Vif (!decide ((1 : Int) <= Sp.V4.get { a := a, b := b, c := c, d := d } (Sp.qPart qs.xs (Zbe zs j).int.toNat))) (K (0+1) [.ro _ qs, .ro _ ws, .i lo, .i hi, .l w, .l ys]) (Ar .i64 (j + 1) fun z => A [.i (n + (Sp.cnt qs.xs lo hi (qs.xs.length - t.toNat) s { a := a, b := b, c := c, d := d } - Sp.cnt qs.xs lo hi (qs.xs.length - (Zbe zs j).int.toNat) s { a := a, b := b, c := c, d := d })), .ro _ zs, .i l, .i z, .ro _ qs, .ro _ ws, .i lo, .i hi, .l w, .l ys, .i ((Zbe zs j).int + 1), .i (s + Sp.wt qs.xs (Zbe zs j).int.toNat), .i (Zbf zs j qs a b c d).1, .i (Zbf zs j qs a b c d).2, .i (Zbf zs j qs a b c d).3, .i (Zbf zs j qs a b c d).4])))))))) (K 0 [.i n, .ro _ qs, .ro _ ws, .i lo, .i hi, .l w, .l xs, .i t, .i s, .i a, .i b, .i c, .i d])
theorem Xgp (W : InW) (n zs l j qs ws lo hi w xs t s a b c d A K) : Yff { cxT Try.prog TT T11 1000 50 with fn := 51 } 1000 (Yob Try.prog 51 4) (Yd6 76 [(0, .ptr 4 0), (4, .si .i64 n), (6, .ptr 13 0), (16, .rs _ zs), (17, .si .i64 l), (18, .si .i64 j)] ([5] ++ rg 8 6 ++ rg 19 46)) [(4, .blk 82 [.rs _ qs, .rs _ ws, .si .i64 lo, .si .i64 hi, .rw 7, .mp 10]), (7, .arr 3 Jb w), (10, .obj (.mpP xs)), (13, .blk 86 [.si .i64 t, .si .i64 s, .si .i64 a, .si .i64 b, .si .i64 c, .si .i64 d])] (Yut Xd8 A K) = Xcr n zs l j qs ws lo hi w xs t s a b c d A K := by kernel_rfl
def Xdv : Prop := ∀ (W : InW) (body a : Code), (Try.prog.funcs[51]?).bind (·.body) = some body -> a ∈ Yy body -> Yf0 a = 4 -> @Yms W Try.prog a (@Ytz W Xd8)
theorem Xhp (meas : [InW] -> List Ed -> Nat) (hyp_ : ∀ (W : InW) n zs l j qs ws lo hi w xs t s a b c d K, Xdf [.i n, .ro _ zs, .i l, .i j, .ro _ qs, .ro _ ws, .i lo, .i hi, .l w, .l xs, .i t, .i s, .i a, .i b, .i c, .i d] K -> ∀ A : List Ed -> Prop, (∀ e, meas e < meas [.i n, .ro _ zs, .i l, .i j, .ro _ qs, .ro _ ws, .i lo, .i hi, .l w, .l xs, .i t, .i s, .i a, .i b, .i c, .i d] -> Xdf e K -> A e) -> Xcr n zs l j qs ws lo hi w xs t s a b c d A K) : Xdv :=
 LE.okOf' (fun W => @TT W) (fun W => @Xc W) Xa T11 1000 50 (by kernel_rfl) Xd8 (fun W => @meas W) fun W n zs l j qs ws lo hi w xs t s a b c d K hs =>
  (Xgp W n zs l j qs ws lo hi w xs t s a b c d (fun e => meas e < meas [.i n, .ro _ zs, .i l, .i j, .ro _ qs, .ro _ ws, .i lo, .i hi, .l w, .l xs, .i t, .i s, .i a, .i b, .i c, .i d] /\ Xdf e K) K).mpr (hyp_ W n zs l j qs ws lo hi w xs t s a b c d K hs _ fun e h1 h2 => ⟨h1, h2⟩)
theorem Xje : Xdv := Xhp (fun e => match e with | _ :: _ :: .i l :: .i j :: _ => (l - j).toNat | _ => 0) fun W n zs l j qs ws lo hi w xs t s a b c d K hs A hA => by
 obtain ⟨⟨bk, st, mo, rfl, h0, h1, n0, n1⟩, ⟨hk⟩⟩ := hs;unfold Xcr;delta Zbf Zbe;have hf := bk.few;have ht := st.a0;have hz := zs.len;simp only [maxLen] at hz
 by_cases hj : j < zs.xs.length
 ·rw [Sp.folS_at h0 hj] at hk;have hl : ((zs.xs.length : Int) - (j + 1)).toNat < ((zs.xs.length : Int) - j).toNat := by omega
  refine vifd (fun _ => ?_) (fun h => absurd hj h);refine ned (by simp; omega) (nedd (by omega) (ar64 (by omega) ⟨trivial, ?_⟩));rw [out1]
  by_cases hx : Sp.inr (cel zs.xs j.toNat 0).int t ((qs.xs.length : Int) - 1) = true
  ·have hx2 := Sp.inr_iff.1 hx;have hm := Sp.cnt_mono (qs := qs.xs) (lo := lo) (hi := hi) (s := s) (v := ⟨a, b, c, d⟩) (i := t) ((cel zs.xs j.toNat 0).int - t).toNat (by omega) (by omega);rw [show t + (((cel zs.xs j.toNat 0).int - t).toNat : Nat) = (cel zs.xs j.toNat 0).int by omega] at hm;have hc := Sp.cnt_at' (qs := qs.xs) (lo := lo) (hi := hi) (s := s) (v := ⟨a, b, c, d⟩) (i := (cel zs.xs j.toNat 0).int) (by omega) (by omega);have p1 := Sp.cnt_pos (qs := qs.xs) (lo := lo) (hi := hi) (s := s) (v := ⟨a, b, c, d⟩) (m := qs.xs.length - ((cel zs.xs j.toNat 0).int + 1).toNat);refine vif (fun h => by rw [hx] at h; exact absurd h (by decide)) (fun _ => ?_);refine ⟨⟨bk, st, mo, by omega, hx2.1, by omega, n0, n1⟩, ⟨fun ys hy => ⟨⟨bk, st, hx2.1, by omega⟩, vifn (fun hg => ?_) (fun hg => ?_)⟩⟩⟩
   ·rw [if_neg (fun h => hg h.2)] at hk;exact (hk ys hy).2 rfl
   ·rw [if_pos ⟨hx, hg⟩] at hk;rw [if_pos hg] at hc;have h6 : n + (Sp.cnt qs.xs lo hi (qs.xs.length - t.toNat) s ⟨a, b, c, d⟩ - Sp.cnt qs.xs lo hi (qs.xs.length - (cel zs.xs j.toNat 0).int.toNat) s ⟨a, b, c, d⟩) + Sp.cnt qs.xs lo hi (qs.xs.length - ((cel zs.xs j.toNat 0).int + 1).toNat) (s + Sp.wt qs.xs (cel zs.xs j.toNat 0).int.toNat) (Sp.V4.dec ⟨a, b, c, d⟩ (Sp.qPart qs.xs (cel zs.xs j.toNat 0).int.toNat)) <= 65536 := by omega
    exact ar64 (by omega) (hA _ hl ⟨⟨bk, st.step bk hx2.1 (by omega) hg, hy, rfl, by omega, by omega, by omega, h6⟩, ⟨hk⟩⟩)
  ·refine vif (fun _ => ?_) (fun h => absurd (by simpa using h) hx);rw [if_neg (fun h => hx h.1)] at hk;exact (hk xs mo).2 rfl
 ·refine vifd (fun h => absurd h hj) (fun _ => ?_);rw [List.drop_eq_nil_of_le (by omega)] at hk;exact (hk xs mo).1 rfl
noncomputable def Xjv : LE Try.prog := ⟨51, 4, fun W => @Ytz W Xd8, Xje⟩
noncomputable def T12 : Tab Try.prog := ⟨[Xh], [Xjv], [ceOf Xe Xr, ceOf Xd Xl, ceOf (Xf 17) (Xi 17)]⟩
def Xf4 [InW] (e : List Ed) (K : Nat -> List Ed -> Prop) : Prop := match e with
 | [.ro _ zs, .ro _ qs, .ro _ ws, .i lo, .i hi, .l w, .l xs] => Pre (Sp.BkOk qs.xs ws.xs lo hi w /\ Sp.StOk qs.xs 0 0 (Sp.v0 ws.xs) /\ Sp.MemoOk qs.xs lo hi xs)
   (Sp.FaM (Sp.MemoOk qs.xs lo hi) fun ys => K 0 [.i (Sp.fol qs.xs ws.xs lo hi zs.xs).1, .b (Sp.fol qs.xs ws.xs lo hi zs.xs).2, .ro _ qs, .ro _ ws, .i lo, .i hi, .l w, .l ys])
 | _ => False
noncomputable def Xn : CC where
 g := 51
 args := [(.ptr 4 0), .rs Jb]
 H := [(4, .blk 82 [.rs Ja, .rs Jb, .int .i64, .int .i64, (.row 7), (.mp 10)]), (7, .arr 3 Jb), (10, .mpP)]
 outs := [⟨false, .tup [.int .i64, .bool], [(4, .blk 82 [.rs Ja, .rs Jb, .int .i64, .int .i64, (.row 7), (.mp 10)]), (7, .arr 3 Jb), (10, .mpP)], false⟩]
 spec := Xf4
def Zbg [W : InW] (zs : Ro Jb) (qs : Ro Ja) (ws : Ro Jb) (lo hi : Int) := Sp.folS qs.xs lo hi (List.drop (Int.toNat Zk) zs.xs) { n := Zk, t := Zk, s := Zk, v := { a := (cel ws.xs Zbc Zbc).int, b := (cel ws.xs (1 : Nat) Zbc).int, c := (cel ws.xs (2 : Nat) Zbc).int, d := (cel ws.xs (3 : Nat) Zbc).int } }
def Zbh [W : InW] (zs : Ro Jb) (qs : Ro Ja) (ws : Ro Jb) (lo hi : Int) := Sp.getS (Zbg zs qs ws lo hi)
def Xcy [W : InW] (zs : Ro Jb) (qs : Ro Ja) (ws : Ro Jb) (lo hi : Int) (w xs : Dt) (K : Nat -> List Ed -> Prop) : Prop :=
 Pre (Sp.BkOk qs.xs ws.xs lo hi w /\ Sp.StOk qs.xs Zk Zk { a := (cel ws.xs Zbc Zbc).int, b := (cel ws.xs (1 : Nat) Zbc).int, c := (cel ws.xs (2 : Nat) Zbc).int, d := (cel ws.xs (3 : Nat) Zbc).int } /\ Sp.MemoOk qs.xs lo hi xs /\ (↑(zs.xs.length) : Int) = (↑(zs.xs.length) : Int) /\ Zk <= 0 /\ Zk <= (↑(zs.xs.length) : Int) /\ Zk <= 0 /\ Zk + Sp.cnt qs.xs lo hi (qs.xs.length - Int.toNat Zk) Zk { a := (cel ws.xs Zbc Zbc).int, b := (cel ws.xs (1 : Nat) Zbc).int, c := (cel ws.xs (2 : Nat) Zbc).int, d := (cel ws.xs (3 : Nat) Zbc).int } <= (65536 : Int)) (Sp.FaM (Sp.MemoOk qs.xs lo hi) fun ys => Vif (Sp.isS (Zbg zs qs ws lo hi)) (Vif (decide ((Zbh zs qs ws lo hi).v.1 = 0) && (decide ((Zbh zs qs ws lo hi).v.2 = 0) && (decide ((Zbh zs qs ws lo hi).v.3 = 0) && (decide ((Zbh zs qs ws lo hi).v.4 = 0) && true)))) (Pre (Sp.BkOk qs.xs ws.xs lo hi w /\ Sp.StOk qs.xs (Zbh zs qs ws lo hi).t (Zbh zs qs ws lo hi).s { a := (Zbh zs qs ws lo hi).v.1, b := (Zbh zs qs ws lo hi).v.2, c := (Zbh zs qs ws lo hi).v.3, d := (Zbh zs qs ws lo hi).v.4 } /\ Sp.MemoOk qs.xs lo hi ys /\ qs.xs.length - (Zbh zs qs ws lo hi).t.toNat < 17) (Sp.FaM (Sp.MemoOk qs.xs lo hi) fun ys => K 0 [.i (Zbh zs qs ws lo hi).n, .b (decide (Sp.cnt qs.xs lo hi (qs.xs.length - (Zbh zs qs ws lo hi).t.toNat) (Zbh zs qs ws lo hi).s { a := (Zbh zs qs ws lo hi).v.1, b := (Zbh zs qs ws lo hi).v.2, c := (Zbh zs qs ws lo hi).v.3, d := (Zbh zs qs ws lo hi).v.4 } = (1 : Int))), .ro _ qs, .ro _ ws, .i lo, .i hi, .l w, .l ys])) (K 0 [.i (Zbh zs qs ws lo hi).n, .b false, .ro _ qs, .ro _ ws, .i lo, .i hi, .l w, .l ys])) (K 0 [.i Zk, .b false, .ro _ qs, .ro _ ws, .i lo, .i hi, .l w, .l ys]))
theorem Xgw (W : InW) (zs qs ws lo hi w xs K) : Yw2 (cxT Try.prog TT T12 1000 50) 1000 51 [.ptr 4 0, .rs _ zs] [(4, .blk 82 [.rs _ qs, .rs _ ws, .si .i64 lo, .si .i64 hi, .rw 7, .mp 10]), (7, .arr 3 Jb w), (10, .obj (.mpP xs))] (fun v h => outC Xn.H [.ro _ qs, .ro _ ws, .i lo, .i hi, .l w, .l xs] Xn.outs 0 false v h K) (fun v h => outC Xn.H [.ro _ qs, .ro _ ws, .i lo, .i hi, .l w, .l xs] Xn.outs 0 true v h K) = Xcy zs qs ws lo hi w xs K := by kernel_rfl
theorem Xhw (hyp_ : ∀ (W : InW) zs qs ws lo hi w xs K, Xf4 [.ro _ zs, .ro _ qs, .ro _ ws, .i lo, .i hi, .l w, .l xs] K -> Xcy zs qs ws lo hi w xs K) : ∀ W : InW, @CallC W Try.prog Xn :=
 CC.okOf (fun W => @TT W) (fun W => @Xc W) Xa T12 1000 50 Xn fun W zs qs ws lo hi w xs K hs => (Xgw W zs qs ws lo hi w xs K).mpr (hyp_ W zs qs ws lo hi w xs K hs)
theorem dec1 {P : Prop} [i : Decidable P] {b : Bool} (h : P ↔ b = true) : b = decide P := by
 cases b
 ·exact (decide_eq_false fun p => absurd (h.1 p) (by decide)).symm
 ·exact (decide_eq_true (h.2 rfl)).symm
theorem Xgc : ∀ W : InW, @CallC W Try.prog Xn := Xhw fun W zs qs ws lo hi w xs K hs => by
 obtain ⟨⟨bk, st, mo⟩, ⟨hk⟩⟩ := hs;unfold Xcy;delta Zbh Zbg Zk Zbc;have hf := bk.few;have b1 := Sp.cnt_16 (qs := qs.xs) (lo := lo) (hi := hi) (m := qs.xs.length - Int.toNat 0) (by omega) 0 (Sp.v0 ws.xs);unfold Sp.fol at hk;have hok := fun r => Sp.folS_ok (lo := lo) (hi := hi) bk zs.xs ⟨0, 0, 0, Sp.v0 ws.xs⟩ r st;have e0 : ∀ r, Sp.folS qs.xs lo hi (zs.xs.drop (Int.toNat 0)) r = Sp.folS qs.xs lo hi zs.xs r := fun r => by rw [show Int.toNat 0 = 0 from rfl, List.drop_zero]
 refine ⟨⟨bk, st, mo, rfl, by omega, by omega, by omega, show 0 + Sp.cnt qs.xs lo hi (qs.xs.length - Int.toNat 0) 0 (Sp.v0 ws.xs) <= 65536 by omega⟩, ⟨fun ys hy => ?_⟩⟩;simp only [e0]
 change Vif (Sp.isS (Sp.folS qs.xs lo hi zs.xs ⟨0, 0, 0, Sp.v0 ws.xs⟩)) _ _
 revert hk hok
 show _ -> _ -> Vif (Sp.isS (Sp.folS qs.xs lo hi zs.xs ⟨0, 0, 0, Sp.v0 ws.xs⟩)) _ _
 have ev : (⟨(cel ws.xs 0 0).int, (cel ws.xs 1 0).int, (cel ws.xs 2 0).int, (cel ws.xs 3 0).int⟩ : V4) = Sp.v0 ws.xs := rfl;simp only [ev];generalize Sp.folS qs.xs lo hi zs.xs ⟨0, 0, 0, Sp.v0 ws.xs⟩ = R;intro hk hok;cases R with
 | none =>
  refine vif (fun h => by cases h) (fun _ => ?_);exact hk ys hy
 | some r =>
  refine vif (fun _ => ?_) (fun h => by cases h);have so := hok r rfl;simp only [Sp.getS, Option.getD_some];obtain ⟨rn, rt, rs, ⟨va, vb, vc, vd⟩⟩ := r;simp only at hk so ⊢;refine vif (fun hv => ?_) (fun hv => ?_)
  ·have g0 := Bool.and_eq_true_iff.1 hv;have g1 := Bool.and_eq_true_iff.1 g0.2;have g2 := Bool.and_eq_true_iff.1 g1.2;have g3 := Bool.and_eq_true_iff.1 g2.2;have a0 : va = 0 := of_decide_eq_true g0.1;have a1 : vb = 0 := of_decide_eq_true g1.1;have a2 : vc = 0 := of_decide_eq_true g2.1;have a3 : vd = 0 := of_decide_eq_true g3.1;have hv : Sp.V4.nil ⟨va, vb, vc, vd⟩ = true := by simp [Sp.V4.nil, a0, a1, a2, a3]
   refine ⟨⟨bk, so, hy, by omega⟩, ⟨fun us hu => ?_⟩⟩;have := hk us hu;rw [hv, Bool.true_and] at this;refine Eq.mp (congrArg (fun z => K 0 (Ed.i rn :: Ed.b z :: _)) (dec1 ?_)) this
   show Sp.cnt qs.xs lo hi (qs.xs.length - rt.toNat) rs ⟨va, vb, vc, vd⟩ = 1 ↔ _
   rw [Sp.cnt_nil hv];cases Sp.inr rs lo hi <;> simp
  ·have hv : Sp.V4.nil ⟨va, vb, vc, vd⟩ = false := by
    rw [<- Bool.not_eq_true];intro h2;simp [Sp.V4.nil, and_assoc] at h2;simp [h2] at hv
   have := hk ys hy;rw [hv, Bool.false_and] at this;exact this
noncomputable def T13 : Tab Try.prog := ⟨[Xh], [], [ceOf Xg Xb5, ceOf Xe Xr, ceOf (Xf 17) (Xi 17), ceOf Xm Xgb, ceOf Xn Xgc]⟩
namespace Sp
def total (qs ws : Dt) (lo hi : Int) : Int := cnt qs lo hi qs.length 0 (v0 ws)
def wtsR (qs ws : Dt) (lo hi : Int) : Dt := if chkE qs ws lo hi = 0 then wts qs qs.length else []
def cntR (qs ws : Dt) (lo hi : Int) : Int := if chkE qs ws lo hi = 0 then total qs ws lo hi else 0
def nthE (qs ws : Dt) (lo hi k : Int) : Int := if chkE qs ws lo hi = 0 then (if inr k 0 (total qs ws lo hi - 1) then 0 else 4) else chkE qs ws lo hi
def nthR (qs ws : Dt) (lo hi k : Int) : Dt := if nthE qs ws lo hi k = 0 then nthD qs lo hi qs.length 0 (v0 ws) k else []
def numE (qs ws : Dt) (lo hi : Int) (xs : Dt) : Int := if chkE qs ws lo hi = 0 then (if (fol qs ws lo hi xs).2 then 0 else 6) else chkE qs ws lo hi
def numR (qs ws : Dt) (lo hi : Int) (xs : Dt) : Int := if numE qs ws lo hi xs = 0 then (fol qs ws lo hi xs).1 else 0
end Sp
abbrev Xbv (ds : DS) : DS := match ds with | [[.l qs, .l ws, .i lo, .i hi]] => [[.l (Sp.wtsR qs ws lo hi)], [.i (Sp.chkE qs ws lo hi)]] | _ => []
abbrev Xb1 (ds : DS) : DS := match ds with | [[.l qs, .l ws, .i lo, .i hi]] => [[.i (Sp.cntR qs ws lo hi)], [.i (Sp.chkE qs ws lo hi)]] | _ => []
abbrev Xbz (ds : DS) : DS := match ds with | [[.l qs, .l ws, .i lo, .i hi], [.i k]] => [[.l (Sp.nthR qs ws lo hi k)], [.i (Sp.nthE qs ws lo hi k)]] | _ => []
abbrev Xby (ds : DS) : DS := match ds with | [[.l qs, .l ws, .i lo, .i hi], [.l xs]] => [[.i (Sp.numR qs ws lo hi xs)], [.i (Sp.numE qs ws lo hi xs)]] | _ => []
def Xb9 [W : InW] (kQ : Ro Ja) (k_Ws : Ro Jb) (k_Lo k_Hi : Int) (Q : DS -> Prop) : Prop :=
 Vif (decide (Sp.chkE kQ.xs k_Ws.xs k_Lo k_Hi = 0)) (Q [[Cl.l (Sp.wts kQ.xs (kQ.xs.length))], [Cl.i 0]]) (Vif (!decide (Sp.chkE kQ.xs k_Ws.xs k_Lo k_Hi = 0)) (Q [[Cl.l []], [Cl.i (Sp.chkE kQ.xs k_Ws.xs k_Lo k_Hi)]]) ((16 : Nat) = 16 + 1))
theorem Xg0 (W : InW) (kQ k_Ws k_Lo k_Hi Q) : Yw5 (cxT Try.prog TT T13 1000 50) 1000 18 [.agg [.rs _ kQ, .rs _ k_Ws, .si .i64 k_Lo, .si .i64 k_Hi]] [] 0 (Y1i [(false, [.row 3 Jb]), (false, [.int .i64])] Q) (fun _ _ _ _ => Stuck 421) = Xb9 kQ k_Ws k_Lo k_Hi Q := by kernel_rfl
abbrev Xbd : List AT := [.agg [.sl Ja, .sl Jb, .int .i64, .int .i64]]
theorem Xh0 {pre : DS -> Prop} {res : DS -> DS} (hyp_ : ∀ (W : InW) (kQ : Ro Ja) (k_Ws : Ro Jb) (k_Lo k_Hi : Int), pre [[.l kQ.xs, .l k_Ws.xs, .i k_Lo, .i k_Hi]] -> ∀ Q : DS -> Prop, Q (res [[.l kQ.xs, .l k_Ws.xs, .i k_Lo, .i k_Hi]]) -> Xb9 kQ k_Ws k_Lo k_Hi Q) : PureOk Try.prog 18 Xbd [(false, [.row 3 Jb]), (false, [.int .i64])] pre res :=
 PureOk.of' (fun W => @TT W) (fun W => @Xc W) Xa T13 1000 50 fun W kQ k_Ws k_Lo k_Hi hp =>
  (Xg0 W kQ k_Ws k_Lo k_Hi (fun o => o = res [[.l kQ.xs, .l k_Ws.xs, .i k_Lo, .i k_Hi]])).mpr (hyp_ W kQ k_Ws k_Lo k_Hi hp _ rfl)
def Xcc [W : InW] (kQ : Ro Ja) (k_Ws : Ro Jb) (k_Lo k_Hi : Int) (Q : DS -> Prop) : Prop :=
 Vif (decide (Sp.chkE kQ.xs k_Ws.xs k_Lo k_Hi = 0)) (Pre (Sp.BkOk kQ.xs k_Ws.xs k_Lo k_Hi (Sp.wts kQ.xs (kQ.xs.length)) /\ Sp.StOk kQ.xs Zk Zk { a := (cel k_Ws.xs Zbc Zbc).int, b := (cel k_Ws.xs (1 : Nat) Zbc).int, c := (cel k_Ws.xs (2 : Nat) Zbc).int, d := (cel k_Ws.xs (3 : Nat) Zbc).int } /\ Sp.MemoOk kQ.xs k_Lo k_Hi [] /\ kQ.xs.length - Int.toNat Zk < 17) (Sp.FaM (Sp.MemoOk kQ.xs k_Lo k_Hi) fun ys => Q [[Cl.i (Sp.cnt kQ.xs k_Lo k_Hi (kQ.xs.length - Int.toNat Zk) Zk { a := (cel k_Ws.xs Zbc Zbc).int, b := (cel k_Ws.xs (1 : Nat) Zbc).int, c := (cel k_Ws.xs (2 : Nat) Zbc).int, d := (cel k_Ws.xs (3 : Nat) Zbc).int })], [Cl.i 0]])) (Vif (!decide (Sp.chkE kQ.xs k_Ws.xs k_Lo k_Hi = 0)) (Q [[Cl.i 0], [Cl.i (Sp.chkE kQ.xs k_Ws.xs k_Lo k_Hi)]]) ((16 : Nat) = 16 + 1))
theorem Xg3 (W : InW) (kQ k_Ws k_Lo k_Hi Q) : Yw5 (cxT Try.prog TT T13 1000 50) 1000 21 [.agg [.rs _ kQ, .rs _ k_Ws, .si .i64 k_Lo, .si .i64 k_Hi]] [] 0 (Y1i [(false, [.int .i64]), (false, [.int .i64])] Q) (fun _ _ _ _ => Stuck 421) = Xcc kQ k_Ws k_Lo k_Hi Q := by kernel_rfl
abbrev Xbg : List AT := [.agg [.sl Ja, .sl Jb, .int .i64, .int .i64]]
theorem Xh3 {pre : DS -> Prop} {res : DS -> DS} (hyp_ : ∀ (W : InW) (kQ : Ro Ja) (k_Ws : Ro Jb) (k_Lo k_Hi : Int), pre [[.l kQ.xs, .l k_Ws.xs, .i k_Lo, .i k_Hi]] -> ∀ Q : DS -> Prop, Q (res [[.l kQ.xs, .l k_Ws.xs, .i k_Lo, .i k_Hi]]) -> Xcc kQ k_Ws k_Lo k_Hi Q) : PureOk Try.prog 21 Xbg [(false, [.int .i64]), (false, [.int .i64])] pre res :=
 PureOk.of' (fun W => @TT W) (fun W => @Xc W) Xa T13 1000 50 fun W kQ k_Ws k_Lo k_Hi hp =>
  (Xg3 W kQ k_Ws k_Lo k_Hi (fun o => o = res [[.l kQ.xs, .l k_Ws.xs, .i k_Lo, .i k_Hi]])).mpr (hyp_ W kQ k_Ws k_Lo k_Hi hp _ rfl)
def Xcb [W : InW] (kQ : Ro Ja) (k_Ws : Ro Jb) (k_Lo k_Hi n : Int) (Q : DS -> Prop) : Prop :=
 Vif (decide (Sp.chkE kQ.xs k_Ws.xs k_Lo k_Hi = 0)) (Pre (Sp.BkOk kQ.xs k_Ws.xs k_Lo k_Hi (Sp.wts kQ.xs (kQ.xs.length)) /\ Sp.StOk kQ.xs Zk Zk { a := (cel k_Ws.xs Zbc Zbc).int, b := (cel k_Ws.xs (1 : Nat) Zbc).int, c := (cel k_Ws.xs (2 : Nat) Zbc).int, d := (cel k_Ws.xs (3 : Nat) Zbc).int } /\ Sp.MemoOk kQ.xs k_Lo k_Hi [] /\ kQ.xs.length - Int.toNat Zk < 17) (Sp.FaM (Sp.MemoOk kQ.xs k_Lo k_Hi) fun ys => Ar .i64 (Sp.cnt kQ.xs k_Lo k_Hi (kQ.xs.length - Int.toNat Zk) Zk { a := (cel k_Ws.xs Zbc Zbc).int, b := (cel k_Ws.xs (1 : Nat) Zbc).int, c := (cel k_Ws.xs (2 : Nat) Zbc).int, d := (cel k_Ws.xs (3 : Nat) Zbc).int } - (1 : Int)) fun z => Pre True (Vif (Sp.out Zk z [[Cl.i n]]) (Q [[Cl.l []], [Cl.i 4]]) (Pre (Sp.BkOk kQ.xs k_Ws.xs k_Lo k_Hi (Sp.wts kQ.xs (kQ.xs.length)) /\ Sp.StOk kQ.xs Zk Zk (Sp.v0 k_Ws.xs) /\ Sp.MemoOk kQ.xs k_Lo k_Hi ys /\ 0 <= n /\ n < Sp.cnt kQ.xs k_Lo k_Hi (kQ.xs.length) Zk (Sp.v0 k_Ws.xs)) (Sp.FaM (Sp.MemoOk kQ.xs k_Lo k_Hi) fun ys => Q [[Cl.l (Sp.nthD kQ.xs k_Lo k_Hi (kQ.xs.length) Zk (Sp.v0 k_Ws.xs) n)], [Cl.i 0]]))))) (Vif (!decide (Sp.chkE kQ.xs k_Ws.xs k_Lo k_Hi = 0)) (Q [[Cl.l []], [Cl.i (Sp.chkE kQ.xs k_Ws.xs k_Lo k_Hi)]]) ((16 : Nat) = 16 + 1))
theorem Xg2 (W : InW) (kQ k_Ws k_Lo k_Hi n Q) : Yw5 (cxT Try.prog TT T13 1000 50) 1000 24 [.agg [.rs _ kQ, .rs _ k_Ws, .si .i64 k_Lo, .si .i64 k_Hi], .si .i64 n] [] 0 (Y1i [(false, [.row 3 Jb]), (false, [.int .i64])] Q) (fun _ _ _ _ => Stuck 421) = Xcb kQ k_Ws k_Lo k_Hi n Q := by kernel_rfl
abbrev Xbf : List AT := [.agg [.sl Ja, .sl Jb, .int .i64, .int .i64], .one (.int .i64)]
theorem Xh2 {pre : DS -> Prop} {res : DS -> DS} (hyp_ : ∀ (W : InW) (kQ : Ro Ja) (k_Ws : Ro Jb) (k_Lo k_Hi n : Int), pre [[.l kQ.xs, .l k_Ws.xs, .i k_Lo, .i k_Hi], [.i n]] -> ∀ Q : DS -> Prop, Q (res [[.l kQ.xs, .l k_Ws.xs, .i k_Lo, .i k_Hi], [.i n]]) -> Xcb kQ k_Ws k_Lo k_Hi n Q) : PureOk Try.prog 24 Xbf [(false, [.row 3 Jb]), (false, [.int .i64])] pre res :=
 PureOk.of' (fun W => @TT W) (fun W => @Xc W) Xa T13 1000 50 fun W kQ k_Ws k_Lo k_Hi n hp =>
  (Xg2 W kQ k_Ws k_Lo k_Hi n (fun o => o = res [[.l kQ.xs, .l k_Ws.xs, .i k_Lo, .i k_Hi], [.i n]])).mpr (hyp_ W kQ k_Ws k_Lo k_Hi n hp _ rfl)
def Xca [W : InW] (kQ : Ro Ja) (k_Ws : Ro Jb) (k_Lo k_Hi : Int) (xs : Ro Jb) (Q : DS -> Prop) : Prop :=
 Vif (decide (Sp.chkE kQ.xs k_Ws.xs k_Lo k_Hi = 0)) (Pre (Sp.BkOk kQ.xs k_Ws.xs k_Lo k_Hi (Sp.wts kQ.xs (kQ.xs.length)) /\ Sp.StOk kQ.xs (0 : Int) (0 : Int) (Sp.v0 k_Ws.xs) /\ Sp.MemoOk kQ.xs k_Lo k_Hi []) (Sp.FaM (Sp.MemoOk kQ.xs k_Lo k_Hi) fun ys => Vif (!(Sp.fol kQ.xs k_Ws.xs k_Lo k_Hi xs.xs).2) (Q [[Cl.i 0], [Cl.i 6]]) (Q [[Cl.i (Sp.fol kQ.xs k_Ws.xs k_Lo k_Hi xs.xs).1], [Cl.i 0]]))) (Vif (!decide (Sp.chkE kQ.xs k_Ws.xs k_Lo k_Hi = 0)) (Q [[Cl.i 0], [Cl.i (Sp.chkE kQ.xs k_Ws.xs k_Lo k_Hi)]]) ((16 : Nat) = 16 + 1))
theorem Xg1 (W : InW) (kQ k_Ws k_Lo k_Hi xs Q) : Yw5 (cxT Try.prog TT T13 1000 50) 1000 26 [.agg [.rs _ kQ, .rs _ k_Ws, .si .i64 k_Lo, .si .i64 k_Hi], .rs _ xs] [] 0 (Y1i [(false, [.int .i64]), (false, [.int .i64])] Q) (fun _ _ _ _ => Stuck 421) = Xca kQ k_Ws k_Lo k_Hi xs Q := by kernel_rfl
abbrev Xbe : List AT := [.agg [.sl Ja, .sl Jb, .int .i64, .int .i64], .one (.sl Jb)]
theorem Xh1 {pre : DS -> Prop} {res : DS -> DS} (hyp_ : ∀ (W : InW) (kQ : Ro Ja) (k_Ws : Ro Jb) (k_Lo k_Hi : Int) (xs : Ro Jb), pre [[.l kQ.xs, .l k_Ws.xs, .i k_Lo, .i k_Hi], [.l xs.xs]] -> ∀ Q : DS -> Prop, Q (res [[.l kQ.xs, .l k_Ws.xs, .i k_Lo, .i k_Hi], [.l xs.xs]]) -> Xca kQ k_Ws k_Lo k_Hi xs Q) : PureOk Try.prog 26 Xbe [(false, [.int .i64]), (false, [.int .i64])] pre res :=
 PureOk.of' (fun W => @TT W) (fun W => @Xc W) Xa T13 1000 50 fun W kQ k_Ws k_Lo k_Hi xs hp =>
  (Xg1 W kQ k_Ws k_Lo k_Hi xs (fun o => o = res [[.l kQ.xs, .l k_Ws.xs, .i k_Lo, .i k_Hi], [.l xs.xs]])).mpr (hyp_ W kQ k_Ws k_Lo k_Hi xs hp _ rfl)
theorem Xio : PureOk Try.prog 18 Xbd [(false, [.row 3 Jb]), (false, [.int .i64])] (fun _ => True) Xbv :=
 Xh0 fun W qs ws lo hi hp Q h => by
  unfold Xb9;simp only [Xbv, Sp.wtsR] at h;refine vifd (fun e => ?_) (fun e => vifn (fun _ => ?_) (fun e2 => absurd e2 e))
  ·rw [if_pos e, e] at h; exact h
  ·rw [if_neg e] at h; exact h
theorem Xir : PureOk Try.prog 21 Xbg [(false, [.int .i64]), (false, [.int .i64])] (fun _ => True) Xb1 :=
 Xh3 fun W qs ws lo hi hp Q h => by
  unfold Xcc;delta Zbc Zk;simp only [Xb1, Sp.cntR] at h;refine vifd (fun e => ?_) (fun e => vifn (fun _ => ?_) (fun e2 => absurd e2 e))
  ·rw [if_pos e, e] at h;have bv := Sp.chkE_iff.1 e;have hn := bv.n2;exact ⟨⟨bv.bk, bv.st, Sp.memo_nil, by omega⟩, ⟨fun ys hy => h⟩⟩
  ·rw [if_neg e] at h; exact h
theorem Xiq : PureOk Try.prog 24 Xbf [(false, [.row 3 Jb]), (false, [.int .i64])] (fun _ => True) Xbz :=
 Xh2 fun W qs ws lo hi k hp Q h => by
  unfold Xcb;delta Zk Zbc;simp only [Xbz, Sp.nthR, Sp.nthE] at h;refine vifd (fun e => ?_) (fun e => vifn (fun _ => ?_) (fun e2 => absurd e2 e))
  ·have bv := Sp.chkE_iff.1 e;have hn := bv.n2;have b1 := Sp.cnt_16 (qs := qs.xs) (lo := lo) (hi := hi) (m := qs.xs.length) hn 0 (Sp.v0 ws.xs);simp only [if_pos e] at h;refine ⟨⟨bv.bk, bv.st, Sp.memo_nil, by omega⟩, ⟨fun ys hy => ?_⟩⟩
   show Ar IntKind.i64 (Sp.total qs.xs ws.xs lo hi - 1) _
   have b2 : 0 <= Sp.total qs.xs ws.xs lo hi /\ Sp.total qs.xs ws.xs lo hi <= 65536 := b1;refine ar64 (by omega) ⟨trivial, ?_⟩;rw [out1]
   by_cases hk : Sp.inr k 0 (Sp.total qs.xs ws.xs lo hi - 1) = true
   ·rw [if_pos hk, if_pos rfl] at h;have hk2 := Sp.inr_iff.1 hk;refine vif (fun h => by rw [hk] at h; exact absurd h (by decide)) (fun _ => ?_);exact ⟨⟨bv.bk, bv.st, hy, hk2.1, show k < Sp.total qs.xs ws.xs lo hi by omega⟩, ⟨fun zs hz => h⟩⟩
   ·rw [if_neg hk, if_neg (by decide)] at h;exact vif (fun _ => h) (fun h => absurd (by simpa using h) hk)
  ·simp only [if_neg e] at h; exact h
theorem Xip : PureOk Try.prog 26 Xbe [(false, [.int .i64]), (false, [.int .i64])] (fun _ => True) Xby :=
 Xh1 fun W qs ws lo hi xs hp Q h => by
  unfold Xca;simp only [Xby, Sp.numR, Sp.numE] at h;refine vifd (fun e => ?_) (fun e => vifn (fun _ => ?_) (fun e2 => absurd e2 e))
  ·have bv := Sp.chkE_iff.1 e;simp only [if_pos e] at h;refine ⟨⟨bv.bk, bv.st, Sp.memo_nil⟩, ⟨fun ys hy => ?_⟩⟩;cases hf : (Sp.fol qs.xs ws.xs lo hi xs.xs).2 with
   | true =>
    rw [hf, if_pos rfl, if_pos rfl] at h;exact vif (fun h => absurd h (by decide)) (fun _ => h)
   | false =>
    rw [hf, if_neg (by decide), if_neg (by decide)] at h;exact vif (fun _ => h) (fun h => absurd h (by decide))
  ·simp only [if_neg e] at h; exact h
noncomputable def Xha : PC Try.prog := ⟨18, Xbd, [(false, [.row 3 Jb]), (false, [.int .i64])], fun _ => True, Xbv, Xio⟩
noncomputable def Xem : PC Try.prog := ⟨21, Xbg, [(false, [.int .i64]), (false, [.int .i64])], fun _ => True, Xb1, Xir⟩
noncomputable def Xel : PC Try.prog := ⟨24, Xbf, [(false, [.row 3 Jb]), (false, [.int .i64])], fun _ => True, Xbz, Xiq⟩
noncomputable def Xek : PC Try.prog := ⟨26, Xbe, [(false, [.int .i64]), (false, [.int .i64])], fun _ => True, Xby, Xip⟩
namespace Sp
def eqA (a b : Dt) (i : Nat) : Bool := decide ((cel a i 0).int = (cel b i 0).int)
def eqI (a b : Dt) : Bool := decide (a.length = b.length) && allF (eqA a b) 0 a.length
def sumN (f : Nat -> Int) : Nat -> Nat -> Int
 | _, 0 => 0
 | i, n + 1 => f i + sumN f (i + 1) n
theorem sumN_bound {f : Nat -> Int} {b : Int} (h : ∀ i, 0 <= f i /\ f i <= b) : ∀ n i, 0 <= sumN f i n /\ sumN f i n <= b * n
 | 0, i => by simp [sumN]
 | n + 1, i => by
  have h1 := sumN_bound h n (i + 1);have h2 := h i;have e : b * ((n + 1 : Nat) : Int) = b * (n : Int) + b := by push_cast; rw [Int.mul_add, Int.mul_one]
  rw [sumN, e];omega
end Sp
abbrev X9 (ds : DS) : DS := match ds with | [[.l a], [.l b]] => [[.b (Sp.eqI a b)]] | _ => []
def X8 [InW] (e : List Ed) (K : Nat -> List Ed -> Prop) : Prop := match e with
 | [.ro _ a, .ro _ b, .i i] => Pre (0 <= i /\ i <= a.xs.length /\ a.xs.length = b.xs.length) (Vif (Sp.allF (Sp.eqA a.xs b.xs) i.toNat (a.xs.length - i.toNat)) (K 0 []) (K 1 []))
 | _ => False
noncomputable def Xbc : LC where
 len := 26
 T := [(0, .rs Jb), (1, .rs Jb), (5, .int .i64)]
 H := []
 W := ([4] ++ rg 11 15)
 outs := [⟨.exit 0, [], [], ([0, 1, 4, 5] ++ rg 11 15)⟩, ⟨.ret, [(4, (.lit (.bool false)))], [], ([0, 1, 5] ++ rg 11 15)⟩]
 spec := X8
def Xbn [W : InW] (a b : Ro Jb) (i : Int) (A : List Ed -> Prop) (K : Nat -> List Ed -> Prop) : Prop :=
 Vif (decide (i < (↑(a.xs.length) : Int))) (Need (decide (0 <= i) && decide (i < (↑(a.xs.length) : Int))) (Need (decide (i.toNat < a.xs.length)) (Need (decide (0 <= i) && decide (i < (↑(b.xs.length) : Int))) (Need (decide (i.toNat < b.xs.length)) (Vif (!decide ((cel a.xs i.toNat (0 : Nat)).int = (cel b.xs i.toNat (0 : Nat)).int)) (K (0+1) []) (Ar .i64 (i + 1) fun z => A [.ro _ a, .ro _ b, .i z])))))) (K 0 [])
theorem Xe9 (W : InW) (a b i A K) : Yff { cxT Try.prog TT T0 1000 50 with fn := 20 } 1000 (Yob Try.prog 20 5) (Yd6 26 [(0, .rs _ a), (1, .rs _ b), (5, .si .i64 i)] ([4] ++ rg 11 15)) [] (Yut Xbc A K) = Xbn a b i A K := by kernel_rfl
def Xbq : Prop := ∀ (W : InW) (body a : Code), (Try.prog.funcs[20]?).bind (·.body) = some body -> a ∈ Yy body -> Yf0 a = 5 -> @Yms W Try.prog a (@Ytz W Xbc)
theorem Xfp (meas : [InW] -> List Ed -> Nat) (hyp_ : ∀ (W : InW) a b i K, X8 [.ro _ a, .ro _ b, .i i] K -> ∀ A : List Ed -> Prop, (∀ e, meas e < meas [.ro _ a, .ro _ b, .i i] -> X8 e K -> A e) -> Xbn a b i A K) : Xbq :=
 LE.okOf' (fun W => @TT W) (fun W => @Xc W) Xa T0 1000 50 (by kernel_rfl) Xbc (fun W => @meas W) fun W a b i K hs =>
  (Xe9 W a b i (fun e => meas e < meas [.ro _ a, .ro _ b, .i i] /\ X8 e K) K).mpr (hyp_ W a b i K hs _ fun e h1 h2 => ⟨h1, h2⟩)
theorem Xh7 : Xbq := Xfp (fun e => match e with | [.ro _ a, _, .i i] => ((a.xs.length : Int) - i).toNat | _ => 0) fun W a b i K hs A hA => by
 obtain ⟨⟨h0, h1, h2⟩, hk⟩ := hs;have hm := a.len;simp only [maxLen] at hm;unfold Xbn;simp only [Nat.zero_add, Nat.reduceAdd]
 by_cases hi : i < a.xs.length
 ·rw [show a.xs.length - i.toNat = (a.xs.length - (i + 1).toNat) + 1 by omega] at hk;simp only [Sp.allF, show i.toNat + 1 = (i + 1).toNat by omega] at hk;refine vifd (fun _ => ?_) (fun h => absurd hi h);refine ned (by simp; omega) (nedd (by omega) (ned (by simp; omega) (nedd (by omega) (vifn (fun e => ?_) (fun e => ?_)))))
  ·exact hk.2 (by rw [show Sp.eqA a.xs b.xs i.toNat = false from decide_eq_false e]; rfl)
  ·rw [show Sp.eqA a.xs b.xs i.toNat = true from decide_eq_true e, Bool.true_and] at hk;exact ar64 (by omega) (hA _ (by show ((a.xs.length : Int) - (i + 1)).toNat < ((a.xs.length : Int) - i).toNat; omega) ⟨⟨by omega, by omega, h2⟩, hk⟩)
 ·refine vifd (fun h => absurd h hi) (fun _ => ?_);rw [show a.xs.length - i.toNat = 0 by omega] at hk;exact hk.1 rfl
noncomputable def Xh9 : LE Try.prog := ⟨20, 5, fun W => @Ytz W Xbc, Xh7⟩
noncomputable def T14 : Tab Try.prog := ⟨[], [Xh9], []⟩
def Xcf [W : InW] (a b : Ro Jb) (Q : DS -> Prop) : Prop :=
 Vif (!decide ((↑(a.xs.length) : Int) = (↑(b.xs.length) : Int))) (Q [[Cl.b false]]) (Pre (Zk <= 0 /\ Zk <= (↑(a.xs.length) : Int) /\ a.xs.length = b.xs.length) (Vif (Sp.allF (Sp.eqA a.xs b.xs) (Int.toNat Zk) (a.xs.length - Int.toNat Zk)) (Q [[Cl.b true]]) (Q [[Cl.b false]])))
theorem Xg6 (W : InW) (a b Q) : Yw5 (cxT Try.prog TT T14 1000 50) 1000 20 [.rs _ a, .rs _ b] [] 0 (Y1i [(false, [.bool])] Q) (fun _ _ _ _ => Stuck 421) = Xcf a b Q := by kernel_rfl
abbrev Xbj : List AT := [.one (.sl Jb), .one (.sl Jb)]
theorem Xh6 {pre : DS -> Prop} {res : DS -> DS} (hyp_ : ∀ (W : InW) (a b : Ro Jb), pre [[.l a.xs], [.l b.xs]] -> ∀ Q : DS -> Prop, Q (res [[.l a.xs], [.l b.xs]]) -> Xcf a b Q) : PureOk Try.prog 20 Xbj [(false, [.bool])] pre res :=
 PureOk.of' (fun W => @TT W) (fun W => @Xc W) Xa T14 1000 50 fun W a b hp =>
  (Xg6 W a b (fun o => o = res [[.l a.xs], [.l b.xs]])).mpr (hyp_ W a b hp _ rfl)
theorem Xiz : PureOk Try.prog 20 Xbj [(false, [.bool])] (fun _ => True) X9 :=
 Xh6 fun W a b hp Q h => by
  unfold Xcf;delta Zk;simp only [X9, Sp.eqI] at h;refine vifn (fun e => ?_) (fun e => ⟨⟨by omega, by omega, by omega⟩, ?_⟩)
  ·rw [decide_eq_false (fun h => e (by omega)), Bool.false_and] at h;exact h
  ·rw [decide_eq_true (by omega), Bool.true_and] at h;rw [show Int.toNat 0 = 0 from rfl, Nat.sub_zero];refine vif (fun f => ?_) (fun f => ?_)
   ·rw [f] at h; exact h
   ·rw [f] at h; exact h
noncomputable def Xb4 : PC Try.prog := ⟨20, Xbj, [(false, [.bool])], fun _ => True, X9, Xiz⟩
abbrev Xb3 (ds : DS) : Prop := match ds with | [[.i p, .i a, .i w]] => 0 <= a /\ a <= 100000 /\ 0 <= w /\ w <= a | _ => False
abbrev Xbw (ds : DS) : DS := match ds with | [[.i p, .i a, .i w]] => [[.i (Sp.wt [[.i p, .i a, .i w]] 0)]] | _ => []
def Xe1 [W : InW] (q_Part q_Asked q_Wrong : Int) (Q : DS -> Prop) : Prop :=
 Vif (decide (q_Asked = 0)) (Q [[Cl.i 500]]) (Ar .i64 (q_Wrong * 1000) fun z => Need (!decide (q_Asked = 0)) (Ar .i64 (z.tdiv q_Asked) fun z => Q [[Cl.i z]]))
theorem Xii (W : InW) (q_Part q_Asked q_Wrong Q) : Yw5 (cxT Try.prog TT T0 1000 50) 1000 39 [.agg [.si .i64 q_Part, .si .i64 q_Asked, .si .i64 q_Wrong]] [] 0 (Y1i [(false, [.int .i64])] Q) (fun _ _ _ _ => Stuck 421) = Xe1 q_Part q_Asked q_Wrong Q := by kernel_rfl
abbrev Xb6 : List AT := [.agg [.int .i64, .int .i64, .int .i64]]
theorem Xi0 {pre : DS -> Prop} {res : DS -> DS} (hyp_ : ∀ (W : InW) (q_Part q_Asked q_Wrong : Int), pre [[.i q_Part, .i q_Asked, .i q_Wrong]] -> ∀ Q : DS -> Prop, Q (res [[.i q_Part, .i q_Asked, .i q_Wrong]]) -> Xe1 q_Part q_Asked q_Wrong Q) : PureOk Try.prog 39 Xb6 [(false, [.int .i64])] pre res :=
 PureOk.of' (fun W => @TT W) (fun W => @Xc W) Xa T0 1000 50 fun W q_Part q_Asked q_Wrong hp =>
  (Xii W q_Part q_Asked q_Wrong (fun o => o = res [[.i q_Part, .i q_Asked, .i q_Wrong]])).mpr (hyp_ W q_Part q_Asked q_Wrong hp _ rfl)
theorem okwgt : PureOk Try.prog 39 Xb6 [(false, [.int .i64])] Xb3 Xbw :=
 Xi0 fun W p a w hp Q h => by
  unfold Xe1;have e : Sp.wt [[.i p, .i a, .i w]] 0 = if a = 0 then 500 else (w * 1000).tdiv a := by simp [Sp.wt, Sp.qAsk, Sp.qBad, cel, Cl.int]
  simp only [Xbw] at h;rw [e] at h;simp only [Xb3] at hp;refine vifd (fun h0 => ?_) (fun h0 => ?_)
  ·rw [if_pos h0] at h; exact h
  ·rw [if_neg h0] at h;have hb : 0 <= (w * 1000).tdiv a /\ (w * 1000).tdiv a <= 1000 := by
    rw [Int.tdiv_eq_ediv_of_nonneg (by omega)];exact ⟨Int.ediv_nonneg (by omega) (by omega), Int.ediv_le_of_le_mul (by omega) (by omega)⟩
   exact ar64 (by omega) (ned (by simp; omega) (ar64 (by omega) h))
noncomputable def Xil : PC Try.prog := ⟨39, Xb6, [(false, [.int .i64])], Xb3, Xbw, okwgt⟩
namespace Sp
def lvf (qs xs : Dt) (i : Nat) : Int := wt qs (cel xs i 0).int.toNat
def lvl (qs xs : Dt) : Int := sumN (lvf qs xs) 0 xs.length
structure In (qs xs : Dt) : Prop where
 few : xs.length <= 16
 rng : ∀ i, i < xs.length -> 0 <= (cel xs i 0).int /\ (cel xs i 0).int < qs.length
def wan (ws : Dt) : Int := sumN (fun p => (cel ws p 0).int) 0 ws.length
end Sp
namespace Sp
def px (qs xs : Dt) : Dt := xs.map fun r => [.i (qPart qs (r.getD 0 .z).int.toNat)]
theorem cel_px {qs xs : Dt} {i : Nat} (h : i < xs.length) : (cel (px qs xs) i 0).int = qPart qs (cel xs i 0).int.toNat := by
 simp [cel, px, h, Cl.int, List.getD_eq_getElem?_getD]
theorem length_px (qs xs : Dt) : (px qs xs).length = xs.length := by simp [px]
end Sp
namespace Sp
def isF (qs xs : Dt) (i : Nat) : Bool := inr (cel xs i 0).int 0 ((qs.length : Int) - 1) && (decide (i = 0) || decide ((cel xs (i - 1) 0).int < (cel xs i 0).int))
def isM (qs ws xs : Dt) (p : Nat) : Bool := decide (many (px qs xs) p xs.length = (cel ws p 0).int)
def isP (qs ws : Dt) (lo hi : Int) (xs : Dt) : Bool := allF (isF qs xs) 0 xs.length && (allF (isM qs ws xs) 0 ws.length && inr (lvl qs xs) lo hi)
theorem isF_up {qs xs : Dt} {n : Nat} (h : ∀ k, k < n -> isF qs xs k = true) : ∀ k, k < n -> (k : Int) <= (cel xs k 0).int /\ (cel xs k 0).int < qs.length
 | 0, hk => by
  have := h 0 hk;simp only [isF, Bool.and_eq_true, inr_iff] at this;omega
 | k + 1, hk => by
  have h1 := isF_up h k (by omega);have h2 := h (k + 1) hk;simp only [isF, Bool.and_eq_true, inr_iff, Bool.or_eq_true, decide_eq_true_eq, Nat.add_sub_cancel] at h2;have h3 := h2.2.resolve_left (by omega);omega
theorem isF_in {qs xs : Dt} (h16 : qs.length <= 16) (h : allF (isF qs xs) 0 xs.length = true) : In qs xs := by
 have h2 := fun k hk => allF_iff.1 h k (Nat.zero_le _) (by omega : k < 0 + xs.length);have h3 := isF_up h2;refine ⟨?_, fun i hi => ⟨by have := (h3 i (by omega)).1; omega, (h3 i (by omega)).2⟩⟩
 by_cases hz : xs.length = 0
 ·omega
 ·have := h3 (xs.length - 1) (by omega);omega
end Sp
namespace Sp
def fstQ (xs : Dt) : Int := if xs.length = 0 then 0 else (cel xs (xs.length - 1) 0).int + 1
def vOf (qs ws xs : Dt) : V4 := ⟨(cel ws 0 0).int - many (px qs xs) 0 xs.length, (cel ws 1 0).int - many (px qs xs) 1 xs.length, (cel ws 2 0).int - many (px qs xs) 2 xs.length, (cel ws 3 0).int - many (px qs xs) 3 xs.length⟩
structure PreOk (qs ws xs : Dt) : Prop where
 up : allF (isF qs xs) 0 xs.length = true
 cap : ∀ p : Nat, many (px qs xs) p xs.length <= (cel ws p 0).int
theorem cel_snoc {xs : Dt} {r : List Cl} {i k : Nat} (h : i < xs.length) : cel (xs ++ [r]) i k = cel xs i k := by
 unfold cel;rw [List.getD_eq_getElem?_getD (l := xs ++ [r]), List.getElem?_append_left h, <- List.getD_eq_getElem?_getD]
theorem cel_last {xs : Dt} {r : List Cl} {k : Nat} : cel (xs ++ [r]) xs.length k = r.getD k .z := by
 unfold cel;rw [List.getD_eq_getElem?_getD (l := xs ++ [r]), List.getElem?_append_right (Nat.le_refl _)];simp
theorem many_snoc {l : Dt} {r : List Cl} {p : Int} : ∀ {n : Nat}, n <= l.length -> many (l ++ [r]) p n = many l p n
 | 0, _ => rfl
 | n + 1, h => by rw [many_succ, many_succ, many_snoc (by omega), cel_snoc (by omega)]
theorem px_snoc (qs xs : Dt) (i : Int) : px qs (xs ++ [[Cl.i i]]) = px qs xs ++ [[Cl.i (qPart qs i.toNat)]] := by simp [px, Cl.int]
theorem many_px_snoc (qs xs : Dt) (i p : Int) : many (px qs (xs ++ [[Cl.i i]])) p (xs ++ [[Cl.i i]]).length = many (px qs xs) p xs.length + (if qPart qs i.toNat = p then 1 else 0) := by
 rw [px_snoc, List.length_append]
 show many _ p (xs.length + 1) = _
 rw [many_succ, many_snoc (by rw [length_px]; exact Nat.le_refl _)];have : cel (px qs xs ++ [[Cl.i (qPart qs i.toNat)]]) xs.length 0 = .i (qPart qs i.toNat) := by
  rw [<- length_px qs xs, cel_last]; rfl
 rw [this];rfl
theorem vOf_snoc {qs ws xs : Dt} {i : Int} (h0 : 0 <= qPart qs i.toNat) (h3 : qPart qs i.toNat <= 3) : vOf qs ws (xs ++ [[Cl.i i]]) = V4.dec (vOf qs ws xs) (qPart qs i.toNat) := by
 unfold vOf;simp only [many_px_snoc];unfold V4.dec;generalize qPart qs i.toNat = p at *;have hp : p = 0 \/ p = 1 \/ p = 2 \/ p = 3 := by omega
 rcases hp with rfl | rfl | rfl | rfl <;> simp <;> omega
theorem sumN_ext {f g : Nat -> Int} : ∀ {n i : Nat}, (∀ k, i <= k -> k < i + n -> f k = g k) -> sumN f i n = sumN g i n
 | 0, i, _ => rfl
 | n + 1, i, h => by rw [sumN, sumN, h i (by omega) (by omega), sumN_ext fun k a b => h k (by omega) (by omega)]
theorem sumN_last {f : Nat -> Int} : ∀ {n i : Nat}, sumN f i (n + 1) = sumN f i n + f (i + n)
 | 0, i => by simp [sumN]
 | n + 1, i => by rw [sumN, sumN_last, sumN, show i + 1 + n = i + (n + 1) by omega]; omega
theorem lvl_snoc (qs xs : Dt) (i : Int) : lvl qs (xs ++ [[Cl.i i]]) = lvl qs xs + wt qs i.toNat := by
 have e1 : (xs ++ [[Cl.i i]]).length = xs.length + 1 := by simp
 have e2 : sumN (lvf qs (xs ++ [[Cl.i i]])) 0 xs.length = sumN (lvf qs xs) 0 xs.length := sumN_ext fun k a b => by
  unfold lvf;rw [cel_snoc (by omega)]
 have e3 : lvf qs (xs ++ [[Cl.i i]]) (0 + xs.length) = wt qs i.toNat := by
  unfold lvf;rw [Nat.zero_add, cel_last];rfl
 unfold lvl;rw [e1, sumN_last, e2, e3]
theorem V4.get_vOf {qs ws xs : Dt} {p : Int} (h0 : 0 <= p) (h3 : p <= 3) : V4.get (vOf qs ws xs) p = (cel ws p.toNat 0).int - many (px qs xs) p xs.length := by
 have hp : p = 0 \/ p = 1 \/ p = 2 \/ p = 3 := by omega
 rcases hp with rfl | rfl | rfl | rfl <;> rfl
theorem sum_many {l : Dt} {np : Nat} : ∀ {n : Nat}, (∀ k, k < n -> 0 <= (cel l k 0).int /\ (cel l k 0).int < np) -> sumN (fun p => many l p n) 0 np = n
 | 0, _ => by
  have : ∀ m i, sumN (fun p => many l p 0) i m = 0 := fun m => by
   induction m with
   | zero => intro i; rfl
   | succ m ih => intro i; rw [sumN, ih]; rfl
  rw [this]; rfl
 | n + 1, h => by
  have h1 := sum_many (n := n) fun k hk => h k (by omega);obtain ⟨q0, q1⟩ := h n (by omega);have h2 : ∀ m i, sumN (fun p => many l p (n + 1)) i m = sumN (fun p => many l p n) i m + (if (i : Int) <= (cel l n 0).int /\ (cel l n 0).int < i + m then 1 else 0) := fun m => by
   induction m with
   | zero => intro i; simp only [sumN]; rw [if_neg (by omega)]; rfl
   | succ m ih =>
    intro i;rw [sumN, sumN, ih, many_succ]
    by_cases e : (cel l n 0).int = i
    ·rw [if_pos e, if_neg (by omega), if_pos (by omega)]; omega
    ·rw [if_neg e]
     by_cases e2 : ((i + 1 : Nat) : Int) <= (cel l n 0).int /\ (cel l n 0).int < ((i + 1 : Nat) : Int) + m
     ·rw [if_pos e2, if_pos (by omega)]; omega
     ·rw [if_neg e2, if_neg (by omega)]; omega
  rw [h2, h1, if_pos (by omega)]
  push_cast; rfl
theorem sumN_le {f g : Nat -> Int} : ∀ {n i : Nat}, (∀ k, i <= k -> k < i + n -> f k <= g k) -> sumN f i n <= sumN g i n /\ (sumN f i n = sumN g i n -> ∀ k, i <= k -> k < i + n -> f k = g k)
 | 0, i, _ => ⟨by simp [sumN], fun _ k a b => by omega⟩
 | n + 1, i, h => by
  have h1 := sumN_le (n := n) (i := i + 1) fun k a b => h k (by omega) (by omega);have h2 := h i (by omega) (by omega);rw [sumN, sumN];refine ⟨by omega, fun e k a b => ?_⟩
  by_cases hk : k = i
  ·subst hk; omega
  ·exact h1.2 (by omega) k (by omega) (by omega)
theorem PreOk.isf {qs ws xs : Dt} (h : PreOk qs ws xs) : ∀ k, k < xs.length -> isF qs xs k = true := fun k hk => allF_iff.1 h.up k (Nat.zero_le _) (by omega)
theorem PreOk.px {qs ws xs : Dt} {lo hi : Int} (bv : BankV qs ws lo hi) (h : PreOk qs ws xs) : ∀ k, k < xs.length -> 0 <= (cel (Sp.px qs xs) k 0).int /\ (cel (Sp.px qs xs) k 0).int < ws.length := fun k hk => by
 have h1 := isF_up h.isf k hk;have h2 := bv.part (cel xs k 0).int.toNat (by omega);rw [cel_px hk];omega
theorem cel_out {ws : Dt} {p : Nat} (h : ws.length <= p) : (cel ws p 0).int = 0 := by
 rw [show cel ws p 0 = .z by simp [cel, List.getD_eq_getElem?_getD, List.getElem?_eq_none h]]; rfl
theorem vOf_eq (qs ws xs : Dt) : (vOf qs ws xs).a = (cel ws 0 0).int - many (px qs xs) ((0 : Nat) : Int) xs.length /\ (vOf qs ws xs).b = (cel ws 1 0).int - many (px qs xs) ((1 : Nat) : Int) xs.length /\ (vOf qs ws xs).c = (cel ws 2 0).int - many (px qs xs) ((2 : Nat) : Int) xs.length /\ (vOf qs ws xs).d = (cel ws 3 0).int - many (px qs xs) ((3 : Nat) : Int) xs.length := ⟨rfl, rfl, rfl, rfl⟩
theorem nil_iff {qs ws xs : Dt} {lo hi : Int} (bv : BankV qs ws lo hi) (h : PreOk qs ws xs) : V4.nil (vOf qs ws xs) = true ↔ (xs.length : Int) = wan ws := by
 have hs := sum_many (h.px bv);have hw := bv.w2;have hc := sumN_le (f := fun p => many (Sp.px qs xs) p xs.length) (g := fun p => (cel ws p 0).int) (n := ws.length) (i := 0) fun k _ _ => h.cap k;have e4 : V4.nil (vOf qs ws xs) = true ↔ ∀ p : Nat, p < 4 -> many (Sp.px qs xs) p xs.length = (cel ws p 0).int := by
  obtain ⟨a0, a1, a2, a3⟩ := vOf_eq qs ws xs;simp only [V4.nil, Bool.and_eq_true, decide_eq_true_eq];constructor
  ·rintro ⟨⟨⟨h0, h1⟩, h2⟩, h3⟩ p hp;have hp4 : p = 0 \/ p = 1 \/ p = 2 \/ p = 3 := by omega
   rcases hp4 with rfl | rfl | rfl | rfl <;> omega
  ·intro hp;have h0 := hp 0 (by omega);have h1 := hp 1 (by omega);have h2 := hp 2 (by omega);have h3 := hp 3 (by omega);omega
 rw [e4];unfold wan;constructor
 ·intro hp;rw [<- hs];exact sumN_ext fun k a b => hp k (by omega)
 ·intro he p hp
  by_cases hpn : p < ws.length
  ·exact hc.2 (by rw [hs]; exact he) p (Nat.zero_le _) (by omega)
  ·have h1 := h.cap p;rw [cel_out (by omega)] at h1 ⊢;have := many_bound (Sp.px qs xs) p xs.length;omega
theorem fst_bound {qs ws xs : Dt} (h : PreOk qs ws xs) : (xs.length : Int) <= fstQ xs /\ fstQ xs <= qs.length := by
 unfold fstQ
 split
 ·omega
 ·have := isF_up h.isf (xs.length - 1) (by omega);omega
theorem PreOk.st {qs ws xs : Dt} {lo hi : Int} (bv : BankV qs ws lo hi) (h : PreOk qs ws xs) : StOk qs (fstQ xs) (lvl qs xs) (vOf qs ws xs) := by
 obtain ⟨f0, f1⟩ := fst_bound h;have hl : ∀ i, 0 <= lvf qs xs i /\ lvf qs xs i <= 1000 := fun i => by
  unfold lvf
  by_cases hi : i < xs.length
  ·have := isF_up h.isf i hi;exact bv.wt (by omega)
  ·rw [cel_out (by omega)];exact bv.wt bv.n1
 have hb := sumN_bound hl xs.length 0;have hw := bv.w16;have hc := h.cap;have hm := fun p => many_bound (Sp.px qs xs) p xs.length;obtain ⟨a0, a1, a2, a3⟩ := vOf_eq qs ws xs;refine ⟨by omega, f1, hb.1, by unfold lvl; omega, ⟨?_, ?_, ?_, ?_⟩⟩
 ·have := hw 0; have := hc 0; have := hm ((0 : Nat) : Int); rw [a0]; omega
 ·have := hw 1; have := hc 1; have := hm ((1 : Nat) : Int); rw [a1]; omega
 ·have := hw 2; have := hc 2; have := hm ((2 : Nat) : Int); rw [a2]; omega
 ·have := hw 3; have := hc 3; have := hm ((3 : Nat) : Int); rw [a3]; omega
theorem isF_snoc {qs xs : Dt} {i : Int} {k : Nat} (h : k < xs.length) : isF qs (xs ++ [[Cl.i i]]) k = isF qs xs k := by
 unfold isF;rw [cel_snoc h, cel_snoc (show k - 1 < xs.length by omega)]
theorem PreOk.snoc {qs ws xs : Dt} (h : PreOk qs ws xs) {i : Int} (h0 : fstQ xs <= i) (h1 : i < qs.length) (p0 : 0 <= qPart qs i.toNat) (p3 : qPart qs i.toNat <= 3) (hg : 1 <= V4.get (vOf qs ws xs) (qPart qs i.toNat)) : PreOk qs ws (xs ++ [[Cl.i i]]) := by
 have hb := fst_bound h;rw [V4.get_vOf p0 p3] at hg;refine ⟨allF_iff.2 fun k _ hk => ?_, fun p => ?_⟩
 ·rw [List.length_append] at hk
  by_cases hk2 : k < xs.length
  ·rw [isF_snoc hk2]; exact h.isf k hk2
  ·have e : k = xs.length := by simp at hk; omega
   subst e;unfold isF;rw [cel_last];simp only [Bool.and_eq_true, inr_iff, Bool.or_eq_true, decide_eq_true_eq];refine ⟨by simp [Cl.int]; omega, ?_⟩
   by_cases hz : xs.length = 0
   ·exact .inl hz
   ·refine .inr ?_;rw [cel_snoc (by omega)];unfold fstQ at h0;rw [if_neg hz] at h0
    show _ < i
    omega
 ·have hc := h.cap p;rw [many_px_snoc]
  split
  ·rename_i e;rw [e, Int.toNat_natCast] at hg;omega
  ·omega
theorem many_mono {l : Dt} {p : Int} {n : Nat} : ∀ (d : Nat), many l p n <= many l p (n + d)
 | 0 => by simp
 | d + 1 => by
  have := many_mono (l := l) (p := p) (n := n) d;rw [<- Nat.add_assoc, many_succ]
  split <;> omega
end Sp
namespace Sp
theorem fst_snoc (xs : Dt) (i : Int) : fstQ (xs ++ [[Cl.i i]]) = i + 1 := by
 unfold fstQ;rw [if_neg (by simp), show (xs ++ [[Cl.i i]]).length - 1 = xs.length by simp, cel_last];rfl
theorem gen_at {qs : Dt} {lo hi s : Int} {v : V4} (h : V4.nil v = false) {i : Int} (h0 : 0 <= i) (h1 : i < qs.length) :
  gen qs lo hi (qs.length - i.toNat) s v = (if 1 <= V4.get v (qPart qs i.toNat) then (gen qs lo hi (qs.length - (i + 1).toNat) (s + wt qs i.toNat) (V4.dec v (qPart qs i.toNat))).map ([Cl.i i] :: ·) else []) ++ gen qs lo hi (qs.length - (i + 1).toNat) s v := by
 rw [show qs.length - i.toNat = (qs.length - (i + 1).toNat) + 1 by omega, gen_succ h (i := i.toNat) (by omega), Int.toNat_of_nonneg h0]
end Sp
theorem Sp.isP_full {qs ws xs : Dt} {lo hi : Int} (bv : Sp.BankV qs ws lo hi) (h : Sp.PreOk qs ws xs) (he : (xs.length : Int) = Sp.wan ws) : Sp.isP qs ws lo hi xs = Sp.inr (Sp.lvl qs xs) lo hi := by
 have hc := Sp.sumN_le (f := fun p => Sp.many (Sp.px qs xs) p xs.length) (g := fun p => (cel ws p 0).int) (n := ws.length) (i := 0) fun k _ _ => h.cap k;have h2 : Sp.allF (Sp.isM qs ws xs) 0 ws.length = true := Sp.allF_iff.2 fun k a b => decide_eq_true (hc.2 (by rw [Sp.sum_many (h.px bv)]; exact he) k a b);unfold Sp.isP;rw [h.up, h2, Bool.true_and, Bool.true_and]
namespace Sp
def paps (qs ws : Dt) (lo hi : Int) : List Dt := gen qs lo hi qs.length 0 (v0 ws)
def papD (qs ws : Dt) (lo hi : Int) : Dt := (paps qs ws lo hi).map fun p => [.l p]
theorem PreOk_nil {qs ws : Dt} {lo hi : Int} (bv : BankV qs ws lo hi) : PreOk qs ws [] := ⟨rfl, fun p => (bv.w16 p).1⟩
end Sp
namespace Sp
theorem length_papD (qs ws : Dt) (lo hi : Int) : ((papD qs ws lo hi).length : Int) = total qs ws lo hi := by simp [papD, paps, total, cnt]
end Sp
namespace Sp
theorem cel_papD {qs ws : Dt} {lo hi : Int} {k : Nat} (h : k < (papD qs ws lo hi).length) : (cel (papD qs ws lo hi) k 0).lst = (paps qs ws lo hi).getD k [] := by
 have h2 : k < (paps qs ws lo hi).length := by simpa [papD] using h
 simp [cel, papD, h2, List.getD_eq_getElem?_getD, Cl.lst]
end Sp
namespace Sp
def norm (xs : Dt) : Dt := xs.map fun r => [.i (r.getD 0 .z).int]
theorem length_norm (xs : Dt) : (norm xs).length = xs.length := by simp [norm]
theorem cel_norm (xs : Dt) (k : Nat) : (cel (norm xs) k 0).int = (cel xs k 0).int := by
 by_cases h : k < xs.length
 ·simp [cel, norm, h, Cl.int, List.getD_eq_getElem?_getD]
 ·rw [cel_out (by rw [length_norm]; omega), cel_out (by omega)]
theorem norm_norm (xs : Dt) : norm (norm xs) = norm xs := by simp [norm, Cl.int]
theorem px_norm (qs xs : Dt) : px qs (norm xs) = px qs xs := by simp [px, norm, Cl.int]
theorem isP_norm (qs ws : Dt) (lo hi : Int) (xs : Dt) : isP qs ws lo hi (norm xs) = isP qs ws lo hi xs := by
 have e1 : isF qs (norm xs) = isF qs xs := by funext i; unfold isF; simp only [cel_norm]
 have e2 : isM qs ws (norm xs) = isM qs ws xs := by funext i; unfold isM; rw [px_norm, length_norm]
 have e3 : lvf qs (norm xs) = lvf qs xs := by funext i; unfold lvf; simp only [cel_norm]
 unfold isP lvl;rw [e1, e2, e3, length_norm]
theorem folS_norm (qs : Dt) (lo hi : Int) : ∀ (xs : Dt) (r : FolR), folS qs lo hi (norm xs) r = folS qs lo hi xs r
 | [], r => rfl
 | x :: xs, r => by
  show folS qs lo hi ([Cl.i (x.getD 0 .z).int] :: norm xs) r = _
  rw [folS, folS, folS_norm qs lo hi xs];rfl
theorem eqI_iff {a b : Dt} : eqI a b = true ↔ norm a = norm b := by
 unfold eqI;simp only [Bool.and_eq_true, decide_eq_true_eq, allF_iff, eqA];constructor
 ·rintro ⟨hl, h⟩;refine List.ext_getElem (by rw [length_norm, length_norm, hl]) fun k h1 h2 => ?_;rw [length_norm] at h1 h2;have := h k (by omega) (by omega);simp [cel, List.getD_eq_getElem?_getD, h1, h2] at this;simp [norm, List.getD_eq_getElem?_getD, this]
 ·intro h;have hl : a.length = b.length := by rw [<- length_norm, h, length_norm]
  refine ⟨hl, fun k _ hk => ?_⟩;rw [<- cel_norm a, <- cel_norm b, h]
theorem gen_norm (qs : Dt) (lo hi : Int) : ∀ m s v p, p ∈ gen qs lo hi m s v -> norm p = p
 | 0, s, v, p, h => by
  rw [gen] at h
  split at h
  ·simp only [List.mem_singleton] at h; subst h; rfl
  ·cases h
 | m + 1, s, v, p, h => by
  cases hv : V4.nil v with
  | true =>
   rw [gen_nil hv] at h
   split at h
   ·simp only [List.mem_singleton] at h; subst h; rfl
   ·cases h
  | false =>
   rw [gen, if_neg (by simp [hv]), List.mem_append] at h;rcases h with h | h
   ·split at h
    ·simp only [List.mem_map] at h;obtain ⟨a, ha, rfl⟩ := h
     show [Cl.i _] :: norm a = _
     rw [gen_norm qs lo hi m _ _ a ha];rfl
    ·cases h
   ·exact gen_norm qs lo hi m s v p h
def lat : Dt -> Dt -> Bool
 | x :: xs, y :: ys => if (x.getD 0 .z).int = (y.getD 0 .z).int then lat xs ys else decide ((x.getD 0 .z).int < (y.getD 0 .z).int)
 | _, _ => false
theorem lat_irr : ∀ xs, lat xs xs = false
 | [] => rfl
 | x :: xs => by simp [lat, lat_irr xs]
theorem gen_head (qs : Dt) (lo hi : Int) : ∀ m s v p, V4.nil v = false -> m <= qs.length -> p ∈ gen qs lo hi m s v -> ∃ (i : Nat) (q : Dt), p = [Cl.i (i : Int)] :: q /\ qs.length <= i + m
 | 0, s, v, p, hv, hm, h => by rw [gen_zero hv] at h; cases h
 | m + 1, s, v, p, hv, hm, h => by
  rw [gen, if_neg (by simp [hv]), List.mem_append] at h;rcases h with h | h
  ·split at h
   ·simp only [List.mem_map] at h;obtain ⟨a, ha, rfl⟩ := h;exact ⟨_, a, rfl, by omega⟩
   ·cases h
  ·obtain ⟨i, q, e, hi'⟩ := gen_head qs lo hi m s v p hv (by omega) h;exact ⟨i, q, e, by omega⟩
theorem gen_lat (qs : Dt) (lo hi : Int) : ∀ m s v, m <= qs.length -> List.Pairwise (fun a b => lat a b = true) (gen qs lo hi m s v)
 | 0, s, v, hm => by
  rw [gen]; split
  ·exact List.pairwise_singleton _ _
  ·exact List.Pairwise.nil
 | m + 1, s, v, hm => by
  cases hv : V4.nil v with
  | true =>
   rw [gen_nil hv]; split
   ·exact List.pairwise_singleton _ _
   ·exact List.Pairwise.nil
  | false =>
   rw [gen, if_neg (by simp [hv]), List.pairwise_append];refine ⟨?_, gen_lat qs lo hi m s v (by omega), ?_⟩
   ·split
    ·rw [List.pairwise_map];refine (gen_lat qs lo hi m _ _ (by omega)).imp fun {a b} h => ?_;simpa [lat] using h
    ·exact List.Pairwise.nil
   ·intro a ha b hb
    split at ha
    ·simp only [List.mem_map] at ha;obtain ⟨a, ha, rfl⟩ := ha;obtain ⟨i, q, rfl, hi'⟩ := gen_head qs lo hi m s v b hv (by omega) hb;simp only [lat, List.getD_cons_zero, Cl.int];rw [if_neg (by omega)];exact decide_eq_true (by omega)
    ·cases ha
theorem gen_cut {qs : Dt} {lo hi s : Int} {v : V4} (hv : V4.nil v = false) : ∀ (d : Nat) (t : Int), 0 <= t -> t + d <= qs.length -> ∃ A : List Dt, gen qs lo hi (qs.length - t.toNat) s v = A ++ gen qs lo hi (qs.length - (t + d).toNat) s v
 | 0, t, h0, h1 => ⟨[], by simp⟩
 | d + 1, t, h0, h1 => by
  obtain ⟨A, hA⟩ := gen_cut (qs := qs) (lo := lo) (hi := hi) (s := s) hv d (t + 1) (by omega) (by omega);rw [gen_at (qs := qs) (lo := lo) (hi := hi) (s := s) hv h0 (show t < qs.length by omega), hA, show t + 1 + (d : Int) = t + ((d + 1 : Nat) : Int) by omega, <- List.append_assoc];exact ⟨_, rfl⟩
theorem nil_get {v : V4} {p : Int} (h : 1 <= V4.get v p) : V4.nil v = false := by
 rw [<- Bool.not_eq_true]; intro h2;rw [V4.get_nil h2] at h; omega
theorem folS_ix {qs : Dt} {lo hi : Int} : ∀ (zs : Dt) (n t s : Int) (v : V4) (r : FolR), norm zs = zs -> 0 <= t -> t <= qs.length -> folS qs lo hi zs ⟨n, t, s, v⟩ = some r -> V4.nil r.v = true -> inr r.s lo hi = true ->
  ∃ k : Nat, r.n = n + k /\ (gen qs lo hi (qs.length - t.toNat) s v)[k]? = some zs
 | [], n, t, s, v, r, hn, h0, h1, hf, hz, hs => by
  simp only [folS, Option.some.injEq] at hf;subst hf;exact ⟨0, by simp, by rw [gen_nil hz, if_pos hs]; rfl⟩
 | z :: zs, n, t, s, v, r, hn, h0, h1, hf, hz, hs => by
  have hn2 : [Cl.i (z.getD 0 .z).int] = z /\ norm zs = zs := by simpa [norm] using hn
  obtain ⟨e1, hn2⟩ := hn2;simp only [folS] at hf
  split at hf
  ·rename_i hc;obtain ⟨hc, hg⟩ := hc;generalize (z.getD 0 .z).int = x at *;subst e1;rw [inr_iff] at hc;obtain ⟨k, hk, hk2⟩ := folS_ix zs _ (x + 1) _ _ r hn2 (by omega) (by omega) hf hz hs;have hv := nil_get hg;obtain ⟨A, hA⟩ := gen_cut (qs := qs) (lo := lo) (hi := hi) (s := s) hv (x - t).toNat t h0 (by omega);rw [show t + ((x - t).toNat : Int) = x by omega] at hA;have hl : (A.length : Int) = cnt qs lo hi (qs.length - t.toNat) s v - cnt qs lo hi (qs.length - x.toNat) s v := by
    unfold cnt; rw [hA, List.length_append]; push_cast; omega
   refine ⟨A.length + k, by rw [hk]; push_cast; omega, ?_⟩;rw [hA, List.getElem?_append_right (by omega), show A.length + k - A.length = k by omega, gen_at hv (by omega) (by omega), if_pos hg];have hlt : k < (gen qs lo hi (qs.length - (x + 1).toNat) (s + wt qs x.toNat) (V4.dec v (qPart qs x.toNat))).length := by
    rw [List.getElem?_eq_some_iff] at hk2; exact hk2.1
   rw [List.getElem?_append_left (by simpa using hlt), List.getElem?_map, hk2];rfl
  ·cases hf
theorem gen_fol {qs : Dt} {lo hi : Int} : ∀ (m i : Nat) (n t s : Int) (v : V4) (p : Dt), i + m = qs.length -> t <= i -> p ∈ gen qs lo hi m s v ->
  ∃ r, folS qs lo hi p ⟨n, t, s, v⟩ = some r /\ V4.nil r.v = true /\ inr r.s lo hi = true
 | 0, i, n, t, s, v, p, hm, ht, h => by
  rw [gen] at h
  split at h
  ·rename_i hc;simp only [Bool.and_eq_true] at hc;simp only [List.mem_singleton] at h; subst h;exact ⟨_, rfl, hc.1, hc.2⟩
  ·cases h
 | m + 1, i, n, t, s, v, p, hm, ht, h => by
  cases hv : V4.nil v with
  | true =>
   rw [gen_nil hv] at h
   split at h
   ·rename_i hc;simp only [List.mem_singleton] at h; subst h;exact ⟨_, rfl, hv, hc⟩
   ·cases h
  | false =>
   rw [gen_succ hv (i := i) (by omega), List.mem_append] at h;rcases h with h | h
   ·split at h
    ·rename_i hg;simp only [List.mem_map] at h;obtain ⟨a, ha, rfl⟩ := h;obtain ⟨r, h1, h2, h3⟩ := gen_fol m (i + 1) (n + (cnt qs lo hi (qs.length - t.toNat) s v - cnt qs lo hi (qs.length - i) s v)) ((i : Int) + 1) _ _ a (by omega) (by omega) ha;refine ⟨r, ?_, h2, h3⟩;simp only [folS, List.getD_cons_zero, Cl.int, Int.toNat_natCast];rw [if_pos ⟨inr_iff.2 (by omega), hg⟩];exact h1
    ·cases h
   ·exact gen_fol m (i + 1) n t s v p (by omega) (by omega) h
theorem many_left {a b : Dt} {p : Int} : ∀ {n : Nat}, n <= a.length -> many (a ++ b) p n = many a p n
 | 0, _ => rfl
 | n + 1, h => by
  have : cel (a ++ b) n 0 = cel a n 0 := by
   unfold cel;rw [List.getD_eq_getElem?_getD (l := a ++ b), List.getElem?_append_left h, <- List.getD_eq_getElem?_getD]
  rw [many_succ, many_succ, many_left (by omega), this]
theorem isP_len {qs ws xs : Dt} {lo hi : Int} (bv : BankV qs ws lo hi) (h : PreOk qs ws xs) (hp : isP qs ws lo hi xs = true) : (xs.length : Int) = wan ws := by
 unfold isP at hp;simp only [Bool.and_eq_true] at hp;rw [<- sum_many (h.px bv)];exact sumN_ext fun k a b => of_decide_eq_true (allF_iff.1 hp.2.1 k a b)
theorem folS_is {qs ws : Dt} {lo hi : Int} (bv : BankV qs ws lo hi) : ∀ (zs pre : Dt) (n : Int), norm zs = zs -> PreOk qs ws pre ->
  (match folS qs lo hi zs ⟨n, fstQ pre, lvl qs pre, vOf qs ws pre⟩ with | none => false | some r => V4.nil r.v && inr r.s lo hi) = isP qs ws lo hi (pre ++ zs)
 | [], pre, n, hn, po => by
  simp only [folS, List.append_nil]
  by_cases he : (pre.length : Int) = wan ws
  ·rw [isP_full bv po he, (nil_iff bv po).2 he, Bool.true_and]
  ·rw [Bool.eq_false_iff.2 fun h => he ((nil_iff bv po).1 h), Bool.false_and, Bool.eq_false_iff.2 fun h => he (isP_len bv po h)]
 | z :: zs, pre, n, hn, po => by
  have hn2 : [Cl.i (z.getD 0 .z).int] = z /\ norm zs = zs := by simpa [norm] using hn
  obtain ⟨e1, hn2⟩ := hn2;have fb := fst_bound po;simp only [folS];generalize (z.getD 0 .z).int = x at *;subst e1
  by_cases hc : inr x (fstQ pre) ((qs.length : Int) - 1) = true /\ 1 <= V4.get (vOf qs ws pre) (qPart qs x.toNat)
  ·rw [if_pos hc];obtain ⟨hc, hg⟩ := hc;rw [inr_iff] at hc;have hp := bv.part x.toNat (by omega);have hw := bv.w2;have ih := folS_is bv zs (pre ++ [[Cl.i x]]) (n + (cnt qs lo hi (qs.length - (fstQ pre).toNat) (lvl qs pre) (vOf qs ws pre) - cnt qs lo hi (qs.length - x.toNat) (lvl qs pre) (vOf qs ws pre))) hn2 (po.snoc hc.1 (by omega) hp.1 (by omega) hg);rw [fst_snoc, lvl_snoc, vOf_snoc hp.1 (by omega), List.append_assoc] at ih;exact ih
  ·rw [if_neg hc]
   show false = _
   symm;rw [Bool.eq_false_iff];intro hp;unfold isP at hp;simp only [Bool.and_eq_true] at hp;obtain ⟨h1, h2, h3⟩ := hp;have hl : (pre ++ [Cl.i x] :: zs).length = pre.length + 1 + zs.length := by simp; omega
   have g1 := allF_iff.1 h1 pre.length (Nat.zero_le _) (by omega);have ec : ∀ k, k <= pre.length -> cel (pre ++ [Cl.i x] :: zs) k 0 = cel (pre ++ [[Cl.i x]]) k 0 := fun k hk => by
    unfold cel;rw [show pre ++ [Cl.i x] :: zs = (pre ++ [[Cl.i x]]) ++ zs by simp, List.getD_eq_getElem?_getD (l := (pre ++ [[Cl.i x]]) ++ zs), List.getElem?_append_left (by simp; omega), <- List.getD_eq_getElem?_getD]
   unfold isF at g1;rw [ec _ (Nat.le_refl _), ec _ (by omega), cel_last] at g1;simp only [Bool.and_eq_true, inr_iff, Bool.or_eq_true, decide_eq_true_eq, List.getD_cons_zero, Cl.int] at g1;have hx : fstQ pre <= x := by
    unfold fstQ
    split
    ·omega
    ·rename_i hz;have h7 : (cel (pre ++ [[Cl.i x]]) (pre.length - 1) 0).int < x := g1.2.resolve_left hz;rw [cel_snoc (by omega)] at h7;omega
   have hp := bv.part x.toNat (by omega);have hw := bv.w2;have g2 := of_decide_eq_true (allF_iff.1 h2 (qPart qs x.toNat).toNat (Nat.zero_le _) (by omega));have g3 := many_mono (l := px qs (pre ++ [Cl.i x] :: zs)) (p := qPart qs x.toNat) (n := pre.length + 1) zs.length;rw [<- hl] at g3;rw [Int.toNat_of_nonneg hp.1] at g2;have g4 : many (px qs (pre ++ [Cl.i x] :: zs)) (qPart qs x.toNat) (pre.length + 1) = many (px qs pre) (qPart qs x.toNat) pre.length + 1 := by
    have h5 := many_px_snoc qs pre x (qPart qs x.toNat);rw [if_pos rfl, List.length_append] at h5;rw [show px qs (pre ++ [Cl.i x] :: zs) = px qs (pre ++ [[Cl.i x]]) ++ px qs zs by simp [px], many_left (by rw [length_px]; simp)];exact h5
   refine hc ⟨inr_iff.2 (by omega), ?_⟩;rw [V4.get_vOf hp.1 (by omega)];omega
theorem fol_is {qs ws : Dt} {lo hi : Int} (bv : BankV qs ws lo hi) (xs : Dt) : (fol qs ws lo hi xs).2 = isP qs ws lo hi xs := by
 have e : vOf qs ws [] = v0 ws := by simp [vOf, v0, many]
 have h := folS_is bv (norm xs) [] 0 (norm_norm xs) (PreOk_nil bv);rw [e, folS_norm] at h;rw [show fstQ [] = 0 from rfl, show lvl qs [] = 0 from rfl, List.nil_append, isP_norm] at h;rw [<- h];unfold fol;cases folS qs lo hi xs ⟨0, 0, 0, v0 ws⟩ with
 | none => rfl
 | some r => rfl
theorem fol_ix {qs ws : Dt} {lo hi : Int} {xs : Dt} (h : (fol qs ws lo hi xs).2 = true) : ∃ k : Nat, (fol qs ws lo hi xs).1 = k /\ (paps qs ws lo hi)[k]? = some (norm xs) := by
 have e := folS_norm qs lo hi xs ⟨0, 0, 0, v0 ws⟩;unfold fol at h ⊢;generalize folS qs lo hi xs ⟨0, 0, 0, v0 ws⟩ = R at *;cases R with
 | none => cases h
 | some r =>
  have h : (V4.nil r.v && inr r.s lo hi) = true := h;simp only [Bool.and_eq_true] at h;obtain ⟨k, h1, h2⟩ := folS_ix (norm xs) 0 0 0 (v0 ws) r (norm_norm xs) (by omega) (by omega) e h.1 h.2;exact ⟨k, by show r.n = _; rw [h1]; omega, by simpa [paps] using h2⟩
theorem paps_inj {qs ws : Dt} {lo hi : Int} {i k : Nat} (h : (paps qs ws lo hi).getD i [] = (paps qs ws lo hi).getD k []) (h1 : i < (paps qs ws lo hi).length) (h2 : k < (paps qs ws lo hi).length) : i = k := by
 have hp := List.pairwise_iff_getElem.1 (gen_lat qs lo hi qs.length 0 (v0 ws) (Nat.le_refl _));have hx : ∀ i, (h1 : i < (paps qs ws lo hi).length) -> (paps qs ws lo hi).getD i [] = (gen qs lo hi qs.length 0 (v0 ws))[i]'h1 := fun i h1 => by
  rw [List.getD_eq_getElem?_getD, List.getElem?_eq_getElem h1]; rfl
 rw [hx i h1, hx k h2] at h;rcases Nat.lt_trichotomy i k with e | e | e
 ·have := hp i k h1 h2 e;rw [h, lat_irr] at this; cases this
 ·exact e
 ·have := hp k i h2 h1 e;rw [h, lat_irr] at this; cases this
theorem paps_norm {qs ws : Dt} {lo hi : Int} {i : Nat} (h1 : i < (paps qs ws lo hi).length) : norm ((paps qs ws lo hi).getD i []) = (paps qs ws lo hi).getD i [] := by
 refine gen_norm qs lo hi qs.length 0 (v0 ws) _ ?_;rw [List.getD_eq_getElem?_getD, List.getElem?_eq_getElem h1];exact List.getElem_mem h1
theorem num_ok {qs ws : Dt} {lo hi : Int} {xs : Dt} (h : (fol qs ws lo hi xs).2 = true) : 0 <= (fol qs ws lo hi xs).1 /\ (fol qs ws lo hi xs).1 < (paps qs ws lo hi).length /\ ∀ i : Nat, i < (paps qs ws lo hi).length -> (eqI ((paps qs ws lo hi).getD i []) xs = true ↔ (i : Int) = (fol qs ws lo hi xs).1) := by
 obtain ⟨k, h1, h2⟩ := fol_ix h;obtain ⟨h3, h4⟩ := List.getElem?_eq_some_iff.1 h2;have h5 : (paps qs ws lo hi).getD k [] = norm xs := by rw [List.getD_eq_getElem?_getD, h2]; rfl
 refine ⟨by omega, by omega, fun i hi' => ?_⟩;rw [eqI_iff, paps_norm hi', <- h5, h1];constructor
 ·exact fun e => by rw [paps_inj e hi' h3]
 ·exact fun e => by rw [Int.ofNat_inj.1 e]
theorem paps_fol {qs ws : Dt} {lo hi : Int} {i : Nat} (h : i < (paps qs ws lo hi).length) : fol qs ws lo hi ((paps qs ws lo hi).getD i []) = ((i : Int), true) := by
 have hm : (paps qs ws lo hi).getD i [] ∈ paps qs ws lo hi := by
  rw [List.getD_eq_getElem?_getD, List.getElem?_eq_getElem h];exact List.getElem_mem h
 obtain ⟨r, h1, h2, h3⟩ := gen_fol qs.length 0 0 0 0 (v0 ws) _ (by omega) (by omega) hm;have h4 : (fol qs ws lo hi ((paps qs ws lo hi).getD i [])).2 = true := by
  unfold fol; rw [h1]; simp only [h2, h3]; rfl
 have h5 := (num_ok h4).2.2 i h;rw [eqI_iff] at h5;exact Prod.ext (h5.1 rfl).symm h4
theorem paps_is {qs ws : Dt} {lo hi : Int} (bv : BankV qs ws lo hi) {i : Nat} (h : i < (paps qs ws lo hi).length) : isP qs ws lo hi ((paps qs ws lo hi).getD i []) = true := by
 rw [<- fol_is bv, paps_fol h]
end Sp
namespace Sp
structure PpsOk (qs rs : Dt) : Prop where
 ok : ∀ i, i < rs.length -> In qs (cel rs i 0).lst
def levD (qs ws : Dt) (lo hi : Int) : Dt := (paps qs ws lo hi).map fun p => [.i (lvl qs p)]
theorem paps_in {qs ws : Dt} {lo hi : Int} (bv : BankV qs ws lo hi) : PpsOk qs (papD qs ws lo hi) := ⟨fun i h => by
 have h5 : i < (paps qs ws lo hi).length := by simpa [papD] using h
 have h6 := paps_is bv h5;rw [cel_papD h];unfold isP at h6;simp only [Bool.and_eq_true] at h6;exact isF_in bv.n2 h6.1⟩
end Sp
open Go.RowKit Go.Shelf
set_option maxRecDepth 1000000
set_option maxHeartbeats 4000000
def Xg9 : Ren := ⟨fun i => match i with
  | 125 => 66
  | 128 => 81
  | 129 => 82
  | 189 => 54
  | 215 => 90
  | 216 => 78
  | 257 => 65
  | 294 => 72
  | 295 => 73
  | 296 => 74
  | 297 => 75
  | 298 => 76
  | 299 => 77
  | 300 => 79
  | 301 => 80
  | 328 => 85
  | 329 => 86
  | 330 => 87
  | 331 => 88
  | 332 => 89
  | 343 => 92
  | _ => 0, fun i => match i with
  | 0 => 0
  | 3 => 3
  | 4 => 4
  | 5 => 5
  | 9 => 9
  | 28 => 23
  | 46 => 108
  | 51 => 123
  | 53 => 125
  | 131 => 91
  | 182 => 115
  | 183 => 116
  | 218 => 127
  | 222 => 131
  | 228 => 134
  | 229 => 135
  | _ => 0, fun i => i⟩
theorem Xbt : Lays.n189 Try.prog Xg9 := {
  mixed := Xa
  f125 := by kernel_rfl
  f128 := by kernel_rfl
  f129 := by kernel_rfl
  f189 := by kernel_rfl
  f215 := by kernel_rfl
  f216 := by kernel_rfl
  f257 := by kernel_rfl
  f294 := by kernel_rfl
  f295 := by kernel_rfl
  f296 := by kernel_rfl
  f297 := by kernel_rfl
  f298 := by kernel_rfl
  f299 := by kernel_rfl
  f300 := by kernel_rfl
  f301 := by kernel_rfl
  f328 := by kernel_rfl
  f329 := by kernel_rfl
  f330 := by kernel_rfl
  f331 := by kernel_rfl
  f332 := by kernel_rfl
  f343 := by kernel_rfl
  t0 := by kernel_rfl
  a0 := fun w => by kernel_rfl
  z0 := fun w => by kernel_rfl
  v0 := fun w => by kernel_rfl
  t3 := by kernel_rfl
  a3 := fun w => by kernel_rfl
  z3 := fun w => by kernel_rfl
  v3 := fun w => by kernel_rfl
  t4 := by kernel_rfl
  a4 := fun w => by kernel_rfl
  z4 := fun w => by kernel_rfl
  v4 := fun w => by kernel_rfl
  t5 := by kernel_rfl
  a5 := fun w => by kernel_rfl
  z5 := fun w => by kernel_rfl
  v5 := fun w => by kernel_rfl
  t9 := by kernel_rfl
  a9 := fun w => by kernel_rfl
  z9 := fun w => by kernel_rfl
  v9 := fun w => by kernel_rfl
  t28 := by kernel_rfl
  a28 := fun w => by kernel_rfl
  z28 := fun w => by kernel_rfl
  v28 := fun w => by kernel_rfl
  t46 := by kernel_rfl
  a46 := fun w => by kernel_rfl
  z46 := fun w => by kernel_rfl
  v46 := fun w => by kernel_rfl
  t51 := by kernel_rfl
  a51 := fun w => by kernel_rfl
  z51 := fun w => by kernel_rfl
  v51 := fun w => by kernel_rfl
  t53 := by kernel_rfl
  a53 := fun w => by kernel_rfl
  z53 := fun w => by kernel_rfl
  v53 := fun w => by kernel_rfl
  t131 := by kernel_rfl
  a131 := fun w => by kernel_rfl
  z131 := fun w => by kernel_rfl
  v131 := fun w => by kernel_rfl
  t182 := by kernel_rfl
  a182 := fun w => by kernel_rfl
  z182 := fun w => by kernel_rfl
  v182 := fun w => by kernel_rfl
  t183 := by kernel_rfl
  a183 := fun w => by kernel_rfl
  z183 := fun w => by kernel_rfl
  v183 := fun w => by kernel_rfl
  t218 := by kernel_rfl
  a218 := fun w => by kernel_rfl
  z218 := fun w => by kernel_rfl
  v218 := fun w => by kernel_rfl
  t222 := by kernel_rfl
  a222 := fun w => by kernel_rfl
  z222 := fun w => by kernel_rfl
  v222 := fun w => by kernel_rfl
  t228 := by kernel_rfl
  a228 := fun w => by kernel_rfl
  z228 := fun w => by kernel_rfl
  v228 := fun w => by kernel_rfl
  t229 := by kernel_rfl
  a229 := fun w => by kernel_rfl
  z229 := fun w => by kernel_rfl
  v229 := fun w => by kernel_rfl }
def Sp.numsOf (l : Dt) : List Int := l.map fun r => (r.getD 0 .z).int
def Sp.sortD (l : Dt) : Dt := ((Sp.numsOf l).mergeSort fun x y => decide (x <= y)).map fun n => [.i n]
theorem Xbu (l : Dt) : Yi [.int .i64] l = (Sp.numsOf l).map (Value.int .i64) := by
 induction l with
 | nil => rfl
 | cons r l ih =>
  unfold Sp.numsOf at ih ⊢;simp only [Yi, List.map_cons, ih];cases r <;> rfl
theorem X4 (l : Dt) : Sp.numsOf (Sp.sortD l) = (Sp.numsOf l).mergeSort fun x y => decide (x <= y) := by
 unfold Sp.sortD Sp.numsOf;rw [List.map_map];exact List.map_id'' (fun _ => rfl) _
theorem Xb (l : Dt) : (Sp.numsOf l).length = l.length := by unfold Sp.numsOf; rw [List.length_map]
theorem Xs (l : Dt) : (Sp.sortD l).length = l.length := by unfold Sp.sortD; rw [List.length_map, List.length_mergeSort, Xb]
def Xg8 [InW] (e : List Ed) (K : Nat -> List Ed -> Prop) : Prop := match e with
 | [.l l] => Pre (0 < l.length /\ l.length <= 65536) (K 0 [.l (Sp.sortD l)])
 | _ => False
noncomputable def Xew : CC where
 g := 54
 args := [.row 4]
 H := [(4, .arr 3 Jb)]
 outs := [⟨false, .tup [], [(4, .arr 3 Jb)], false⟩]
 spec := Xg8
theorem Xh8 : ∀ W : InW, @CallC W Try.prog Xew := fun W xs ys e1 e2 h1 h2 K hs => by
 obtain ⟨x1, xs', a1, a2, rfl, rfl, ⟨rfl, rfl⟩, rfl, rfl⟩ := h1;obtain ⟨it, h', b1, b2, rfl, rfl, ⟨l, rfl, rfl⟩, rfl, rfl⟩ := h2;obtain ⟨⟨hl0, hl1⟩, hk⟩ : Pre (0 < l.length /\ l.length <= 65536) (K 0 [.l (Sp.sortD l)]) := hs;refine ⟨0, _, _, .tup [], _, [(4, .arr 3 Jb (Sp.sortD l))], hk, rfl, rfl, rfl, ?_⟩;intro φ w0 M R w hnd hS;have hS' : St w0 M ((It.arr 3 Jb l).conc φ 4 :: R) w := hS;have hfn := Y2w (by decide) hS';have hnil := Yda (by decide) hl0 hS';have hrow : w.ownsRow 0 3 1 (.slice (some ⟨(φ 4).b, 0, none⟩) (φ 4).fn (φ 4).c) (φ 4).fn (Yi [.int .i64] l) := by
  have := hS'.row (v := .slice (if (φ 4).nil then none else some ⟨(φ 4).b, 0, none⟩) (φ 4).fn (φ 4).c) Look.head;rw [hnil] at this;exact this
 rcases hrow.2 with ⟨h0, _⟩ | ⟨g, cap, cur, hv, hb, hg, hnc, hcm, hcs, ht⟩
 ·cases h0
 injection hv with v1 v2 v3
 injection v1 with v1
 injection v1 with v1
 have hzl := Xb l;have ht' : cur.toList.take (Sp.numsOf l).length = (Sp.numsOf l).map (Value.int .i64) := by
  rw [hzl, <- hfn, <- Xbu, <- ht, Nat.mul_one]
 have hH := holds_of_blockI hg ht';have hsz : g < w.heap.size := (Array.getElem?_eq_some_iff.1 hg).1;have hc := calls_of_every_depth fun D => AnyS.slices_Sort_int_in Xbt D g 0 cap (Sp.numsOf l) w hH hsz (by rw [hzl]; omega);have hx : (AV.concL φ [.rw 4]).toArray = #[Value.slice (some ⟨g, 0, none⟩) (Sp.numsOf l).length cap] := by
  simp [AV.concL, AV.conc, hnil, <- v1, v3, hfn, hzl]
 rw [hx];refine hc.mono ?_;rintro e w' ⟨rfl, n, os, rfl⟩;have hml : ((Sp.numsOf l).mergeSort fun x y => decide (x <= y)).length = (Sp.numsOf l).length := List.length_mergeSort _;have hown := ownsRow_sortedI (n := n) (os := os) (base := 0) hml (Nat.zero_le _) hg (by rw [hzl, <- hfn]; exact hnc) hcm hcs;have hgr := grownBy_sortedI (w := w) (g := g) (n := n) (os := os) ((Sp.numsOf l).mergeSort fun x y => decide (x <= y)).toArray;refine ⟨φ, fun _ => rfl, rfl, by simp [keys], ?_⟩;have hsl := Xs l;have hfl : Yi [.int .i64] (Sp.sortD l) = ((Sp.numsOf l).mergeSort fun x y => decide (x <= y)).map (Value.int .i64) := by rw [Xbu, X4]
 have e1 : (It.arr 3 Jb l).conc φ 4 = .row (.slice (some ⟨g, 0, none⟩) (φ 4).fn cap) 3 1 (φ 4).fn (Yi [.int .i64] l) := by
  simp only [It.conc, hnil, <- v1, v3];rfl
 have e2 : (It.arr 3 Jb (Sp.sortD l)).conc φ 4 = .row (.slice (some ⟨g, 0, none⟩) (φ 4).fn cap) 3 1 (φ 4).fn (Yi [.int .i64] (Sp.sortD l)) := by
  simp only [It.conc, hnil, <- v1, v3];rfl
 rw [e1] at hS'
 change St w0 M ((It.arr 3 Jb (Sp.sortD l)).conc φ 4 :: R) _
 rw [e2];refine hS'.upd .head ⟨hgr.os, hgr.tape, hgr.output, hgr.size, fun k hk hm => hgr.block k hk (fun x => hm ?_)⟩ ?_ fun b hb => .inl hb
 ·injection x with x
  subst x;simp [Res.foot, Value.ownBlock]
 ·show World.ownsRow _ 0 3 1 _ _ _
  rw [hfl, hfn, <- hzl];exact hown
end Go.Proofs.Ytilnbgpogfabaaa
namespace Go.Proofs.Ytilnbgpogfabaaa
open Go.RowKit
set_option maxRecDepth 100000
namespace Sp
def lvG (qs : Dt) (lo hi : Int) : Nat -> Int -> V4 -> Dt
 | 0, s, v => if V4.nil v && inr s lo hi then [[.i s]] else []
 | m + 1, s, v => if V4.nil v then (if inr s lo hi then [[.i s]] else [])
  else (if 1 <= V4.get v (qPart qs (qs.length - (m + 1))) then lvG qs lo hi m (s + wt qs (qs.length - (m + 1))) (V4.dec v (qPart qs (qs.length - (m + 1)))) else []) ++ lvG qs lo hi m s v
theorem lvG_nil {qs : Dt} {lo hi : Int} {v : V4} (h : V4.nil v = true) : ∀ m s, lvG qs lo hi m s v = if inr s lo hi then [[.i s]] else []
 | 0, s => by rw [lvG, h]; simp
 | m + 1, s => by rw [lvG, if_pos h]
theorem lvG_zero {qs : Dt} {lo hi : Int} {v : V4} (h : V4.nil v = false) (s : Int) : lvG qs lo hi 0 s v = [] := by rw [lvG, h]; simp
theorem lvG_at {qs : Dt} {lo hi s : Int} {v : V4} (h : V4.nil v = false) {i : Int} (h0 : 0 <= i) (h1 : i < qs.length) :
  lvG qs lo hi (qs.length - i.toNat) s v = (if 1 <= V4.get v (qPart qs i.toNat) then lvG qs lo hi (qs.length - (i + 1).toNat) (s + wt qs i.toNat) (V4.dec v (qPart qs i.toNat)) else []) ++ lvG qs lo hi (qs.length - (i + 1).toNat) s v := by
 have e : qs.length - i.toNat = (qs.length - (i + 1).toNat) + 1 := by omega
 have e2 : qs.length - ((qs.length - (i + 1).toNat) + 1) = i.toNat := by omega
 rw [e, lvG, if_neg (by simp [h]), e2]
theorem sumN_shift {f g : Nat -> Int} : ∀ {n i : Nat}, (∀ k, i <= k -> k < i + n -> f (k + 1) = g k) -> sumN f (i + 1) n = sumN g i n
 | 0, _, _ => rfl
 | n + 1, i, h => by rw [sumN, sumN, h i (by omega) (by omega), sumN_shift fun k a b => h k (by omega) (by omega)]
theorem lvl_cons (qs : Dt) (i : Nat) (p : Dt) : lvl qs ([Cl.i (i : Int)] :: p) = wt qs i + lvl qs p := by
 unfold lvl;rw [List.length_cons, sumN, sumN_shift (g := lvf qs p) fun k _ _ => ?_]
 ·rfl
 ·unfold lvf cel;rw [List.getD_cons_succ]
theorem lvG_gen (qs : Dt) (lo hi : Int) : ∀ m s v, lvG qs lo hi m s v = (gen qs lo hi m s v).map fun p => [.i (s + lvl qs p)]
 | 0, s, v => by
  rw [lvG, gen]; split
  ·simp [lvl, sumN]
  ·rfl
 | m + 1, s, v => by
  cases hv : V4.nil v with
  | true =>
   rw [lvG_nil hv, gen_nil hv]; split
   ·simp [lvl, sumN]
   ·rfl
  | false =>
   have hv2 : ¬ V4.nil v = true := by simp [hv]
   rw [lvG, gen, if_neg hv2, if_neg hv2, List.map_append, lvG_gen qs lo hi m s v]
   congr 1
   split
   ·rw [lvG_gen qs lo hi m, List.map_map];refine List.map_congr_left fun p _ => ?_;simp only [Function.comp, lvl_cons, Int.add_assoc]
   ·rfl
theorem length_lvG (qs : Dt) (lo hi : Int) (m : Nat) (s : Int) (v : V4) : ((lvG qs lo hi m s v).length : Int) = cnt qs lo hi m s v := by
 rw [lvG_gen, List.length_map]; rfl
theorem lvG_all (qs ws : Dt) (lo hi : Int) : lvG qs lo hi qs.length 0 (v0 ws) = levD qs ws lo hi := by
 rw [lvG_gen];unfold levD paps;refine List.map_congr_left fun p _ => ?_;rw [Int.zero_add]
theorem length_levD (qs ws : Dt) (lo hi : Int) : ((levD qs ws lo hi).length : Int) = total qs ws lo hi := by
 rw [<- lvG_all, length_lvG]; rfl
end Sp
end Go.Proofs.Ytilnbgpogfabaaa
