/-
  'PaperFair': for every input the law returns true, and what is handed in reads as before. No condition.
-/
import Derived.Test.YtilnbgpogfabaaaQd
import Derived.IntWalk
import Derived.Test.YtilnbgpogfabaaaProg
set_option linter.unusedVariables false
set_option linter.unusedSectionVars false
set_option linter.unusedSimpArgs false
namespace Go.Proofs.Ytilnbgpogfabaaa
abbrev Ja : List Ty := [.int .i64, .int .i64, .int .i64]
abbrev Jb : List Ty := [.int .i64]
abbrev Iv11 : List Ty := [.int .i64, .int .i64, .int .i64, .int .i64, .int .i64, .int .i64, .int .i64, .int .i64, .int .i64, .int .i64, .int .i64]
abbrev Iv5 : List Ty := [.int .i64, .int .i64, .int .i64, .int .i64, .int .i64]
abbrev Iv4 : List Ty := [.int .i64, .int .i64, .int .i64, .int .i64]
abbrev Ivs : List Ty := [.str, .int .i64, .int .i64, .int .i64]
open Go.RowKit
theorem vif [InW] {b : Bool} {A B : Prop} (h : b = true -> A) (h2 : b = false -> B) : Vif b A B := ⟨h, h2⟩
theorem vifd [InW] {p : Prop} {_ : Decidable p} {A B : Prop} (h : p -> A) (h2 : ¬ p -> B) : Vif (decide p) A B := ⟨fun e => h (of_decide_eq_true e), fun e => h2 (of_decide_eq_false e)⟩
theorem ned [InW] {b : Bool} {A : Prop} (h : b = true) (h2 : A) : Need b A := ⟨h, h2⟩
theorem nedd [InW] {p : Prop} {_ : Decidable p} {A : Prop} (h : p) (h2 : A) : Need (decide p) A := ⟨decide_eq_true h, h2⟩
theorem ar64 [InW] {n : Int} {K : Int -> Prop} (h : -9223372036854775808 <= n /\ n <= 9223372036854775807) (k : K n) : Ar .i64 n K := ⟨by rw [IntWalk.i64_in n h]; exact k⟩
theorem notT {b : Bool} (h : (!b) = true) : b = false := by cases b <;> simp_all
theorem notF {b : Bool} (h : (!b) = false) : b = true := by cases b <;> simp_all
theorem vifn [InW] {p : Prop} {_ : Decidable p} {A B : Prop} (h : ¬ p -> A) (h2 : p -> B) : Vif (!decide p) A B := ⟨fun e => h (of_decide_eq_false (notT e)), fun e => h2 (of_decide_eq_true (notF e))⟩
theorem vifb [InW] {b : Bool} {A B : Prop} (h : b = false -> A) (h2 : b = true -> B) : Vif (!b) A B := ⟨fun e => h (notT e), fun e => h2 (notF e)⟩
theorem Xj {p A : Prop} (h : p) (h2 : A) : Pre p A := ⟨h, h2⟩
theorem ned2 [InW] {p q : Prop} {_ : Decidable p} {_ : Decidable q} {K : Prop} (h : p /\ q) (hK : K) : Need (decide p && decide q) K := ⟨by simp [h], hK⟩
namespace Sp
def inr (n lo hi : Int) : Bool := decide (lo <= n) && decide (n <= hi)
def outs (lo hi : Int) (xs : Dt) : Nat -> Nat -> Bool
 | _, 0 => false
 | i, n + 1 => !inr (cel xs i 0).int lo hi || outs lo hi xs (i + 1) n
def out (lo hi : Int) (xs : Dt) : Bool := outs lo hi xs 0 xs.length
def outI (lo hi : Int) (xs : Dt) : Nat -> Nat -> Nat
 | i, 0 => i
 | i, n + 1 => if inr (cel xs i 0).int lo hi = true then outI lo hi xs (i + 1) n else i
def hasE (f : Nat -> Int) : Nat -> Nat -> Bool
 | _, 0 => false
 | i, n + 1 => !decide (f i = 0) || hasE f (i + 1) n
def idxE (f : Nat -> Int) : Nat -> Nat -> Nat
 | i, 0 => i
 | i, n + 1 => if f i = 0 then idxE f (i + 1) n else i
def allF (f : Nat -> Bool) : Nat -> Nat -> Bool
 | _, 0 => true
 | i, n + 1 => f i && allF f (i + 1) n
theorem allF_iff {f : Nat -> Bool} : ∀ {n i : Nat}, allF f i n = true ↔ ∀ k, i <= k -> k < i + n -> f k = true
 | 0, i => by simp [allF]; omega
 | n + 1, i => by
  simp only [allF, Bool.and_eq_true, allF_iff (n := n)];constructor
  ·rintro ⟨h1, h2⟩ k a b;rcases Nat.eq_or_lt_of_le a with e | e
   ·exact e ▸ h1
   ·exact h2 k (by omega) (by omega)
  ·exact fun h => ⟨h i (by omega) (by omega), fun k a b => h k (by omega) (by omega)⟩
def anyF (f : Nat -> Bool) : Nat -> Nat -> Bool
 | _, 0 => false
 | i, n + 1 => f i || anyF f (i + 1) n
theorem anyF_iff {f : Nat -> Bool} : ∀ {n i : Nat}, anyF f i n = true ↔ ∃ k, i <= k /\ k < i + n /\ f k = true
 | 0, i => by simp [anyF]; omega
 | n + 1, i => by
  simp only [anyF, Bool.or_eq_true, anyF_iff (n := n)];constructor
  ·rintro (h | ⟨k, a, b, c⟩)
   ·exact ⟨i, by omega, by omega, h⟩
   ·exact ⟨k, by omega, by omega, c⟩
  ·rintro ⟨k, a, b, c⟩;rcases Nat.eq_or_lt_of_le a with e | e
   ·exact .inl (e ▸ c)
   ·exact .inr ⟨k, by omega, by omega, c⟩
def fstF (f : Nat -> Bool) : Nat -> Nat -> Nat
 | i, 0 => i
 | i, n + 1 => if f i then i else fstF f (i + 1) n
theorem fstF_spec {f : Nat -> Bool} : ∀ {n i : Nat}, anyF f i n = true -> i <= fstF f i n /\ fstF f i n < i + n /\ f (fstF f i n) = true /\ ∀ k, i <= k -> k < fstF f i n -> f k = false
 | 0, i, h => by simp [anyF] at h
 | n + 1, i, h => by
  unfold fstF
  by_cases e : f i = true
  ·rw [if_pos e];exact ⟨by omega, by omega, e, fun k a b => by omega⟩
  ·rw [if_neg e];simp only [anyF, e, Bool.false_or, Bool.or_eq_true, Bool.false_eq_true, false_or] at h;obtain ⟨h1, h2, h3, h4⟩ := fstF_spec h;refine ⟨by omega, by omega, h3, fun k a b => ?_⟩;rcases Nat.eq_or_lt_of_le a with e2 | e2
   ·subst e2; simpa using e
   ·exact h4 k (by omega) b
theorem hasE_ix {f : Nat -> Int} : ∀ {n i : Nat}, hasE f i n = true -> i <= idxE f i n /\ idxE f i n < i + n /\ f (idxE f i n) ≠ 0
 | 0, i, h => by simp [hasE] at h
 | n + 1, i, h => by
  unfold idxE
  by_cases e : f i = 0
  ·rw [if_pos e];simp only [hasE, e, decide_true, Bool.not_true, Bool.false_or] at h;have := hasE_ix h;exact ⟨by omega, by omega, this.2.2⟩
  ·rw [if_neg e]; exact ⟨by omega, by omega, e⟩
theorem hasE_no {f : Nat -> Int} : ∀ {n i : Nat}, hasE f i n = false -> ∀ k, i <= k -> k < i + n -> f k = 0
 | 0, i, _, k, a, b => by omega
 | n + 1, i, h, k, a, b => by
  simp only [hasE, Bool.or_eq_false_iff, Bool.not_eq_false', decide_eq_true_eq] at h;rcases Nat.eq_or_lt_of_le a with e | e
  ·exact e ▸ h.1
  ·exact hasE_no h.2 k (by omega) (by omega)
theorem hasE_of {f : Nat -> Int} : ∀ {n i : Nat}, (∀ k, i <= k -> k < i + n -> f k = 0) -> hasE f i n = false
 | 0, i, _ => rfl
 | n + 1, i, h => by
  simp only [hasE, h i (by omega) (by omega), decide_true, Bool.not_true, Bool.false_or];exact hasE_of fun k a b => h k (by omega) (by omega)
theorem inr_iff {n lo hi : Int} : inr n lo hi = true ↔ lo <= n /\ n <= hi := by simp [inr]
theorem inr_ff {n lo hi : Int} : inr n lo hi = false ↔ n < lo \/ hi < n := by simp [inr]; omega
end Sp
theorem Xff [InW] {f : Nat -> Int} {i n : Nat} {K1 : Nat -> Int -> Prop} {K0 : Prop} (h : Vif (Sp.hasE f i (n + 1)) (K1 (Sp.idxE f i (n + 1)) (f (Sp.idxE f i (n + 1)))) K0) :
  (f i ≠ 0 -> K1 i (f i)) /\ (f i = 0 -> Vif (Sp.hasE f (i + 1) n) (K1 (Sp.idxE f (i + 1) n) (f (Sp.idxE f (i + 1) n))) K0) := by
 simp only [Sp.hasE, Sp.idxE] at h;refine ⟨fun e => ?_, fun e => ?_⟩
 ·have := h.1 (by simp [e]);simpa [e] using this
 ·simpa [e] using h
theorem Xfg [InW] {f : Nat -> Bool} {i n : Nat} {K1 : Nat -> Prop} {K0 : Prop} (h : Vif (Sp.anyF f i (n + 1)) (K1 (Sp.fstF f i (n + 1))) K0) :
  (f i = true -> K1 i) /\ (f i = false -> Vif (Sp.anyF f (i + 1) n) (K1 (Sp.fstF f (i + 1) n)) K0) := by
 simp only [Sp.anyF, Sp.fstF] at h;refine ⟨fun e => ?_, fun e => ?_⟩
 ·have := h.1 (by simp [e]);simpa [e] using this
 ·simpa [e] using h
theorem Xfh [InW] {f : Nat -> Bool} {i n : Nat} {A B : Prop} (h : Vif (Sp.allF f i (n + 1)) A B) : (f i = true -> Vif (Sp.allF f (i + 1) n) A B) /\ (f i = false -> B) := by
 simp only [Sp.allF] at h;refine ⟨fun e => ?_, fun e => ?_⟩
 ·simpa [e] using h
 ·exact h.2 (by simp [e])
theorem vifq [InW] {p q : Prop} {_ : Decidable p} {_ : Decidable q} {A B : Prop} (h : ¬ (p ↔ q) -> A) (h2 : (p ↔ q) -> B) : Vif (!(decide p == decide q)) A B :=
 ⟨fun e => h (by simpa using notT e), fun e => h2 (by simpa using notF e)⟩
theorem X0 [InW] {p : Prop} {_ : Decidable p} {A B : Prop} (h : p -> A) (h2 : ¬ p -> B) : Vif (!(decide p == false)) A B :=
 ⟨fun e => h (by simpa using e), fun e => h2 (by simpa using e)⟩
theorem Xz [InW] {p : Prop} {_ : Decidable p} {A B : Prop} (h : p -> A) (h2 : ¬ p -> B) : Vif (!(false == decide p)) A B :=
 ⟨fun e => h (by simpa using e), fun e => h2 (by simpa using e)⟩
theorem out1 (lo hi n : Int) : Sp.out lo hi [[Cl.i n]] = !Sp.inr n lo hi := by simp [Sp.out, Sp.outs, cel, Cl.int]
set_option maxRecDepth 100000
def tTak [InW] : TI := ⟨some false, some 1, some [.v (.int .u64 0)], [], none, none⟩
def tTab [InW] : TI := ⟨some false, some 1, some [.v (.nilFunc)], [], none, none⟩
def tTac [InW] : Tr TI := .node .nil ⟨none, none, none, [], none, none⟩ .nil
def tTaw [InW] : TI := ⟨some false, some 1, (some [.v (.tuple #[.slice none 0 0, .int .i64 0])]), [], none, none⟩
def tTaa [InW] : Tr TI := .node tTac tTab tTac
def tTad [InW] : TI := ⟨some false, some 1, some [.v (.pointer none)], [], none, none⟩
def tTba [InW] : Tr TI := .node (.node .nil tTab .nil) tTab tTac
def tTag [InW] : Tr TI := .node tTba tTab tTaa
def tTbb [InW] : List (Option (Nat × Nat)) := [(some (0, 1)), (some (1, 1)), (some (2, 1)), (some (3, 1))]
def tTan [InW] : TI := ⟨some true, some 4, some [.v (.int .i64 0), .v (.int .i64 0), .v (.bool false), .v (.int .u8 0)], tTbb, none, none⟩
def tTao [InW] : TI := ⟨some false, some 1, (some [.v (.tuple #[.int .i64 0, .int .i64 0])]), [], none, none⟩
def tTbc [InW] : List AV := [.v (.slice none 0 0)]
def tTae [InW] : Tr TI := .node .nil ⟨some true, some 11, some [.v (.int .u64 0), .v (.int .u64 0), .v (.int .u32 0), .v (.int .u8 0), .v (.int .u8 0), .v (.int .u8 0), .v (.int .u8 0), .v (.nilFunc), .v (.pointer none), .v (.int .i32 0), .v (.int .i32 0)], [(some (0, 1)), (some (1, 1)), (some (2, 1)), (some (3, 1)), (some (4, 1)), (some (5, 1)), (some (6, 1)), (some (7, 1)), (some (8, 1)), (some (9, 1)), (some (10, 1))], none, none⟩ .nil
def tTal [InW] : TI := ⟨some false, some 1, some [.v (.int .i64 0)], [], none, none⟩
def tTax [InW] : TI := ⟨some true, some 1, some [.v (.pointer none)], [(some (0, 1))], none, none⟩
def tTaz [InW] : Tr TI := .node (.node .nil tTad .nil) tTab tTac
def tTar [InW] : TI := ⟨some false, some 1, some [.v (.string ByteArray.empty)], [], none, none⟩
def tTah [InW] : Tr TI := .node .nil ⟨some true, some 4, some [.v (.pointer none), .v (.pointer none), .v (.pointer none), .v (.string ByteArray.empty)], tTbb, none, none⟩ .nil
def tTas [InW] : TI := ⟨some true, some 4, some [.v (.int .i64 0), .v (.int .i64 0), .v (.int .i64 0), .v (.int .i64 0)], [], none, (some (4, 1, false))⟩
def tTbd [InW] : List AV := [.v (.int .i64 0), .v (.int .i64 0), .v (.int .i64 0)]
def tTaf [InW] : TI := ⟨some true, some 3, some tTbd, [(some (0, 1)), (some (1, 1)), (some (2, 1))], none, none⟩
def tTap [InW] : TI := ⟨some true, some 4, some [.v (.slice none 0 0), .v (.slice none 0 0), .v (.int .i64 0), .v (.int .i64 0)], [(some (0, 1)), (some (1, 1)), (some (2, 2))], none, none⟩
def tTam [InW] : TI := ⟨some false, some 1, some [.v (.int .u8 0)], [], none, none⟩
def tTai [InW] : TI := ⟨some true, some 6, some [.v (.slice none 0 0), .v (.slice none 0 0), .v (.int .i64 0), .v (.int .i64 0), .v (.slice none 0 0), .v (.map none)], [(some (0, 4)), (some (4, 1)), (some (5, 1))], none, none⟩
def tTav [InW] : TI := ⟨some true, some 2, some [.v (.int .i64 0), .v (.int .i64 0)], [(some (0, 1)), (some (1, 1))], none, none⟩
def tTat [InW] : TI := ⟨some false, some 1, some [.v (.int .i32 0)], [], none, none⟩
def tTaj [InW] : TI := ⟨some true, some 6, some [.v (.int .i64 0), .v (.int .i64 0), .v (.int .i64 0), .v (.int .i64 0), .v (.int .i64 0), .v (.int .i64 0)], [(some (0, 1)), (some (1, 1)), (some (2, 4))], none, none⟩
def tTaq [InW] : TI := ⟨some true, some 4, some [.v (.int .i64 0), .v (.int .i64 0), .v (.int .i64 0), .v (.slice none 0 0)], [(some (0, 3)), (some (3, 1))], none, none⟩
def tTau [InW] : TI := ⟨some true, some 2, some [.v (.string ByteArray.empty), .v (.int .u64 0)], [(some (0, 1)), (some (1, 1))], none, none⟩
def tTay [InW] : Tr TI := .node .nil ⟨some true, some 0, some [], [(some (0, 0))], none, none⟩ .nil
def TT [InW] : Tr TI :=
 (.node (.node (.node (.node (.node (.node (.node (.node .nil tTak .nil) tTab tTac) tTaw tTaa) tTad tTag) tTan (.node (.node (.node (.node .nil tTao .nil) ⟨some true, some 4, some [.v (.int .u16 0), .v (.int .u16 0), .v (.int .u16 0), .v (.int .u16 0)], [], none, (some (4, 1, false))⟩ tTac) tTab tTaa) ⟨some false, some 1, some tTbc, [], (some (3, 1, 8, [.v (.int .i64 0)])), none⟩ (.node (.node tTae tTab tTac) tTab tTaa))) tTal (.node (.node (.node (.node (.node .nil tTad .nil) ⟨some true, some 3, some [.v (.int .u16 0), .v (.int .u16 0), .v (.int .u16 0)], [], none, (some (3, 1, false))⟩ tTac) tTab tTaa) tTax (.node tTaz tTab (.node tTac tTal tTac))) tTar (.node (.node (.node tTah tTas tTac) tTaf tTaa) tTap (.node (.node tTac ⟨some false, some 1, (some [.v (.tuple #[.int .i64 0, .bool false])]), [], none, none⟩ tTac) tTab (.node tTac ⟨some false, some 1, some [.v (.int .u32 0)], [], none, none⟩ tTac))))) tTab (.node (.node (.node tTag tTad (.node (.node (.node .nil tTam .nil) tTai tTac) tTab tTaa)) tTar (.node (.node (.node (.node .nil tTab .nil) tTad tTac) tTab tTaa) tTav (.node tTaa ⟨some false, some 1, some [.v (.int .u16 0)], [], none, none⟩ tTaa))) tTam (.node (.node tTag tTat (.node (.node (.node .nil tTat .nil) tTaj tTac) tTaq tTaa)) tTau (.node (.node (.node tTay tTad tTac) ⟨some false, some 1, some tTbc, [], (some (23, 1, 24, tTbc)), none⟩ tTaa) ⟨some false, some 1, (some [.v (.tuple #[.int .i64 0, .int .i64 0, .int .i64 0])]), [], none, none⟩ (.node tTaa tTaf (.node tTac tTak tTac)))))) ⟨some false, some 1, (some [.v (.tuple #[])]), [], none, none⟩ (.node (.node (.node (.node tTag tTad (.node (.node (.node .nil tTam .nil) ⟨some false, some 1, some [.v (.map none)], [], none, none⟩ tTac) tTab tTaa)) tTan (.node (.node tTba ⟨some false, some 1, (some [.v (.tuple #[.agg #[.int .i64 0, .int .i64 0], .int .i64 0])]), [], none, none⟩ tTaa) tTav (.node tTaz tTab tTaa))) ⟨some false, some 1, some [.v (.bool false)], [], none, none⟩ (.node (.node tTag ⟨some false, some 1, some [.v (.nilIface)], [], none, none⟩ (.node (.node (.node .nil tTat .nil) tTas tTac) tTab (.node tTac tTao tTac))) tTak (.node (.node (.node (.node .nil ⟨some true, some 0, some [], [], none, (some (0, 1, false))⟩ .nil) tTab tTac) tTaf (.node tTac tTak tTac)) tTal (.node tTaa tTaf tTaa)))) tTal (.node (.node (.node (.node tTba tTao tTaa) tTax (.node (.node (.node .nil tTab .nil) tTai tTac) tTab tTaa)) tTar (.node (.node (.node tTah tTab tTac) tTab tTaa) tTap (.node tTaa ⟨some true, some 2, some [.v (.int .u16 0), .v (.int .u16 0)], [], none, (some (2, 1, false))⟩ tTaa))) tTam (.node (.node (.node tTaz tTab tTaa) ⟨some false, some 1, some tTbc, [], (some (61, 3, 24, tTbd)), none⟩ (.node (.node tTae tTaj tTac) tTaq tTaa)) tTau (.node (.node (.node tTay ⟨some false, some 1, (some [.v (.tuple #[.pointer none, .int .i64 0])]), [], none, none⟩ tTac) tTaw tTaa) tTab (.node (.node tTac ⟨some false, some 1, (some [.v (.tuple #[.agg #[.int .i64 0, .int .i64 0, .int .i64 0, .int .i64 0, .int .i64 0, .int .i64 0], .bool false])]), [], none, none⟩ tTac) tTab tTaa))))))
theorem Xc [InW] : TabOk Try.prog TT := TabOk.of 8 (by kernel_rfl)
theorem Xa : Try.prog.follows .mixedOrders = true := by kernel_rfl
attribute [local irreducible] Go.Oper.wp
section
variable [W : InW]
def nthQ : List AV -> Nat -> AV
 | [], _ => .junk
 | x :: xs, n => match n with | 0 => x | n + 1 => nthQ xs n
def likeQ : Pt -> AV -> Bool
 | .lit v, x => (match x with | .v u => Yco u v | _ => false)
 | .row _, x => (match x with | .rw _ => true | .sl _ 0 0 _ => true | _ => false)
 | _, _ => true
def Xmb : List (Nat × Pt) -> List AV -> Bool
 | [], _ => true
 | p :: ps, tm => match likeQ p.2 (nthQ tm p.1) with | true => Xmb ps tm | false => false
end
noncomputable def LE.pick {P : Program} (T : List (Nat × Pt)) (a b : LE P) (hg : b.g = a.g) (hk : b.key = a.key) : LE P where
 g := a.g
 key := a.key
 f := fun W tm hp K => match @Xmb W T tm with | true => a.f W tm hp K | false => b.f W tm hp K
 ok := fun W body c h1 h2 h3 tm hp K h => by
  dsimp only at h
  split at h
  ·exact a.ok W body c h1 h2 h3 tm hp K h
  ·exact b.ok W body c (by rw [hg]; exact h1) h2 (by rw [hk]; exact h3) tm hp K h
end Go.Proofs.Ytilnbgpogfabaaa
namespace Go.Proofs.Ytilnbgpogfabaaa
open Go.RowKit
attribute [local irreducible] Go.Oper.wp
section
variable [W : InW]
end
end Go.Proofs.Ytilnbgpogfabaaa
namespace Go.Proofs.Ytilnbgpogfabaaa
open Go.RowKit
set_option maxRecDepth 100000
noncomputable def T0 : Tab Try.prog := ⟨[], [], []⟩
abbrev Xd9 (ds : DS) : DS := match ds with | [[.i n], [.i lo], [.i hi]] => [[.b (Sp.inr n lo hi)]] | _ => []
abbrev Xb7 (ds : DS) : DS := match ds with | [[.i lo], [.i hi], [.l xs]] => [[.b (Sp.out lo hi xs)]] | _ => []
def Xmu [W : InW] (n lo hi : Int) (Q : DS -> Prop) : Prop :=
 Vif (decide (lo <= n)) (Q [[Cl.b (decide (n <= hi))]]) (Q [[Cl.b false]])
theorem vc_in (W : InW) (n lo hi Q) : Yw5 (cxT Try.prog TT T0 1000 50) 1000 44 [.si .i64 n, .si .i64 lo, .si .i64 hi] [] 0 (Y1i [(false, [.bool])] Q) (fun _ _ _ _ => Stuck 421) = Xmu n lo hi Q := by kernel_rfl
abbrev Xf7 : List AT := [.one (.int .i64), .one (.int .i64), .one (.int .i64)]
theorem ok_in {pre : DS -> Prop} {res : DS -> DS} (hyp_ : ∀ (W : InW) (n lo hi : Int), pre [[.i n], [.i lo], [.i hi]] -> ∀ Q : DS -> Prop, Q (res [[.i n], [.i lo], [.i hi]]) -> Xmu n lo hi Q) : PureOk Try.prog 44 Xf7 [(false, [.bool])] pre res :=
 PureOk.of' (fun W => @TT W) (fun W => @Xc W) Xa T0 1000 50 fun W n lo hi hp =>
  (vc_in W n lo hi (fun o => o = res [[.i n], [.i lo], [.i hi]])).mpr (hyp_ W n lo hi hp _ rfl)
theorem okin : PureOk Try.prog 44 Xf7 [(false, [.bool])] (fun _ => True) Xd9 :=
 ok_in fun W n lo hi _ Q h => vif (fun e => by simpa [Xd9, Sp.inr, e] using h) fun e => by simpa [Xd9, Sp.inr, e] using h
noncomputable def Xfa : PC Try.prog := ⟨44, Xf7, [(false, [.bool])], fun _ => True, Xd9, okin⟩
def Xdv [InW] (e : List Ed) (K : Nat -> List Ed -> Prop) : Prop := match e with
 | [.ro _ xs, .i n, .i i, .i lo, .i hi] => Pre (n = xs.xs.length /\ 0 <= i /\ i <= n) (Vif (Sp.outs lo hi xs.xs i.toNat (xs.xs.length - i.toNat)) (K 1 [.i (Sp.outI lo hi xs.xs i.toNat (xs.xs.length - i.toNat)), .i lo, .i hi]) (K 0 [.i lo, .i hi]))
 | _ => False
noncomputable def Xez : LC where
 len := 19
 T := [(0, .rs Jb), (1, (.fn (.func 63) [] [(.ptr 1 0), (.ptr 4 0)])), (7, .int .i64), (8, .int .i64)]
 H := [(1, .blk 3 [.int .i64]), (4, .blk 3 [.int .i64])]
 W := ([4, 5] ++ rg 9 10)
 outs := [⟨.exit 0, [(1, (.fn (.func 63) [] [(.ptr 1 0), (.ptr 4 0)]))], [(1, .blk 3 [.int .i64]), (4, .blk 3 [.int .i64])], ([0, 4, 5] ++ rg 7 12)⟩, ⟨.ret, [(1, (.fn (.func 63) [] [(.ptr 1 0), (.ptr 4 0)])), (4, .int .i64)], [(1, .blk 3 [.int .i64]), (4, .blk 3 [.int .i64])], ([0, 5] ++ rg 7 12)⟩]
 spec := Xdv
def Xc2 [W : InW] (xs : Ro Jb) (n i lo hi : Int) (A : List Ed -> Prop) (K : Nat -> List Ed -> Prop) : Prop :=
 Vif (decide (i < n)) (Need (decide (0 <= i) && decide (i < (↑(xs.xs.length) : Int))) (Need (decide (i.toNat < xs.xs.length)) (Vif (decide ((cel xs.xs i.toNat (0 : Nat)).int < lo)) (K (0+1) [.i i, .i lo, .i hi]) (Vif (decide (hi < (cel xs.xs i.toNat (0 : Nat)).int)) (K (0+1) [.i i, .i lo, .i hi]) (Ar .i64 (i + 1) fun z => A [.ro _ xs, .i n, .i z, .i lo, .i hi]))))) (K 0 [.i lo, .i hi])
theorem Xia (W : InW) (xs n i lo hi A K) : Yff { cxT Try.prog TT T0 1000 50 with fn := 69 } 1000 (Yob Try.prog 69 3) (Yd6 19 [(0, .rs _ xs), (1, .fn (.func 63) [] [.ptr 1 0, .ptr 4 0]), (7, .si .i64 n), (8, .si .i64 i)] ([4, 5] ++ rg 9 10)) [(1, .blk 3 [.si .i64 lo]), (4, .blk 3 [.si .i64 hi])] (Yut Xez A K) = Xc2 xs n i lo hi A K := by kernel_rfl
def Xei : Prop := ∀ (W : InW) (body a : Code), (Try.prog.funcs[69]?).bind (·.body) = some body -> a ∈ Yy body -> Yf0 a = 3 -> @Yms W Try.prog a (@Ytz W Xez)
theorem Xjk (meas : [InW] -> List Ed -> Nat) (hyp_ : ∀ (W : InW) xs n i lo hi K, Xdv [.ro _ xs, .i n, .i i, .i lo, .i hi] K -> ∀ A : List Ed -> Prop, (∀ e, meas e < meas [.ro _ xs, .i n, .i i, .i lo, .i hi] -> Xdv e K -> A e) -> Xc2 xs n i lo hi A K) : Xei :=
 LE.okOf' (fun W => @TT W) (fun W => @Xc W) Xa T0 1000 50 (by kernel_rfl) Xez (fun W => @meas W) fun W xs n i lo hi K hs =>
  (Xia W xs n i lo hi (fun e => meas e < meas [.ro _ xs, .i n, .i i, .i lo, .i hi] /\ Xdv e K) K).mpr (hyp_ W xs n i lo hi K hs _ fun e h1 h2 => ⟨h1, h2⟩)
theorem Xlx : Xei := Xjk (fun e => match e with | .ro _ xs :: .i n :: .i i :: _ => (n - i).toNat | _ => 0) fun W xs n i lo hi K hs A hA => by
 obtain ⟨⟨rfl, h0, h1⟩, hk⟩ := hs;unfold Xc2;have hm := xs.len;simp only [maxLen] at hm;refine vifd (fun e => ?_) fun e => ?_
 ·rw [show xs.xs.length - i.toNat = (xs.xs.length - (i.toNat + 1)) + 1 by omega] at hk;have hc : (cel xs.xs i.toNat 0).int < lo \/ hi < (cel xs.xs i.toNat 0).int -> K 1 [.i i, .i lo, .i hi] := fun h => by
   have hf : Sp.inr (cel xs.xs i.toNat 0).int lo hi = false := by simp only [Sp.inr, Bool.and_eq_false_iff, decide_eq_false_iff_not]; omega
   have := hk.1 (by simp [Sp.outs, hf]);unfold Sp.outI at this;rw [if_neg (by simp [hf]), Int.toNat_of_nonneg h0] at this;exact this
  refine ned (by simp; omega) (nedd (by omega) (vifd (fun e2 => hc (.inl e2)) fun e2 => vifd (fun e3 => hc (.inr e3)) fun e3 => ar64 (by omega) (hA _ ?_ ?_)))
  ·show ((xs.xs.length : Int) - (i + 1)).toNat < ((xs.xs.length : Int) - i).toNat
   omega
  ·have hf : Sp.inr (cel xs.xs i.toNat 0).int lo hi = true := by simp only [Sp.inr, Bool.and_eq_true, decide_eq_true_eq]; omega
   refine ⟨⟨rfl, by omega, by omega⟩, ?_⟩;rw [show (i + 1).toNat = i.toNat + 1 by omega];simp only [Sp.outs, hf, Bool.not_true, Bool.false_or, Sp.outI, if_true] at hk;exact hk
 ·rw [show xs.xs.length - i.toNat = 0 by omega] at hk;exact hk.2 rfl
noncomputable def Xmj : LE Try.prog := ⟨69, 3, fun W => @Ytz W Xez, Xlx⟩
noncomputable def T1 : Tab Try.prog := ⟨[], [Xmj], []⟩
def Xge [W : InW] (lo hi : Int) (xs : Ro Jb) (Q : DS -> Prop) : Prop :=
 Pre ((↑(xs.xs.length) : Int) = (↑(xs.xs.length) : Int) /\ (0 : Int) <= 0 /\ (0 : Int) <= (↑(xs.xs.length) : Int)) (Vif (Sp.outs lo hi xs.xs (Int.toNat (0 : Int)) (xs.xs.length - Int.toNat (0 : Int))) (Q [[Cl.b (decide ((0 : Int) <= (↑(Sp.outI lo hi xs.xs (Int.toNat (0 : Int)) (xs.xs.length - Int.toNat (0 : Int))) : Int)))]]) (Q [[Cl.b false]]))
theorem Xku (W : InW) (lo hi xs Q) : Yw5 (cxT Try.prog TT T1 1000 50) 1000 43 [.si .i64 lo, .si .i64 hi, .rs _ xs] [] 0 (Y1i [(false, [.bool])] Q) (fun _ _ _ _ => Stuck 421) = Xge lo hi xs Q := by kernel_rfl
abbrev Xcj : List AT := [.one (.int .i64), .one (.int .i64), .one (.sl Jb)]
theorem Xlm {pre : DS -> Prop} {res : DS -> DS} (hyp_ : ∀ (W : InW) (lo hi : Int) (xs : Ro Jb), pre [[.i lo], [.i hi], [.l xs.xs]] -> ∀ Q : DS -> Prop, Q (res [[.i lo], [.i hi], [.l xs.xs]]) -> Xge lo hi xs Q) : PureOk Try.prog 43 Xcj [(false, [.bool])] pre res :=
 PureOk.of' (fun W => @TT W) (fun W => @Xc W) Xa T1 1000 50 fun W lo hi xs hp =>
  (Xku W lo hi xs (fun o => o = res [[.i lo], [.i hi], [.l xs.xs]])).mpr (hyp_ W lo hi xs hp _ rfl)
theorem okout : PureOk Try.prog 43 Xcj [(false, [.bool])] (fun _ => True) Xb7 :=
 Xlm fun W lo hi xs _ Q h => by
  unfold Xge;simp only [Xb7, Sp.out] at h;rw [show Int.toNat 0 = 0 from rfl, Nat.sub_zero];refine ⟨⟨rfl, by omega, by omega⟩, vif (fun e => ?_) fun e => ?_⟩
  ·rw [e] at h;rw [decide_eq_true (by omega)];exact h
  ·rw [e] at h;exact h
noncomputable def Xi : PC Try.prog := ⟨43, Xcj, [(false, [.bool])], fun _ => True, Xb7, okout⟩
set_option maxHeartbeats 1600000
abbrev tyQ : List Ty := [.int .i64, .int .i64, .int .i64]
namespace Sp
def qPart (qs : Dt) (i : Nat) : Int := (cel qs i 0).int
def qAsk (qs : Dt) (i : Nat) : Int := (cel qs i 1).int
def qBad (qs : Dt) (i : Nat) : Int := (cel qs i 2).int
def qErr (np : Nat) (qs : Dt) (i : Nat) : Int :=
 if inr (qPart qs i) 0 ((np : Int) - 1) then (if inr (qAsk qs i) 0 100000 then (if inr (qBad qs i) 0 (qAsk qs i) then 0 else 7) else 7) else 4
def many (qs : Dt) (p : Int) : Nat -> Int
 | 0 => 0
 | n + 1 => many qs p n + (if qPart qs n = p then 1 else 0)
def wErr (qs ws : Dt) (p : Nat) : Int := if inr (cel ws p 0).int 1 (many qs p qs.length) then 0 else 7
def chk (qs ws : Dt) (lo hi : Int) : Int × Int × Int :=
  if inr qs.length 1 16 && inr ws.length 1 4 then
    (if inr lo 0 16000 && inr hi 0 16000 then
      (if hi < lo then (1, 0, 2)
       else if hasE (qErr ws.length qs) 0 qs.length then (2, idxE (qErr ws.length qs) 0 qs.length, qErr ws.length qs (idxE (qErr ws.length qs) 0 qs.length))
       else if hasE (wErr qs ws) 0 ws.length then (3, idxE (wErr qs ws) 0 ws.length, wErr qs ws (idxE (wErr qs ws) 0 ws.length))
       else (0, 0, 0))
     else (1, 0, 7))
  else (1, 0, 3)
def chkP (qs ws : Dt) (lo hi : Int) : Int := (chk qs ws lo hi).1
def chkI (qs ws : Dt) (lo hi : Int) : Int := (chk qs ws lo hi).2.1
def chkE (qs ws : Dt) (lo hi : Int) : Int := (chk qs ws lo hi).2.2
structure MOk (qs : Dt) (np n : Nat) (ms : Dt) : Prop where
 len : ms.length = np
 ok : ∀ p, p < np -> (cel ms p 0).int = many qs p n
inductive FaM (P : Dt -> Prop) (K : Dt -> Prop) : Prop where
 | mk (h : ∀ xs, P xs -> K xs)
theorem many_bound (qs : Dt) (p : Int) : ∀ n, 0 <= many qs p n /\ many qs p n <= n
 | 0 => by simp [many]
 | n + 1 => by have := many_bound qs p n; rw [many]; split <;> omega
theorem many_succ (qs : Dt) (p : Int) (n : Nat) : many qs p (n + 1) = many qs p n + (if (cel qs n 0).int = p then 1 else 0) := rfl
theorem cel_setS {l : Dt} {j k : Nat} {c : List Cl} (h : j < l.length) : cel (l.set j c) j k = c.getD k .z := by
 unfold cel; rw [List.getD_eq_getElem?_getD (l := l.set j c), List.getElem?_set_self h]; rfl
theorem cel_setN {l : Dt} {j m k : Nat} {c : List Cl} (h : j ≠ m) : cel (l.set j c) m k = cel l m k := by
 unfold cel; rw [List.getD_eq_getElem?_getD (l := l.set j c), List.getElem?_set_ne h, <- List.getD_eq_getElem?_getD]
theorem MOk.step {qs : Dt} {np n : Nat} {ms : Dt} (h : MOk qs np n ms) {p : Int} (hp : (cel qs n 0).int = p) (h0 : 0 <= p) (h1 : p < np) : MOk qs np (n + 1) (ms.set p.toNat [.i ((cel ms p.toNat 0).int + 1)]) := by
 have hl := h.len;refine ⟨by rw [List.length_set, hl], fun k hk => ?_⟩;rw [many_succ, hp]
 by_cases hk2 : p.toNat = k
 ·subst hk2;rw [cel_setS (by omega), if_pos (by omega), <- h.ok _ hk];rfl
 ·rw [cel_setN hk2, if_neg (by omega), h.ok k hk]; omega
theorem MOk.zero {qs : Dt} {np : Nat} : MOk qs np 0 (List.replicate np [.i 0]) := by
 refine ⟨by simp, fun p hp => ?_⟩;simp [cel, hp, many, Cl.int, List.getD_eq_getElem?_getD]
end Sp
theorem Xbf (np : Nat) (qs : Dt) (i : Nat) : Sp.qErr np qs i = if Sp.inr (cel qs i 0).int 0 ((np : Int) - 1) then (if Sp.inr (cel qs i 1).int 0 100000 then (if Sp.inr (cel qs i 2).int 0 (cel qs i 1).int then 0 else 7) else 7) else 4 := rfl
theorem Xdl (qs ws : Dt) (i : Nat) : Sp.wErr qs ws i = if Sp.inr (cel ws i 0).int 1 (Sp.many qs i qs.length) then 0 else 7 := rfl
abbrev Xl (ds : DS) : DS := match ds with | [[.l qs, .l ws, .i lo, .i hi]] => [[.i (Sp.chkP qs ws lo hi)], [.i (Sp.chkI qs ws lo hi)], [.i (Sp.chkE qs ws lo hi)]] | _ => []
noncomputable def T2 : Tab Try.prog := ⟨[Xfa, Xi], [], []⟩
def Xdp [InW] (e : List Ed) (K : Nat -> List Ed -> Prop) : Prop := match e with
 | [.i i, .ro _ qs, .ro _ ws, .i lo, .i hi, .l ms] => Pre (0 <= i /\ i <= qs.xs.length /\ Sp.MOk qs.xs ws.xs.length i.toNat ms) (Vif (Sp.hasE (Sp.qErr ws.xs.length qs.xs) i.toNat (qs.xs.length - i.toNat))
   (K 1 [.i (Sp.idxE (Sp.qErr ws.xs.length qs.xs) i.toNat (qs.xs.length - i.toNat)), .i (Sp.qErr ws.xs.length qs.xs (Sp.idxE (Sp.qErr ws.xs.length qs.xs) i.toNat (qs.xs.length - i.toNat)))])
   (Sp.FaM (Sp.MOk qs.xs ws.xs.length qs.xs.length) fun ms => K 0 [.ro _ qs, .ro _ ws, .i lo, .i hi, .l ms]))
 | _ => False
noncomputable def Xet : LC where
 len := 103
 T := [(1, (.ptr 1 0)), (5, (.row 13)), (6, .int .i64)]
 H := [(1, .blk 27 [.rs tyQ, .rs Jb, .int .i64, .int .i64]), (13, .arr 3 Jb)]
 W := ([2, 3, 4, 7] ++ rg 44 41)
 outs := [⟨.exit 0, [(1, (.ptr 1 0)), (5, (.row 13))], [(1, .blk 27 [.rs tyQ, .rs Jb, .int .i64, .int .i64]), (13, .arr 3 Jb)], ([2, 3, 4, 6, 7] ++ rg 44 41)⟩, ⟨.ret, [(2, (.lit (.int .i64 2))), (3, .int .i64), (4, .int .i64)], [], ([1, 5, 6, 7] ++ rg 44 41)⟩]
 spec := Xdp
def Za [W : InW] (i : Int) (qs : Ro tyQ) := cel qs.xs i.toNat (0 : Nat)
def Xcw [W : InW] (i : Int) (qs : Ro tyQ) (ws : Ro Jb) (lo hi : Int) (ms : Dt) (A : List Ed -> Prop) (K : Nat -> List Ed -> Prop) : Prop :=
 Vif (decide (i < (↑(qs.xs.length) : Int))) (Need (decide (0 <= i) && decide (i < (↑(qs.xs.length) : Int))) (Need (decide (i.toNat < qs.xs.length)) (Ar .i64 ((↑(ws.xs.length) : Int) - 1) fun z => Pre True (Vif (!Sp.inr (Za i qs).int (0 : Int) z) (K (0+1) [.i i, .i (4 : Int)]) (Pre True (Vif (!Sp.inr (cel qs.xs i.toNat (0+1)).int (0 : Int) (100000 : Int)) (K (0+1) [.i i, .i (7 : Int)]) (Pre True (Vif (!Sp.inr (cel qs.xs i.toNat ((0 : Nat) + 1 + 1)).int (0 : Int) (cel qs.xs i.toNat (0+1)).int) (K (0+1) [.i i, .i (7 : Int)]) (Need (decide ((0 : Int) <= (Za i qs).int) && decide ((Za i qs).int < (↑(ms.length) : Int))) (Need (decide ((Za i qs).int.toNat < ms.length)) (Ar .i64 ((cel ms (Za i qs).int.toNat (0 : Nat)).int + 1) fun z => Need (decide ((0 : Int) <= (Za i qs).int) && decide ((Za i qs).int < (↑(ms.length) : Int))) (Need (decide ((Za i qs).int.toNat < ms.length)) (Ar .i64 (i + 1) fun z_1 => A [.i z_1, .ro _ qs, .ro _ ws, .i lo, .i hi, .l (List.set ms (Za i qs).int.toNat [Cl.i z])]))))))))))))) (K 0 [.ro _ qs, .ro _ ws, .i lo, .i hi, .l ms])
theorem Xh4 (W : InW) (i qs ws lo hi ms A K) : Yff { cxT Try.prog TT T2 1000 50 with fn := 17 } 1000 (Yob Try.prog 17 10) (Yd6 103 [(1, .ptr 1 0), (5, .rw 13), (6, .si .i64 i)] ([2, 3, 4, 7] ++ rg 44 41)) [(1, .blk 27 [.rs _ qs, .rs _ ws, .si .i64 lo, .si .i64 hi]), (13, .arr 3 Jb ms)] (Yut Xet A K) = Xcw i qs ws lo hi ms A K := by kernel_rfl
def Xec : Prop := ∀ (W : InW) (body a : Code), (Try.prog.funcs[17]?).bind (·.body) = some body -> a ∈ Yy body -> Yf0 a = 10 -> @Yms W Try.prog a (@Ytz W Xet)
theorem Xje (meas : [InW] -> List Ed -> Nat) (hyp_ : ∀ (W : InW) i qs ws lo hi ms K, Xdp [.i i, .ro _ qs, .ro _ ws, .i lo, .i hi, .l ms] K -> ∀ A : List Ed -> Prop, (∀ e, meas e < meas [.i i, .ro _ qs, .ro _ ws, .i lo, .i hi, .l ms] -> Xdp e K -> A e) -> Xcw i qs ws lo hi ms A K) : Xec :=
 LE.okOf' (fun W => @TT W) (fun W => @Xc W) Xa T2 1000 50 (by kernel_rfl) Xet (fun W => @meas W) fun W i qs ws lo hi ms K hs =>
  (Xh4 W i qs ws lo hi ms (fun e => meas e < meas [.i i, .ro _ qs, .ro _ ws, .i lo, .i hi, .l ms] /\ Xdp e K) K).mpr (hyp_ W i qs ws lo hi ms K hs _ fun e h1 h2 => ⟨h1, h2⟩)
def Xdq [InW] (e : List Ed) (K : Nat -> List Ed -> Prop) : Prop := match e with
 | [.i i, .ro _ qs, .ro _ ws, .i lo, .i hi, .l ms] => Pre (0 <= i /\ i <= ws.xs.length /\ Sp.MOk qs.xs ws.xs.length qs.xs.length ms) (Vif (Sp.hasE (Sp.wErr qs.xs ws.xs) i.toNat (ws.xs.length - i.toNat))
   (K 1 [.i (Sp.idxE (Sp.wErr qs.xs ws.xs) i.toNat (ws.xs.length - i.toNat)), .i (Sp.wErr qs.xs ws.xs (Sp.idxE (Sp.wErr qs.xs ws.xs) i.toNat (ws.xs.length - i.toNat)))]) (K 0 [.ro _ qs, .ro _ ws, .i lo, .i hi]))
 | _ => False
noncomputable def Xeu : LC where
 len := 103
 T := [(1, (.ptr 1 0)), (5, (.row 13)), (8, .int .i64)]
 H := [(1, .blk 27 [.rs tyQ, .rs Jb, .int .i64, .int .i64]), (13, .arr 3 Jb)]
 W := ([2, 3, 4] ++ rg 85 18)
 outs := [⟨.exit 2, [(1, (.ptr 1 0))], [(1, .blk 27 [.rs tyQ, .rs Jb, .int .i64, .int .i64])], (rg 2 4 ++ [8] ++ rg 85 18)⟩, ⟨.ret, [(2, (.lit (.int .i64 3))), (3, .int .i64), (4, .int .i64)], [], ([1, 5, 8] ++ rg 85 18)⟩]
 spec := Xdq
def Xcx [W : InW] (i : Int) (qs : Ro tyQ) (ws : Ro Jb) (lo hi : Int) (ms : Dt) (A : List Ed -> Prop) (K : Nat -> List Ed -> Prop) : Prop :=
 Vif (decide (i < (↑(ms.length) : Int))) (Need (decide (0 <= i) && decide (i < (↑(ws.xs.length) : Int))) (Need (decide (i.toNat < ws.xs.length)) (Need (decide (0 <= i) && decide (i < (↑(ms.length) : Int))) (Need (decide (i.toNat < ms.length)) (Pre True (Vif (!Sp.inr (cel ws.xs i.toNat (0 : Nat)).int (1 : Int) (cel ms i.toNat (0 : Nat)).int) (K (0+1) [.i i, .i (7 : Int)]) (Ar .i64 (i + 1) fun z => A [.i z, .ro _ qs, .ro _ ws, .i lo, .i hi, .l ms]))))))) (K 0 [.ro _ qs, .ro _ ws, .i lo, .i hi])
theorem Xh5 (W : InW) (i qs ws lo hi ms A K) : Yff { cxT Try.prog TT T2 1000 50 with fn := 17 } 1000 (Yob Try.prog 17 19) (Yd6 103 [(1, .ptr 1 0), (5, .rw 13), (8, .si .i64 i)] ([2, 3, 4] ++ rg 85 18)) [(1, .blk 27 [.rs _ qs, .rs _ ws, .si .i64 lo, .si .i64 hi]), (13, .arr 3 Jb ms)] (Yut Xeu A K) = Xcx i qs ws lo hi ms A K := by kernel_rfl
def Xed : Prop := ∀ (W : InW) (body a : Code), (Try.prog.funcs[17]?).bind (·.body) = some body -> a ∈ Yy body -> Yf0 a = 19 -> @Yms W Try.prog a (@Ytz W Xeu)
theorem Xjf (meas : [InW] -> List Ed -> Nat) (hyp_ : ∀ (W : InW) i qs ws lo hi ms K, Xdq [.i i, .ro _ qs, .ro _ ws, .i lo, .i hi, .l ms] K -> ∀ A : List Ed -> Prop, (∀ e, meas e < meas [.i i, .ro _ qs, .ro _ ws, .i lo, .i hi, .l ms] -> Xdq e K -> A e) -> Xcx i qs ws lo hi ms A K) : Xed :=
 LE.okOf' (fun W => @TT W) (fun W => @Xc W) Xa T2 1000 50 (by kernel_rfl) Xeu (fun W => @meas W) fun W i qs ws lo hi ms K hs =>
  (Xh5 W i qs ws lo hi ms (fun e => meas e < meas [.i i, .ro _ qs, .ro _ ws, .i lo, .i hi, .l ms] /\ Xdq e K) K).mpr (hyp_ W i qs ws lo hi ms K hs _ fun e h1 h2 => ⟨h1, h2⟩)
def Xds [InW] (e : List Ed) (K : Nat -> List Ed -> Prop) : Prop := match e with
 | [.i np, .ro _ q2, .i n, .i i, .ro _ qs, .ro _ ws, .i lo, .i hi, .i a, .i b, .i c, .i d] => Pre (np = ws.xs.length /\ ws.xs.length <= 4 /\ 0 <= i /\ i <= qs.xs.length /\ n = qs.xs.length /\ q2.xs = qs.xs /\ a = Sp.many qs.xs 0 i.toNat /\ b = Sp.many qs.xs 1 i.toNat /\ c = Sp.many qs.xs 2 i.toNat /\ d = Sp.many qs.xs 3 i.toNat) (Vif (Sp.hasE (Sp.qErr ws.xs.length qs.xs) i.toNat (qs.xs.length - i.toNat))
   (K 1 [.i (Sp.idxE (Sp.qErr ws.xs.length qs.xs) i.toNat (qs.xs.length - i.toNat)), .i (Sp.qErr ws.xs.length qs.xs (Sp.idxE (Sp.qErr ws.xs.length qs.xs) i.toNat (qs.xs.length - i.toNat)))])
   (K 0 [.ro _ qs, .ro _ ws, .i lo, .i hi, .i (Sp.many qs.xs 0 qs.xs.length), .i (Sp.many qs.xs 1 qs.xs.length), .i (Sp.many qs.xs 2 qs.xs.length), .i (Sp.many qs.xs 3 qs.xs.length)]))
 | _ => False
noncomputable def Xew : LC where
 len := 95
 T := [(1, (.ptr 1 0)), (5, .int .i64), (6, (.ptr 19 0)), (43, .rs tyQ), (44, .int .i64), (45, .int .i64)]
 H := [(1, .blk 27 [.rs tyQ, .rs Jb, .int .i64, .int .i64]), (19, .blk 75 [.int .i64, .int .i64, .int .i64, .int .i64])]
 W := ([2, 3, 4, 7, 8] ++ rg 46 33)
 outs := [⟨.exit 1, [(1, (.ptr 1 0)), (6, (.ptr 19 0))], [(1, .blk 27 [.rs tyQ, .rs Jb, .int .i64, .int .i64]), (19, .blk 75 [.int .i64, .int .i64, .int .i64, .int .i64])], (rg 2 4 ++ [7, 8] ++ rg 43 36)⟩, ⟨.ret, [(2, (.lit (.int .i64 2))), (3, .int .i64), (4, .int .i64)], [], ([1] ++ rg 5 4 ++ rg 43 36)⟩]
 spec := Xds
def Zc [W : InW] (q2 : Ro tyQ) (i : Int) := cel q2.xs i.toNat (0 : Nat)
def Zb [W : InW] (q2 : Ro tyQ) (i : Int) := decide ((0 : Int) <= (Zc q2 i).int) && decide ((Zc q2 i).int < (↑(4 : Nat) : Int))
def Zd [W : InW] (q2 : Ro tyQ) (i : Int) := decide ((Zc q2 i).int = (↑(0 : Nat) : Int))
def Ze [W : InW] (q2 : Ro tyQ) (i : Int) := decide ((Zc q2 i).int = (↑(0+1) : Int))
def Zf [W : InW] (q2 : Ro tyQ) (i : Int) := decide ((Zc q2 i).int = (↑(1+1) : Int))
def Xcz [W : InW] (np : Int) (q2 : Ro tyQ) (n i : Int) (qs : Ro tyQ) (ws : Ro Jb) (lo hi a b c d : Int) (A : List Ed -> Prop) (K : Nat -> List Ed -> Prop) : Prop :=
 Vif (decide (i < n)) (Need (decide (0 <= i) && decide (i < (↑(q2.xs.length) : Int))) (Need (decide (i.toNat < q2.xs.length)) (Ar .i64 (np - 1) fun z => Pre True (Vif (Sp.out (0 : Int) z [[Cl.i (Zc q2 i).int]]) (K (0+1) [.i i, .i (4 : Int)]) (Pre True (Vif (Sp.out (0 : Int) (100000 : Int) [[Cl.i (cel q2.xs i.toNat (0+1)).int]]) (K (0+1) [.i i, .i (7 : Int)]) (Pre True (Vif (Sp.out (0 : Int) (cel q2.xs i.toNat (0+1)).int [[Cl.i (cel q2.xs i.toNat ((0 : Nat) + 1 + 1)).int]]) (K (0+1) [.i i, .i (7 : Int)]) (Need (Zb q2 i) (Vif (Zd q2 i) (Ar .i64 (a + 1) fun z => Need (Zb q2 i) (Vif (Zd q2 i) (Ar .i64 (i + 1) fun z_1 => A [.i np, .ro _ q2, .i n, .i z_1, .ro _ qs, .ro _ ws, .i lo, .i hi, .i z, .i b, .i c, .i d]) (Vif (Ze q2 i) (Ar .i64 (i + 1) fun z_1 => A [.i np, .ro _ q2, .i n, .i z_1, .ro _ qs, .ro _ ws, .i lo, .i hi, .i a, .i z, .i c, .i d]) (Vif (Zf q2 i) (Ar .i64 (i + 1) fun z_1 => A [.i np, .ro _ q2, .i n, .i z_1, .ro _ qs, .ro _ ws, .i lo, .i hi, .i a, .i b, .i z, .i d]) (Ar .i64 (i + 1) fun z_1 => A [.i np, .ro _ q2, .i n, .i z_1, .ro _ qs, .ro _ ws, .i lo, .i hi, .i a, .i b, .i c, .i z]))))) (Vif (Ze q2 i) (Ar .i64 (b + 1) fun z => Need (Zb q2 i) (Vif (Zd q2 i) (Ar .i64 (i + 1) fun z_1 => A [.i np, .ro _ q2, .i n, .i z_1, .ro _ qs, .ro _ ws, .i lo, .i hi, .i z, .i b, .i c, .i d]) (Vif (Ze q2 i) (Ar .i64 (i + 1) fun z_1 => A [.i np, .ro _ q2, .i n, .i z_1, .ro _ qs, .ro _ ws, .i lo, .i hi, .i a, .i z, .i c, .i d]) (Vif (Zf q2 i) (Ar .i64 (i + 1) fun z_1 => A [.i np, .ro _ q2, .i n, .i z_1, .ro _ qs, .ro _ ws, .i lo, .i hi, .i a, .i b, .i z, .i d]) (Ar .i64 (i + 1) fun z_1 => A [.i np, .ro _ q2, .i n, .i z_1, .ro _ qs, .ro _ ws, .i lo, .i hi, .i a, .i b, .i c, .i z]))))) (Vif (Zf q2 i) (Ar .i64 (c + 1) fun z => Need (Zb q2 i) (Vif (Zd q2 i) (Ar .i64 (i + 1) fun z_1 => A [.i np, .ro _ q2, .i n, .i z_1, .ro _ qs, .ro _ ws, .i lo, .i hi, .i z, .i b, .i c, .i d]) (Vif (Ze q2 i) (Ar .i64 (i + 1) fun z_1 => A [.i np, .ro _ q2, .i n, .i z_1, .ro _ qs, .ro _ ws, .i lo, .i hi, .i a, .i z, .i c, .i d]) (Vif (Zf q2 i) (Ar .i64 (i + 1) fun z_1 => A [.i np, .ro _ q2, .i n, .i z_1, .ro _ qs, .ro _ ws, .i lo, .i hi, .i a, .i b, .i z, .i d]) (Ar .i64 (i + 1) fun z_1 => A [.i np, .ro _ q2, .i n, .i z_1, .ro _ qs, .ro _ ws, .i lo, .i hi, .i a, .i b, .i c, .i z]))))) (Ar .i64 (d + 1) fun z => Need (Zb q2 i) (Vif (Zd q2 i) (Ar .i64 (i + 1) fun z_1 => A [.i np, .ro _ q2, .i n, .i z_1, .ro _ qs, .ro _ ws, .i lo, .i hi, .i z, .i b, .i c, .i d]) (Vif (Ze q2 i) (Ar .i64 (i + 1) fun z_1 => A [.i np, .ro _ q2, .i n, .i z_1, .ro _ qs, .ro _ ws, .i lo, .i hi, .i a, .i z, .i c, .i d]) (Vif (Zf q2 i) (Ar .i64 (i + 1) fun z_1 => A [.i np, .ro _ q2, .i n, .i z_1, .ro _ qs, .ro _ ws, .i lo, .i hi, .i a, .i b, .i z, .i d]) (Ar .i64 (i + 1) fun z_1 => A [.i np, .ro _ q2, .i n, .i z_1, .ro _ qs, .ro _ ws, .i lo, .i hi, .i a, .i b, .i c, .i z]))))))))))))))))) (K 0 [.ro _ qs, .ro _ ws, .i lo, .i hi, .i a, .i b, .i c, .i d])
theorem Xh7 (W : InW) (np q2 n i qs ws lo hi a b c d A K) : Yff { cxT Try.prog TT T2 1000 50 with fn := 16 } 1000 (Yob Try.prog 16 11) (Yd6 95 [(1, .ptr 1 0), (5, .si .i64 np), (6, .ptr 19 0), (43, .rs _ q2), (44, .si .i64 n), (45, .si .i64 i)] ([2, 3, 4, 7, 8] ++ rg 46 33)) [(1, .blk 27 [.rs _ qs, .rs _ ws, .si .i64 lo, .si .i64 hi]), (19, .blk 75 [.si .i64 a, .si .i64 b, .si .i64 c, .si .i64 d])] (Yut Xew A K) = Xcz np q2 n i qs ws lo hi a b c d A K := by kernel_rfl
def Xef : Prop := ∀ (W : InW) (body a : Code), (Try.prog.funcs[16]?).bind (·.body) = some body -> a ∈ Yy body -> Yf0 a = 11 -> @Yms W Try.prog a (@Ytz W Xew)
theorem Xjh (meas : [InW] -> List Ed -> Nat) (hyp_ : ∀ (W : InW) np q2 n i qs ws lo hi a b c d K, Xds [.i np, .ro _ q2, .i n, .i i, .ro _ qs, .ro _ ws, .i lo, .i hi, .i a, .i b, .i c, .i d] K -> ∀ A : List Ed -> Prop, (∀ e, meas e < meas [.i np, .ro _ q2, .i n, .i i, .ro _ qs, .ro _ ws, .i lo, .i hi, .i a, .i b, .i c, .i d] -> Xds e K -> A e) -> Xcz np q2 n i qs ws lo hi a b c d A K) : Xef :=
 LE.okOf' (fun W => @TT W) (fun W => @Xc W) Xa T2 1000 50 (by kernel_rfl) Xew (fun W => @meas W) fun W np q2 n i qs ws lo hi a b c d K hs =>
  (Xh7 W np q2 n i qs ws lo hi a b c d (fun e => meas e < meas [.i np, .ro _ q2, .i n, .i i, .ro _ qs, .ro _ ws, .i lo, .i hi, .i a, .i b, .i c, .i d] /\ Xds e K) K).mpr (hyp_ W np q2 n i qs ws lo hi a b c d K hs _ fun e h1 h2 => ⟨h1, h2⟩)
def Xdt [InW] (e : List Ed) (K : Nat -> List Ed -> Prop) : Prop := match e with
 | [.ro _ w2, .i n, .i i, .ro _ qs, .ro _ ws, .i lo, .i hi, .i a, .i b, .i c, .i d] => Pre (0 <= i /\ i <= ws.xs.length /\ ws.xs.length <= 4 /\ n = ws.xs.length /\ w2.xs = ws.xs /\ a = Sp.many qs.xs 0 qs.xs.length /\ b = Sp.many qs.xs 1 qs.xs.length /\ c = Sp.many qs.xs 2 qs.xs.length /\ d = Sp.many qs.xs 3 qs.xs.length) (Vif (Sp.hasE (Sp.wErr qs.xs ws.xs) i.toNat (ws.xs.length - i.toNat))
   (K 1 [.i (Sp.idxE (Sp.wErr qs.xs ws.xs) i.toNat (ws.xs.length - i.toNat)), .i (Sp.wErr qs.xs ws.xs (Sp.idxE (Sp.wErr qs.xs ws.xs) i.toNat (ws.xs.length - i.toNat)))]) (K 0 [.ro _ qs, .ro _ ws, .i lo, .i hi]))
 | _ => False
noncomputable def Xex : LC where
 len := 95
 T := [(1, (.ptr 1 0)), (6, (.ptr 19 0)), (80, .rs Jb), (81, .int .i64), (82, .int .i64)]
 H := [(1, .blk 27 [.rs tyQ, .rs Jb, .int .i64, .int .i64]), (19, .blk 75 [.int .i64, .int .i64, .int .i64, .int .i64])]
 W := ([2, 3, 4, 9, 10] ++ rg 83 12)
 outs := [⟨.exit 4, [(1, (.ptr 1 0))], [(1, .blk 27 [.rs tyQ, .rs Jb, .int .i64, .int .i64])], ([2, 3, 4, 6, 9, 10] ++ rg 80 15)⟩, ⟨.ret, [(2, (.lit (.int .i64 3))), (3, .int .i64), (4, .int .i64)], [], ([1, 6, 9, 10] ++ rg 80 15)⟩]
 spec := Xdt
def Zh [W : InW] (w2 : Ro Jb) (i : Int) := [[Cl.i (cel w2.xs i.toNat (0 : Nat)).int]]
def Zg [W : InW] (w2 : Ro Jb) (n i : Int) (qs : Ro tyQ) (ws : Ro Jb) (lo hi a b c d : Int) (A : List Ed -> Prop) := Ar .i64 (i + 1) fun z => A [.ro _ w2, .i n, .i z, .ro _ qs, .ro _ ws, .i lo, .i hi, .i a, .i b, .i c, .i d]
def Xc0 [W : InW] (w2 : Ro Jb) (n i : Int) (qs : Ro tyQ) (ws : Ro Jb) (lo hi a b c d : Int) (A : List Ed -> Prop) (K : Nat -> List Ed -> Prop) : Prop :=
 Vif (decide (i < n)) (Need (decide (0 <= i) && decide (i < (↑(w2.xs.length) : Int))) (Need (decide (i.toNat < w2.xs.length)) (Need (decide (0 <= i) && decide (i < (↑(4 : Nat) : Int))) (Vif (decide (i = (↑(0 : Nat) : Int))) (Pre True (Vif (Sp.out (1 : Int) a (Zh w2 i)) (K (0+1) [.i i, .i (7 : Int)]) (Zg w2 n i qs ws lo hi a b c d A))) (Vif (decide (i = (↑(0+1) : Int))) (Pre True (Vif (Sp.out (1 : Int) b (Zh w2 i)) (K (0+1) [.i i, .i (7 : Int)]) (Zg w2 n i qs ws lo hi a b c d A))) (Vif (decide (i = (↑(1+1) : Int))) (Pre True (Vif (Sp.out (1 : Int) c (Zh w2 i)) (K (0+1) [.i i, .i (7 : Int)]) (Zg w2 n i qs ws lo hi a b c d A))) (Pre True (Vif (Sp.out (1 : Int) d (Zh w2 i)) (K (0+1) [.i i, .i (7 : Int)]) (Zg w2 n i qs ws lo hi a b c d A))))))))) (K 0 [.ro _ qs, .ro _ ws, .i lo, .i hi])
theorem Xh8 (W : InW) (w2 n i qs ws lo hi a b c d A K) : Yff { cxT Try.prog TT T2 1000 50 with fn := 16 } 1000 (Yob Try.prog 16 20) (Yd6 95 [(1, .ptr 1 0), (6, .ptr 19 0), (80, .rs _ w2), (81, .si .i64 n), (82, .si .i64 i)] ([2, 3, 4, 9, 10] ++ rg 83 12)) [(1, .blk 27 [.rs _ qs, .rs _ ws, .si .i64 lo, .si .i64 hi]), (19, .blk 75 [.si .i64 a, .si .i64 b, .si .i64 c, .si .i64 d])] (Yut Xex A K) = Xc0 w2 n i qs ws lo hi a b c d A K := by kernel_rfl
def Xeg : Prop := ∀ (W : InW) (body a : Code), (Try.prog.funcs[16]?).bind (·.body) = some body -> a ∈ Yy body -> Yf0 a = 20 -> @Yms W Try.prog a (@Ytz W Xex)
theorem Xji (meas : [InW] -> List Ed -> Nat) (hyp_ : ∀ (W : InW) w2 n i qs ws lo hi a b c d K, Xdt [.ro _ w2, .i n, .i i, .ro _ qs, .ro _ ws, .i lo, .i hi, .i a, .i b, .i c, .i d] K -> ∀ A : List Ed -> Prop, (∀ e, meas e < meas [.ro _ w2, .i n, .i i, .ro _ qs, .ro _ ws, .i lo, .i hi, .i a, .i b, .i c, .i d] -> Xdt e K -> A e) -> Xc0 w2 n i qs ws lo hi a b c d A K) : Xeg :=
 LE.okOf' (fun W => @TT W) (fun W => @Xc W) Xa T2 1000 50 (by kernel_rfl) Xex (fun W => @meas W) fun W w2 n i qs ws lo hi a b c d K hs =>
  (Xh8 W w2 n i qs ws lo hi a b c d (fun e => meas e < meas [.ro _ w2, .i n, .i i, .ro _ qs, .ro _ ws, .i lo, .i hi, .i a, .i b, .i c, .i d] /\ Xdt e K) K).mpr (hyp_ W w2 n i qs ws lo hi a b c d K hs _ fun e h1 h2 => ⟨h1, h2⟩)
theorem Xlr : Xec := Xje (fun e => match e with | .i i :: .ro _ qs :: _ => ((qs.xs.length : Int) - i).toNat | _ => 0) fun W i qs ws lo hi ms K hs A hA => by
 obtain ⟨⟨h0, h1, mo⟩, hk⟩ := hs;unfold Xcw;delta Za;have hm := qs.len;have hm2 := ws.len;simp only [maxLen] at hm hm2;refine vifd (fun e => ?_) fun e => ?_
 ·rw [show qs.xs.length - i.toNat = (qs.xs.length - (i.toNat + 1)) + 1 by omega] at hk;obtain ⟨g1, g2⟩ := Xff (K1 := fun j e => K 1 [.i j, .i e]) hk;rw [Int.toNat_of_nonneg h0] at g1;have ez : (i + 1).toNat = i.toNat + 1 := by omega
  have hA' : Sp.qErr ws.xs.length qs.xs i.toNat = 0 -> ∀ z, z = (cel ms (cel qs.xs i.toNat 0).int.toNat 0).int + 1 -> A [.i (i + 1), .ro _ qs, .ro _ ws, .i lo, .i hi, .l (ms.set (cel qs.xs i.toNat 0).int.toNat [.i z])] := fun f z hz => by
   have hq := f;rw [Xbf] at hq
   split at hq
   ·rename_i hp;have hp := Sp.inr_iff.1 hp;exact hA _ (by show ((qs.xs.length : Int) - (i + 1)).toNat < ((qs.xs.length : Int) - i).toNat; omega) ⟨⟨by omega, by omega, by rw [ez, hz]; exact mo.step rfl hp.1 (by omega)⟩, by rw [ez]; exact g2 f⟩
   ·omega
  have bad : ∀ n, Sp.qErr ws.xs.length qs.xs i.toNat = n -> n ≠ 0 -> K 1 [.i i, .i n] := fun n hn h => by rw [<- hn]; exact g1 (by rw [hn]; exact h)
  have eN := Lib.hid (Xbf ws.xs.length qs.xs i.toNat);have hl := mo.len;have ho := mo.ok;have hb := fun p => Sp.many_bound qs.xs p i.toNat;clear g1 g2 hk hA mo;generalize Sp.qErr ws.xs.length qs.xs i.toNat = E at *;simp only [Nat.zero_add, Nat.reduceAdd]
  by_cases hp : Sp.inr (cel qs.xs i.toNat 0).int 0 ((ws.xs.length : Int) - 1) = true
  ·have i1 := Sp.inr_iff.1 hp;have h2 := ho (cel qs.xs i.toNat 0).int.toNat (by omega);have h3 := hb ((cel qs.xs i.toNat 0).int.toNat : Nat);clear ho hb
   repeat' (first | omega|intro _|with_reducible first|apply vifd|apply vifn|apply vifq|apply X0|apply Xz|apply vifb|apply vif|apply nedd|apply ned2|apply ned|apply ar64|apply Xj|exact True.intro|assumption|rfl|apply And.intro)
   all_goals first | (refine bad _ (by rw [eN.out]; simp_all; done) (by omega)) | (refine hA' (by rw [eN.out]; simp_all; done) _ rfl) | (simp_all; done) | skip
  ·clear ho hb
   repeat' (first | omega|intro _|with_reducible first|apply vifd|apply vifn|apply vifq|apply X0|apply Xz|apply vifb|apply vif|apply nedd|apply ned2|apply ned|apply ar64|apply Xj|exact True.intro|assumption|rfl|apply And.intro)
   all_goals first | (refine bad _ (by rw [eN.out]; simp_all; done) (by omega)) | (simp_all; done) | skip
  all_goals trace_state
 ·rw [show qs.xs.length - i.toNat = 0 by omega] at hk;have e2 : i.toNat = qs.xs.length := by omega
  rw [e2] at mo;obtain ⟨hf⟩ := hk.2 rfl;exact hf _ mo
noncomputable def Xmd : LE Try.prog := ⟨17, 10, fun W => @Ytz W Xet, Xlr⟩
theorem Xls : Xed := Xjf (fun e => match e with | .i i :: _ :: .ro _ ws :: _ => ((ws.xs.length : Int) - i).toNat | _ => 0) fun W i qs ws lo hi ms K hs A hA => by
 obtain ⟨⟨h0, h1, mo⟩, hk⟩ := hs;unfold Xcx;have hm := ws.len;simp only [maxLen] at hm;have hl := mo.len;refine vifd (fun e => ?_) fun e => ?_
 ·rw [show ws.xs.length - i.toNat = (ws.xs.length - (i.toNat + 1)) + 1 by omega] at hk;obtain ⟨g1, g2⟩ := Xff (K1 := fun j e => K 1 [.i j, .i e]) hk;rw [Int.toNat_of_nonneg h0] at g1;have ez : (i + 1).toNat = i.toNat + 1 := by omega
  have hA' : Sp.wErr qs.xs ws.xs i.toNat = 0 -> A [.i (i + 1), .ro _ qs, .ro _ ws, .i lo, .i hi, .l ms] := fun f => hA _ (by show ((ws.xs.length : Int) - (i + 1)).toNat < ((ws.xs.length : Int) - i).toNat; omega) ⟨⟨by omega, by omega, mo⟩, by rw [ez]; exact g2 f⟩;have bad : ∀ n, Sp.wErr qs.xs ws.xs i.toNat = n -> n ≠ 0 -> K 1 [.i i, .i n] := fun n hn h => by rw [<- hn]; exact g1 (by rw [hn]; exact h)
  have eN := Lib.hid (Xdl qs.xs ws.xs i.toNat);have hmo := mo.ok i.toNat (by omega);clear g1 g2 hk hA mo;generalize Sp.wErr qs.xs ws.xs i.toNat = E at *;simp only [Nat.zero_add, Nat.reduceAdd]
  repeat' (first | omega|intro _|with_reducible first|apply vifd|apply vifn|apply vifq|apply X0|apply Xz|apply vifb|apply vif|apply nedd|apply ned2|apply ned|apply ar64|apply Xj|exact True.intro|assumption|rfl|apply And.intro)
  all_goals first | exact bad _ (by rw [eN.out]; simp_all) (by omega) | exact hA' (by rw [eN.out]; simp_all) | skip
  all_goals trace_state
 ·rw [show ws.xs.length - i.toNat = 0 by omega] at hk
  first | exact hk.2 rfl | exact vifd (fun e => absurd e (by omega)) fun _ => hk.2 rfl
noncomputable def Xme : LE Try.prog := ⟨17, 19, fun W => @Ytz W Xeu, Xls⟩
theorem Xlu : Xef := Xjh (fun e => match e with | _ :: _ :: _ :: .i i :: .ro _ qs :: _ => ((qs.xs.length : Int) - i).toNat | _ => 0) fun W np q2 n i qs ws lo hi a b c d K hs A hA => by
 obtain ⟨⟨rfl, h4, h0, h1, rfl, hq, rfl, rfl, rfl, rfl⟩, hk⟩ := hs;unfold Xcz;delta Zf Ze Zd Zb Zc;have hm := qs.len;have hm2 := ws.len;simp only [maxLen] at hm hm2;refine vifd (fun e => ?_) fun e => ?_
 ·rw [show qs.xs.length - i.toNat = (qs.xs.length - (i.toNat + 1)) + 1 by omega] at hk;obtain ⟨g1, g2⟩ := Xff (K1 := fun j e => K 1 [.i j, .i e]) hk;rw [Int.toNat_of_nonneg h0] at g1;have ez : (i + 1).toNat = i.toNat + 1 := by omega
  have hA' : Sp.qErr ws.xs.length qs.xs i.toNat = 0 -> ∀ a b c d, a = Sp.many qs.xs 0 (i.toNat + 1) -> b = Sp.many qs.xs 1 (i.toNat + 1) -> c = Sp.many qs.xs 2 (i.toNat + 1) -> d = Sp.many qs.xs 3 (i.toNat + 1) -> A [.i ws.xs.length, .ro _ q2, .i qs.xs.length, .i (i + 1), .ro _ qs, .ro _ ws, .i lo, .i hi, .i a, .i b, .i c, .i d] := fun f a b c d ea eb ec ed => hA _ (by show ((qs.xs.length : Int) - (i + 1)).toNat < ((qs.xs.length : Int) - i).toNat; omega) ⟨⟨rfl, h4, by omega, by omega, rfl, hq, by rw [ez]; exact ea, by rw [ez]; exact eb, by rw [ez]; exact ec, by rw [ez]; exact ed⟩, by rw [ez]; exact g2 f⟩;have bad : ∀ n, Sp.qErr ws.xs.length qs.xs i.toNat = n -> n ≠ 0 -> K 1 [.i i, .i n] := fun n hn h => by rw [<- hn]; exact g1 (by rw [hn]; exact h)
  have eN := Lib.hid (Xbf ws.xs.length qs.xs i.toNat);simp only [Sp.many_succ] at hA';have b0 := Sp.many_bound qs.xs 0 i.toNat;have b1 := Sp.many_bound qs.xs 1 i.toNat;have b2 := Sp.many_bound qs.xs 2 i.toNat;have b3 := Sp.many_bound qs.xs 3 i.toNat;clear g1 g2 hk hA;generalize Sp.qErr ws.xs.length qs.xs i.toNat = E at *;generalize Sp.many qs.xs 0 i.toNat = m0 at *;generalize Sp.many qs.xs 1 i.toNat = m1 at *;generalize Sp.many qs.xs 2 i.toNat = m2 at *;generalize Sp.many qs.xs 3 i.toNat = m3 at *;have hl2 : q2.xs.length = qs.xs.length := by rw [hq]
  simp only [Nat.zero_add, Nat.reduceAdd, out1, hq]
  by_cases hp : Sp.inr (cel qs.xs i.toNat 0).int 0 ((ws.xs.length : Int) - 1) = true
  ·have i1 := Sp.inr_iff.1 hp
   repeat' (first | omega|intro _|with_reducible first|apply vifd|apply vifn|apply vifq|apply X0|apply Xz|apply vifb|apply vif|apply nedd|apply ned2|apply ned|apply ar64|apply Xj|exact True.intro|assumption|rfl|apply And.intro)
   all_goals first | (refine bad _ (by rw [eN.out]; simp_all; done) (by omega)) | (refine hA' (by rw [eN.out]; simp_all; done) _ _ _ _ ?_ ?_ ?_ ?_ <;> split <;> omega) | (simp_all; done) | skip
  ·repeat' (first | omega|intro _|with_reducible first|apply vifd|apply vifn|apply vifq|apply X0|apply Xz|apply vifb|apply vif|apply nedd|apply ned2|apply ned|apply ar64|apply Xj|exact True.intro|assumption|rfl|apply And.intro)
   all_goals first | (refine bad _ (by rw [eN.out]; simp_all; done) (by omega)) | (simp_all; done) | skip
  all_goals trace_state
 ·rw [show qs.xs.length - i.toNat = 0 by omega] at hk;have e2 : i.toNat = qs.xs.length := by omega
  rw [e2];exact hk.2 rfl
noncomputable def Xmg : LE Try.prog := ⟨16, 11, fun W => @Ytz W Xew, Xlu⟩
theorem Xlv : Xeg := Xji (fun e => match e with | _ :: _ :: .i i :: _ :: .ro _ ws :: _ => ((ws.xs.length : Int) - i).toNat | _ => 0) fun W w2 n i qs ws lo hi a b c d K hs A hA => by
 obtain ⟨⟨h0, h1, h4, rfl, hq, rfl, rfl, rfl, rfl⟩, hk⟩ := hs;unfold Xc0;delta Zg Zh;have hm := ws.len;simp only [maxLen] at hm;refine vifd (fun e => ?_) fun e => ?_
 ·rw [show ws.xs.length - i.toNat = (ws.xs.length - (i.toNat + 1)) + 1 by omega] at hk;obtain ⟨g1, g2⟩ := Xff (K1 := fun j e => K 1 [.i j, .i e]) hk;rw [Int.toNat_of_nonneg h0] at g1;have ez : (i + 1).toNat = i.toNat + 1 := by omega
  have hA' : Sp.wErr qs.xs ws.xs i.toNat = 0 -> A [.ro _ w2, .i ws.xs.length, .i (i + 1), .ro _ qs, .ro _ ws, .i lo, .i hi, .i (Sp.many qs.xs 0 qs.xs.length), .i (Sp.many qs.xs 1 qs.xs.length), .i (Sp.many qs.xs 2 qs.xs.length), .i (Sp.many qs.xs 3 qs.xs.length)] := fun f => hA _ (by show ((ws.xs.length : Int) - (i + 1)).toNat < ((ws.xs.length : Int) - i).toNat; omega) ⟨⟨by omega, by omega, h4, rfl, hq, rfl, rfl, rfl, rfl⟩, by rw [ez]; exact g2 f⟩;have bad : ∀ n, Sp.wErr qs.xs ws.xs i.toNat = n -> n ≠ 0 -> K 1 [.i i, .i n] := fun n hn h => by rw [<- hn]; exact g1 (by rw [hn]; exact h)
  have eN := Lib.hid (Xdl qs.xs ws.xs i.toNat);rw [Int.toNat_of_nonneg h0] at eN;clear g1 g2 hk hA;generalize Sp.wErr qs.xs ws.xs i.toNat = E at *;have hl2 : w2.xs.length = ws.xs.length := by rw [hq]
  simp only [Nat.zero_add, Nat.reduceAdd, out1, hq];have c4 : i = 0 \/ i = 1 \/ i = 2 \/ i = 3 := by omega
  rcases c4 with rfl | rfl | rfl | rfl
  all_goals repeat' (first | omega|intro _|with_reducible first|apply vifd|apply vifn|apply vifq|apply X0|apply Xz|apply vifb|apply vif|apply nedd|apply ned2|apply ned|apply ar64|apply Xj|exact True.intro|assumption|rfl|apply And.intro)
  all_goals first | exact bad _ (eN.out.trans (if_neg (ne_true_of_eq_false (by assumption)))) (by omega) | exact hA' (eN.out.trans (if_pos (by assumption))) | omega
 ·rw [show ws.xs.length - i.toNat = 0 by omega] at hk;exact hk.2 rfl
noncomputable def Xmh : LE Try.prog := ⟨16, 20, fun W => @Ytz W Xex, Xlv⟩
noncomputable def T3 : Tab Try.prog := ⟨[Xfa], [Xmd, Xme], []⟩
noncomputable def T4 : Tab Try.prog := ⟨[Xi], [Xmg, Xmh], []⟩
def Zj [W : InW] (k_Ws : Ro Jb) := (↑(k_Ws.xs.length) : Int)
def Zk := (0 : Int)
def Zi := Int.toNat Zk
def X7 [W : InW] (kQ : Ro tyQ) (k_Ws : Ro Jb) (k_Lo k_Hi : Int) (Q : DS -> Prop) : Prop :=
 Pre True (Vif (!Sp.inr (↑(kQ.xs.length) : Int) (1 : Int) (16 : Int)) (Q [[Cl.i 1], [Cl.i 0], [Cl.i 3]]) (Pre True (Vif (!Sp.inr (Zj k_Ws) (1 : Int) (4 : Int)) (Q [[Cl.i 1], [Cl.i 0], [Cl.i 3]]) (Pre True (Vif (!Sp.inr k_Lo Zk (16000 : Int)) (Q [[Cl.i 1], [Cl.i 0], [Cl.i 7]]) (Pre True (Vif (!Sp.inr k_Hi Zk (16000 : Int)) (Q [[Cl.i 1], [Cl.i 0], [Cl.i 7]]) (Vif (decide (k_Hi < k_Lo)) (Q [[Cl.i 1], [Cl.i 0], [Cl.i 2]]) (Need (decide ((Zj k_Ws) = (Zj k_Ws)) && decide (Zk <= (Zj k_Ws)) && decide ((8 : Nat) * (Zj k_Ws).toNat <= 281474976710656)) (Pre (Zk <= 0 /\ Zk <= (↑(kQ.xs.length) : Int) /\ Sp.MOk kQ.xs (k_Ws.xs.length) Zi (List.replicate (Zj k_Ws).toNat (Ybp [Ty.int IntKind.i64]))) (Vif (Sp.hasE (Sp.qErr (k_Ws.xs.length) kQ.xs) Zi (kQ.xs.length - Int.toNat Zk)) (Q [[Cl.i 2], [Cl.i (↑(Sp.idxE (Sp.qErr (k_Ws.xs.length) kQ.xs) Zi (kQ.xs.length - Int.toNat Zk)) : Int)], [Cl.i (Sp.qErr (k_Ws.xs.length) kQ.xs (Sp.idxE (Sp.qErr (k_Ws.xs.length) kQ.xs) Zi (kQ.xs.length - Int.toNat Zk)))]]) (Sp.FaM (Sp.MOk kQ.xs (k_Ws.xs.length) (kQ.xs.length)) fun ys => Pre (Zk <= 0 /\ Zk <= (Zj k_Ws) /\ Sp.MOk kQ.xs (k_Ws.xs.length) (kQ.xs.length) ys) (Vif (Sp.hasE (Sp.wErr kQ.xs k_Ws.xs) Zi (k_Ws.xs.length - Int.toNat Zk)) (Q [[Cl.i 3], [Cl.i (↑(Sp.idxE (Sp.wErr kQ.xs k_Ws.xs) Zi (k_Ws.xs.length - Int.toNat Zk)) : Int)], [Cl.i (Sp.wErr kQ.xs k_Ws.xs (Sp.idxE (Sp.wErr kQ.xs k_Ws.xs) Zi (k_Ws.xs.length - Int.toNat Zk)))]]) (Q [[Cl.i 0], [Cl.i 0], [Cl.i 0]]))))))))))))))
theorem Xfd (W : InW) (kQ k_Ws k_Lo k_Hi Q) : Yw5 (cxT Try.prog TT T3 1000 50) 1000 17 [.agg [.rs _ kQ, .rs _ k_Ws, .si .i64 k_Lo, .si .i64 k_Hi]] [] 0 (Y1i [(false, [.int .i64]), (false, [.int .i64]), (false, [.int .i64])] Q) (fun _ _ _ _ => Stuck 421) = X7 kQ k_Ws k_Lo k_Hi Q := by kernel_rfl
abbrev Xs : List AT := [.agg [.sl tyQ, .sl Jb, .int .i64, .int .i64]]
theorem Xft {pre : DS -> Prop} {res : DS -> DS} (hyp_ : ∀ (W : InW) (kQ : Ro tyQ) (k_Ws : Ro Jb) (k_Lo k_Hi : Int), pre [[.l kQ.xs, .l k_Ws.xs, .i k_Lo, .i k_Hi]] -> ∀ Q : DS -> Prop, Q (res [[.l kQ.xs, .l k_Ws.xs, .i k_Lo, .i k_Hi]]) -> X7 kQ k_Ws k_Lo k_Hi Q) : PureOk Try.prog 17 Xs [(false, [.int .i64]), (false, [.int .i64]), (false, [.int .i64])] pre res :=
 PureOk.of' (fun W => @TT W) (fun W => @Xc W) Xa T3 1000 50 fun W kQ k_Ws k_Lo k_Hi hp =>
  (Xfd W kQ k_Ws k_Lo k_Hi (fun o => o = res [[.l kQ.xs, .l k_Ws.xs, .i k_Lo, .i k_Hi]])).mpr (hyp_ W kQ k_Ws k_Lo k_Hi hp _ rfl)
theorem out2n (lo hi a b : Int) : Sp.out lo hi [[Cl.i a], [Cl.i b]] = !(Sp.inr a lo hi && Sp.inr b lo hi) := by simp [Sp.out, Sp.outs, cel, Cl.int, Bool.not_and]
theorem Xf2 {qs ws : Dt} {lo hi : Int} {Q : Int × Int × Int -> Prop} (h : Q (Sp.chk qs ws lo hi)) :
  let c := Sp.inr qs.length 1 16 && Sp.inr ws.length 1 4
  let d := Sp.inr lo 0 16000 && Sp.inr hi 0 16000
  (c = false -> Q (1, 0, 3)) /\
  (c = true -> d = false -> Q (1, 0, 7)) /\
  (c = true -> d = true -> hi < lo -> Q (1, 0, 2)) /\
  (c = true -> d = true -> ¬ hi < lo -> Sp.hasE (Sp.qErr ws.length qs) 0 qs.length = true -> Q (2, Sp.idxE (Sp.qErr ws.length qs) 0 qs.length, Sp.qErr ws.length qs (Sp.idxE (Sp.qErr ws.length qs) 0 qs.length))) /\
  (c = true -> d = true -> ¬ hi < lo -> Sp.hasE (Sp.qErr ws.length qs) 0 qs.length = false -> Sp.hasE (Sp.wErr qs ws) 0 ws.length = true -> Q (3, Sp.idxE (Sp.wErr qs ws) 0 ws.length, Sp.wErr qs ws (Sp.idxE (Sp.wErr qs ws) 0 ws.length))) /\
  (c = true -> d = true -> ¬ hi < lo -> Sp.hasE (Sp.qErr ws.length qs) 0 qs.length = false -> Sp.hasE (Sp.wErr qs ws) 0 ws.length = false -> Q (0, 0, 0)) := by
 intro c d;unfold Sp.chk at h;refine ⟨fun e => ?_, fun e e1 => ?_, fun e e1 e2 => ?_, fun e e1 e2 e3 => ?_, fun e e1 e2 e3 e4 => ?_, fun e e1 e2 e3 e4 => ?_⟩
 ·rw [if_neg (by show ¬ c = true; simp [e])] at h; exact h
 ·rw [if_pos (show c = true from e), if_neg (by show ¬ d = true; simp [e1])] at h; exact h
 ·rw [if_pos (show c = true from e), if_pos (show d = true from e1), if_pos e2] at h; exact h
 ·rw [if_pos (show c = true from e), if_pos (show d = true from e1), if_neg e2, if_pos e3] at h; exact h
 ·rw [if_pos (show c = true from e), if_pos (show d = true from e1), if_neg e2, if_neg (by simp [e3]), if_pos e4] at h; exact h
 ·rw [if_pos (show c = true from e), if_pos (show d = true from e1), if_neg e2, if_neg (by simp [e3]), if_neg (by simp [e4])] at h; exact h
theorem Xg3 : PureOk Try.prog 17 Xs [(false, [.int .i64]), (false, [.int .i64]), (false, [.int .i64])] (fun _ => True) Xl :=
 Xft fun W qs ws lo hi hp Q h => by
  unfold X7;delta Zi Zk Zj;obtain ⟨q0, q1, q2, q3, q4, q5⟩ := Xf2 (Q := fun r => Q [[.i r.1], [.i r.2.1], [.i r.2.2]]) h;clear h;have h4 : Sp.inr ws.xs.length 1 4 = true -> ws.xs.length <= 4 := fun h => by have := (Sp.inr_iff.1 h).2; omega
  simp only [show Int.toNat 0 = 0 from rfl, Nat.sub_zero]
  repeat' (first | (refine ned (by have := h4 (by assumption); simp; omega) ?_) | exact Sp.MOk.zero | (refine Sp.FaM.mk fun ys hy => ?_) | omega|intro _|with_reducible first|apply vifd|apply vifn|apply vifq|apply X0|apply Xz|apply vifb|apply vif|apply nedd|apply ned2|apply ned|apply ar64|apply Xj|exact True.intro|assumption|rfl|apply And.intro)
  all_goals first | exact q5 (by simp [*]) (by simp [*]) (by assumption) (by assumption) (by assumption) | exact q4 (by simp [*]) (by simp [*]) (by assumption) (by assumption) (by assumption) | exact q3 (by simp [*]) (by simp [*]) (by assumption) (by assumption) | exact q2 (by simp [*]) (by simp [*]) (by assumption) | exact q1 (by simp [*]) (by simp [*]) | exact q0 (by simp [*]) | (simp_all; done)
noncomputable def Xfq : PC Try.prog := ⟨17, Xs, [(false, [.int .i64]), (false, [.int .i64]), (false, [.int .i64])], fun _ => True, Xl, Xg3⟩
def Zm [W : InW] (k_Ws : Ro Jb) := (↑(k_Ws.xs.length) : Int)
def Zl := Int.toNat Zk
def X8 [W : InW] (kQ : Ro tyQ) (k_Ws : Ro Jb) (k_Lo k_Hi : Int) (Q : DS -> Prop) : Prop :=
 Pre True (Vif (Sp.out (1 : Int) (16 : Int) [[Cl.i (↑(kQ.xs.length) : Int)]]) (Q [[Cl.i 1], [Cl.i 0], [Cl.i 3]]) (Pre True (Vif (Sp.out (1 : Int) (4 : Int) [[Cl.i (Zm k_Ws)]]) (Q [[Cl.i 1], [Cl.i 0], [Cl.i 3]]) (Pre True (Vif (Sp.out Zk (16000 : Int) [[Cl.i k_Lo], [Cl.i k_Hi]]) (Q [[Cl.i 1], [Cl.i 0], [Cl.i 7]]) (Vif (decide (k_Hi < k_Lo)) (Q [[Cl.i 1], [Cl.i 0], [Cl.i 2]]) (Pre ((Zm k_Ws) = (Zm k_Ws) /\ k_Ws.xs.length <= 4 /\ Zk <= 0 /\ Zk <= (↑(kQ.xs.length) : Int) /\ (↑(kQ.xs.length) : Int) = (↑(kQ.xs.length) : Int) /\ kQ.xs = kQ.xs /\ Zk = Sp.many kQ.xs Zk Zl /\ Zk = Sp.many kQ.xs (1 : Int) Zl /\ Zk = Sp.many kQ.xs (2 : Int) Zl /\ Zk = Sp.many kQ.xs (3 : Int) Zl) (Vif (Sp.hasE (Sp.qErr (k_Ws.xs.length) kQ.xs) Zl (kQ.xs.length - Int.toNat Zk)) (Q [[Cl.i 2], [Cl.i (↑(Sp.idxE (Sp.qErr (k_Ws.xs.length) kQ.xs) Zl (kQ.xs.length - Int.toNat Zk)) : Int)], [Cl.i (Sp.qErr (k_Ws.xs.length) kQ.xs (Sp.idxE (Sp.qErr (k_Ws.xs.length) kQ.xs) Zl (kQ.xs.length - Int.toNat Zk)))]]) (Pre (Zk <= 0 /\ Zk <= (Zm k_Ws) /\ k_Ws.xs.length <= 4 /\ (Zm k_Ws) = (Zm k_Ws) /\ k_Ws.xs = k_Ws.xs /\ Sp.many kQ.xs Zk (kQ.xs.length) = Sp.many kQ.xs Zk (kQ.xs.length) /\ Sp.many kQ.xs (1 : Int) (kQ.xs.length) = Sp.many kQ.xs (1 : Int) (kQ.xs.length) /\ Sp.many kQ.xs (2 : Int) (kQ.xs.length) = Sp.many kQ.xs (2 : Int) (kQ.xs.length) /\ Sp.many kQ.xs (3 : Int) (kQ.xs.length) = Sp.many kQ.xs (3 : Int) (kQ.xs.length)) (Vif (Sp.hasE (Sp.wErr kQ.xs k_Ws.xs) Zl (k_Ws.xs.length - Int.toNat Zk)) (Q [[Cl.i 3], [Cl.i (↑(Sp.idxE (Sp.wErr kQ.xs k_Ws.xs) Zl (k_Ws.xs.length - Int.toNat Zk)) : Int)], [Cl.i (Sp.wErr kQ.xs k_Ws.xs (Sp.idxE (Sp.wErr kQ.xs k_Ws.xs) Zl (k_Ws.xs.length - Int.toNat Zk)))]]) (Q [[Cl.i 0], [Cl.i 0], [Cl.i 0]])))))))))))
theorem Xfe (W : InW) (kQ k_Ws k_Lo k_Hi Q) : Yw5 (cxT Try.prog TT T4 1000 50) 1000 16 [.agg [.rs _ kQ, .rs _ k_Ws, .si .i64 k_Lo, .si .i64 k_Hi]] [] 0 (Y1i [(false, [.int .i64]), (false, [.int .i64]), (false, [.int .i64])] Q) (fun _ _ _ _ => Stuck 421) = X8 kQ k_Ws k_Lo k_Hi Q := by kernel_rfl
abbrev Xt : List AT := [.agg [.sl tyQ, .sl Jb, .int .i64, .int .i64]]
theorem Xfu {pre : DS -> Prop} {res : DS -> DS} (hyp_ : ∀ (W : InW) (kQ : Ro tyQ) (k_Ws : Ro Jb) (k_Lo k_Hi : Int), pre [[.l kQ.xs, .l k_Ws.xs, .i k_Lo, .i k_Hi]] -> ∀ Q : DS -> Prop, Q (res [[.l kQ.xs, .l k_Ws.xs, .i k_Lo, .i k_Hi]]) -> X8 kQ k_Ws k_Lo k_Hi Q) : PureOk Try.prog 16 Xt [(false, [.int .i64]), (false, [.int .i64]), (false, [.int .i64])] pre res :=
 PureOk.of' (fun W => @TT W) (fun W => @Xc W) Xa T4 1000 50 fun W kQ k_Ws k_Lo k_Hi hp =>
  (Xfe W kQ k_Ws k_Lo k_Hi (fun o => o = res [[.l kQ.xs, .l k_Ws.xs, .i k_Lo, .i k_Hi]])).mpr (hyp_ W kQ k_Ws k_Lo k_Hi hp _ rfl)
theorem Xg4 : PureOk Try.prog 16 Xt [(false, [.int .i64]), (false, [.int .i64]), (false, [.int .i64])] (fun _ => True) Xl :=
 Xfu fun W qs ws lo hi hp Q h => by
  unfold X8;delta Zl Zk Zm;obtain ⟨q0, q1, q2, q3, q4, q5⟩ := Xf2 (Q := fun r => Q [[.i r.1], [.i r.2.1], [.i r.2.2]]) h;clear h;have h4 : Sp.inr ws.xs.length 1 4 = true -> ws.xs.length <= 4 := fun h => by have := (Sp.inr_iff.1 h).2; omega
  simp only [show Int.toNat 0 = 0 from rfl, Nat.sub_zero, out1, out2n, show ∀ p, Sp.many qs.xs p 0 = 0 from fun _ => rfl]
  repeat' (first | (exact h4 (by assumption)) | omega|intro _|with_reducible first|apply vifd|apply vifn|apply vifq|apply X0|apply Xz|apply vifb|apply vif|apply nedd|apply ned2|apply ned|apply ar64|apply Xj|exact True.intro|assumption|rfl|apply And.intro)
  all_goals first | exact q5 (by simp [*]) (by simp [*]) (by assumption) (by assumption) (by assumption) | exact q4 (by simp [*]) (by simp [*]) (by assumption) (by assumption) (by assumption) | exact q3 (by simp [*]) (by simp [*]) (by assumption) (by assumption) | exact q2 (by simp [*]) (by simp [*]) (by assumption) | exact q1 (by simp [*]) (by simp [*]) | exact q0 (by simp [*]) | (simp_all; done)
noncomputable def Xbx : PC Try.prog := ⟨16, Xt, [(false, [.int .i64]), (false, [.int .i64]), (false, [.int .i64])], fun _ => True, Xl, Xg4⟩
structure V4 where
 a : Int
 b : Int
 c : Int
 d : Int
deriving DecidableEq
namespace Sp
def V4.get (v : V4) (p : Int) : Int := if p = 0 then v.a else if p = 1 then v.b else if p = 2 then v.c else v.d
def V4.dec (v : V4) (p : Int) : V4 := if p = 0 then ⟨v.a - 1, v.b, v.c, v.d⟩ else if p = 1 then ⟨v.a, v.b - 1, v.c, v.d⟩ else if p = 2 then ⟨v.a, v.b, v.c - 1, v.d⟩ else ⟨v.a, v.b, v.c, v.d - 1⟩
def V4.nil (v : V4) : Bool := decide (v.a = 0) && decide (v.b = 0) && decide (v.c = 0) && decide (v.d = 0)
structure V4.Ok (v : V4) : Prop where
 a : 0 <= v.a /\ v.a <= 16
 b : 0 <= v.b /\ v.b <= 16
 c : 0 <= v.c /\ v.c <= 16
 d : 0 <= v.d /\ v.d <= 16
theorem V4.Ok.dec {v : V4} (h : V4.Ok v) {p : Int} (hp : 1 <= V4.get v p) : V4.Ok (V4.dec v p) := by
 obtain ⟨h1, h2, h3, h4⟩ := h;unfold V4.get at hp;unfold V4.dec
 split at hp
 ·rw [if_pos (by assumption)]; exact ⟨by simp only; omega, h2, h3, h4⟩
 ·rw [if_neg (by assumption)]
  split at hp
  ·rw [if_pos (by assumption)]; exact ⟨h1, by simp only; omega, h3, h4⟩
  ·rw [if_neg (by assumption)]
   split at hp
   ·rw [if_pos (by assumption)]; exact ⟨h1, h2, by simp only; omega, h4⟩
   ·rw [if_neg (by assumption)]; exact ⟨h1, h2, h3, by simp only; omega⟩
def wt (qs : Dt) (i : Nat) : Int := if qAsk qs i = 0 then 500 else (qBad qs i * 1000).tdiv (qAsk qs i)
def gen (qs : Dt) (lo hi : Int) : Nat -> Int -> V4 -> List Dt
 | 0, s, v => if V4.nil v && inr s lo hi then [[]] else []
 | m + 1, s, v => if V4.nil v then (if inr s lo hi then [[]] else [])
  else (if 1 <= V4.get v (qPart qs (qs.length - (m + 1))) then (gen qs lo hi m (s + wt qs (qs.length - (m + 1))) (V4.dec v (qPart qs (qs.length - (m + 1))))).map ([Cl.i ((qs.length - (m + 1) : Nat) : Int)] :: ·) else []) ++ gen qs lo hi m s v
def cnt (qs : Dt) (lo hi : Int) (m : Nat) (s : Int) (v : V4) : Int := (gen qs lo hi m s v).length
theorem gen_nil {qs : Dt} {lo hi : Int} {v : V4} (h : V4.nil v = true) : ∀ m s, gen qs lo hi m s v = if inr s lo hi then [[]] else []
 | 0, s => by rw [gen, h]; simp
 | m + 1, s => by rw [gen, if_pos h]
theorem gen_zero {qs : Dt} {lo hi : Int} {v : V4} (h : V4.nil v = false) (s : Int) : gen qs lo hi 0 s v = [] := by rw [gen, h]; simp
theorem gen_succ {qs : Dt} {lo hi : Int} {v : V4} (h : V4.nil v = false) {m i : Nat} (hi' : i + m + 1 = qs.length) (s : Int) :
  gen qs lo hi (m + 1) s v = (if 1 <= V4.get v (qPart qs i) then (gen qs lo hi m (s + wt qs i) (V4.dec v (qPart qs i))).map ([Cl.i (i : Int)] :: ·) else []) ++ gen qs lo hi m s v := by
 rw [gen, if_neg (by simp [h]), show qs.length - (m + 1) = i by omega]
theorem cnt_nil {qs : Dt} {lo hi : Int} {v : V4} (h : V4.nil v = true) (m : Nat) (s : Int) : cnt qs lo hi m s v = if inr s lo hi then 1 else 0 := by
 unfold cnt; rw [gen_nil h]; split <;> rfl
theorem cnt_zero {qs : Dt} {lo hi : Int} {v : V4} (h : V4.nil v = false) (s : Int) : cnt qs lo hi 0 s v = 0 := by unfold cnt; rw [gen_zero h]; rfl
theorem cnt_succ {qs : Dt} {lo hi : Int} {v : V4} (h : V4.nil v = false) {m i : Nat} (hi' : i + m + 1 = qs.length) (s : Int) :
  cnt qs lo hi (m + 1) s v = (if 1 <= V4.get v (qPart qs i) then cnt qs lo hi m (s + wt qs i) (V4.dec v (qPart qs i)) else 0) + cnt qs lo hi m s v := by
 unfold cnt; rw [gen_succ h hi']; split <;> simp
theorem cnt_bound (qs : Dt) (lo hi : Int) : ∀ m s v, 0 <= cnt qs lo hi m s v /\ cnt qs lo hi m s v <= 2 ^ m
 | 0, s, v => by unfold cnt; rw [gen]; split <;> simp
 | m + 1, s, v => by
  have h1 : (2 : Int) ^ (m + 1) = 2 ^ m + 2 ^ m := by rw [Int.pow_succ]; omega
  have h2 : (0 : Int) < 2 ^ m := Int.pow_pos (by omega);cases hv : V4.nil v with
  | true => rw [cnt_nil hv]; split <;> omega
  | false =>
   unfold cnt;rw [gen, if_neg (by simp [hv])];have a1 := cnt_bound qs lo hi m s v;have a2 := cnt_bound qs lo hi m (s + wt qs (qs.length - (m + 1))) (V4.dec v (qPart qs (qs.length - (m + 1))));unfold cnt at a1 a2
   split <;> simp <;> omega
theorem cnt_16 {qs : Dt} {lo hi : Int} {m : Nat} (h : m <= 16) (s : Int) (v : V4) : 0 <= cnt qs lo hi m s v /\ cnt qs lo hi m s v <= 65536 := by
 have h1 := cnt_bound qs lo hi m s v;have h2 : (2 : Int) ^ m <= 2 ^ 16 := by exact_mod_cast Nat.pow_le_pow_right (n := 2) (by omega) h
 have h3 : (2 : Int) ^ 16 = 65536 := by decide
 omega
def stV (q : List Cl) : V4 := ⟨rI q 2, rI q 3, rI q 4, rI q 5⟩
def cntQ (qs : Dt) (lo hi : Int) (q : List Cl) : Int := cnt qs lo hi (qs.length - (rI q 0).toNat) (rI q 1) (stV q)
structure MemoOk (qs : Dt) (lo hi : Int) (xs : Dt) : Prop where
 ok : ∀ q, hasP xs q = true -> getP xs q = cntQ qs lo hi q
theorem key6_row7 (q r : List Cl) (v : Int) : key6 (row7 q v) r ↔ key6 q r := by simp [key6, row7, rI, Cl.int]
theorem key6_trans {a b c : List Cl} (h : key6 a b) (g : key6 a c) : key6 b c := by
 unfold key6 at *; omega
theorem Yr1 {a b : List Cl} (h : key6 a b) : key6 b a := by unfold key6 at *; omega
theorem hasP_set : ∀ (es : Dt) (q r : List Cl) (v : Int), hasP (setP es q v) r = true -> key6 q r \/ hasP es r = true
 | [], q, r, v, h => by
  simp only [setP, hasP] at h
  split at h
  ·rename_i hk; exact .inl ((key6_row7 q r v).1 hk)
  ·cases h
 | e :: es, q, r, v, h => by
  simp only [setP] at h
  split at h
  ·rename_i hk;simp only [hasP] at h
   split at h
   ·rename_i h2; exact .inl ((key6_row7 q r v).1 h2)
   ·refine .inr ?_;simp only [hasP]; split
    ·rfl
    ·exact h
  ·simp only [hasP] at h ⊢
   split at h
   ·rename_i h2; exact .inr (by rw [if_pos h2])
   ·rename_i h2;rw [if_neg h2];exact hasP_set es q r v h
theorem getP_set : ∀ (es : Dt) (q r : List Cl) (v : Int), key6 q r -> getP (setP es q v) r = v
 | [], q, r, v, h => by
  simp only [setP, getP];rw [if_pos ((key6_row7 q r v).2 h)];simp [row7, rI, Cl.int]
 | e :: es, q, r, v, h => by
  simp only [setP]
  split
  ·simp only [getP];rw [if_pos ((key6_row7 q r v).2 h)];simp [row7, rI, Cl.int]
  ·rename_i hk;simp only [getP];rw [if_neg fun h2 => hk (by have := Yr1 h; have h3 := Yr1 h2; exact Yr1 (key6_trans (Yr1 (Yr1 this)) h3)), getP_set es q r v h]
theorem getP_setN : ∀ (es : Dt) (q r : List Cl) (v : Int), ¬ key6 q r -> getP (setP es q v) r = getP es r
 | [], q, r, v, h => by
  simp only [setP, getP];rw [if_neg fun h2 => h ((key6_row7 q r v).1 h2)]
 | e :: es, q, r, v, h => by
  simp only [setP]
  split
  ·rename_i hk;simp only [getP];rw [if_neg fun h2 => h ((key6_row7 q r v).1 h2), if_neg fun h2 => h (key6_trans hk h2)]
  ·simp only [getP, getP_setN es q r v h]
theorem memo_set {qs : Dt} {lo hi : Int} {xs : Dt} (h : MemoOk qs lo hi xs) {q : List Cl} {v : Int} (hv : v = cntQ qs lo hi q) : MemoOk qs lo hi (setP xs q v) := ⟨fun r hr => by
 by_cases hk : key6 q r
 ·rw [getP_set _ _ _ _ hk, hv];obtain ⟨h0, h1, h2, h3, h4, h5⟩ := hk;simp only [cntQ, stV, h0, h1, h2, h3, h4, h5]
 ·rw [getP_setN _ _ _ _ hk];exact h.ok r ((hasP_set _ _ _ _ hr).resolve_left hk)⟩
theorem memo_nil {qs : Dt} {lo hi : Int} : MemoOk qs lo hi [] := ⟨fun q h => by simp [hasP] at h⟩
structure BkOk (qs ws : Dt) (lo hi : Int) (w : Dt) : Prop where
 few : qs.length <= 16
 part : ∀ i, i < qs.length -> 0 <= qPart qs i /\ qPart qs i <= 3
 len : w.length = qs.length
 wt : ∀ i, i < qs.length -> (cel w i 0).int = wt qs i /\ 0 <= Sp.wt qs i /\ Sp.wt qs i <= 1000
structure StOk (qs : Dt) (at_ s : Int) (v : V4) : Prop where
 a0 : 0 <= at_
 a1 : at_ <= qs.length
 s0 : 0 <= s
 s1 : s <= 1000 * at_
 v0 : V4.Ok v
theorem StOk.step {qs ws w : Dt} {lo hi t s : Int} {v : V4} (h : StOk qs t s v) (bk : BkOk qs ws lo hi w) {i : Int} (h0 : t <= i) (h1 : i < qs.length) (hp : 1 <= V4.get v (qPart qs i.toNat)) :
  StOk qs (i + 1) (s + Sp.wt qs i.toNat) (V4.dec v (qPart qs i.toNat)) := by
 obtain ⟨t0, t1, s0, s1, ok⟩ := h;obtain ⟨w1, w2, w3⟩ := bk.wt i.toNat (by omega);exact ⟨by omega, by omega, by omega, by omega, ok.dec hp⟩
theorem cnt_at {qs : Dt} {lo hi s : Int} {v : V4} (h : V4.nil v = false) {i : Int} (h0 : 0 <= i) (h1 : i < qs.length) :
  cnt qs lo hi (qs.length - i.toNat) s v = (if 1 <= V4.get v (qPart qs i.toNat) then cnt qs lo hi (qs.length - (i + 1).toNat) (s + wt qs i.toNat) (V4.dec v (qPart qs i.toNat)) else 0) + cnt qs lo hi (qs.length - (i + 1).toNat) s v := by
 have e : qs.length - i.toNat = (qs.length - (i + 1).toNat) + 1 := by omega
 rw [e, cnt_succ h (i := i.toNat) (by omega)]
end Sp
noncomputable def T5 : Tab Try.prog := ⟨[Xi], [], []⟩
def Xhr [InW] (e : List Ed) (K : Nat -> List Ed -> Prop) : Prop := match e with
 | [.ro _ qs, .ro _ ws, .i lo, .i hi, .l w, .l xs] => K 0 [.i 0, .i 0, .i (cel ws.xs 0 0).int, .i (cel ws.xs 1 0).int, .i (cel ws.xs 2 0).int, .i (cel ws.xs 3 0).int, .ro _ qs, .ro _ ws, .i lo, .i hi, .l w, .l xs]
 | _ => False
noncomputable def Xf : CC where
 g := 47
 args := [(.ptr 4 0)]
 H := [(4, .blk 82 [.rs Ja, .rs Jb, .int .i64, .int .i64, (.row 7), (.mp 10)]), (7, .arr 3 Jb), (10, .mpP)]
 outs := [⟨false, .agg [.int .i64, .int .i64, .int .i64, .int .i64, .int .i64, .int .i64], [(4, .blk 82 [.rs Ja, .rs Jb, .int .i64, .int .i64, (.row 7), (.mp 10)]), (7, .arr 3 Jb), (10, .mpP)], false⟩]
 spec := Xhr
def Xdk [W : InW] (qs : Ro Ja) (ws : Ro Jb) (lo hi : Int) (w xs : Dt) (K : Nat -> List Ed -> Prop) : Prop :=
 K 0 [.i (0 : Int), .i (0 : Int), .i (cel ws.xs (0 : Nat) (0 : Nat)).int, .i (cel ws.xs (0+1) (0 : Nat)).int, .i (cel ws.xs ((0 : Nat) + 1 + 1) (0 : Nat)).int, .i (cel ws.xs ((0 : Nat) + 1 + 1 + 1) (0 : Nat)).int, .ro _ qs, .ro _ ws, .i lo, .i hi, .l w, .l xs]
theorem Xis (W : InW) (qs ws lo hi w xs K) : Yw2 (cxT Try.prog TT T5 1000 50) 1000 47 [.ptr 4 0] [(4, .blk 82 [.rs _ qs, .rs _ ws, .si .i64 lo, .si .i64 hi, .rw 7, .mp 10]), (7, .arr 3 Jb w), (10, .obj (.mpP xs))] (fun v h => outC Xf.H [.ro _ qs, .ro _ ws, .i lo, .i hi, .l w, .l xs] Xf.outs 0 false v h K) (fun v h => outC Xf.H [.ro _ qs, .ro _ ws, .i lo, .i hi, .l w, .l xs] Xf.outs 0 true v h K) = Xdk qs ws lo hi w xs K := by kernel_rfl
theorem Xj2 (hyp_ : ∀ (W : InW) qs ws lo hi w xs K, Xhr [.ro _ qs, .ro _ ws, .i lo, .i hi, .l w, .l xs] K -> Xdk qs ws lo hi w xs K) : ∀ W : InW, @CallC W Try.prog Xf :=
 CC.okOf (fun W => @TT W) (fun W => @Xc W) Xa T5 1000 50 Xf fun W qs ws lo hi w xs K hs => (Xis W qs ws lo hi w xs K).mpr (hyp_ W qs ws lo hi w xs K hs)
def Xhm [InW] (e : List Ed) (K : Nat -> List Ed -> Prop) : Prop := match e with
 | [.i t, .i s, .i a, .i b, .i c, .i d, .i i, .ro _ qs, .ro _ ws, .i lo, .i hi, .l w, .l xs] => Pre (Sp.BkOk qs.xs ws.xs lo hi w /\ Sp.StOk qs.xs t s ⟨a, b, c, d⟩ /\ t <= i /\ i < qs.xs.length)
   (K 0 [.i (i + 1), .i (s + Sp.wt qs.xs i.toNat), .i (Sp.V4.dec ⟨a, b, c, d⟩ (Sp.qPart qs.xs i.toNat)).a, .i (Sp.V4.dec ⟨a, b, c, d⟩ (Sp.qPart qs.xs i.toNat)).b, .i (Sp.V4.dec ⟨a, b, c, d⟩ (Sp.qPart qs.xs i.toNat)).c, .i (Sp.V4.dec ⟨a, b, c, d⟩ (Sp.qPart qs.xs i.toNat)).d,
    .b (decide (1 <= Sp.V4.get ⟨a, b, c, d⟩ (Sp.qPart qs.xs i.toNat))), .ro _ qs, .ro _ ws, .i lo, .i hi, .l w, .l xs])
 | _ => False
noncomputable def Xe : CC where
 g := 53
 args := [(.ptr 4 0), .agg [.int .i64, .int .i64, .int .i64, .int .i64, .int .i64, .int .i64], .int .i64]
 H := [(4, .blk 82 [.rs Ja, .rs Jb, .int .i64, .int .i64, (.row 7), (.mp 10)]), (7, .arr 3 Jb), (10, .mpP)]
 outs := [⟨false, .tup [.agg [.int .i64, .int .i64, .int .i64, .int .i64, .int .i64, .int .i64], .bool], [(4, .blk 82 [.rs Ja, .rs Jb, .int .i64, .int .i64, (.row 7), (.mp 10)]), (7, .arr 3 Jb), (10, .mpP)], false⟩]
 spec := Xhm
def Zo [W : InW] (i : Int) (qs : Ro Ja) := cel qs.xs i.toNat (0 : Nat)
def Zn [W : InW] (i : Int) (qs : Ro Ja) := decide ((0 : Int) <= (Zo i qs).int) && decide ((Zo i qs).int < (↑(4 : Nat) : Int))
def Zp [W : InW] (i : Int) (qs : Ro Ja) := decide ((Zo i qs).int = (↑(0 : Nat) : Int))
def Zq [W : InW] (i : Int) (w : Dt) := decide (0 <= i) && decide (i < (↑(w.length) : Int))
def Zu [W : InW] (i : Int) (w : Dt) := decide (i.toNat < w.length)
def Zt [W : InW] (s i : Int) (w : Dt) := s + (cel w i.toNat (0 : Nat)).int
def Zr [W : InW] (i : Int) (qs : Ro Ja) := decide ((Zo i qs).int = (↑(0+1) : Int))
def Zv [W : InW] (b : Int) := decide (0 <= b)
def Zs [W : InW] (i : Int) (qs : Ro Ja) := decide ((Zo i qs).int = (↑(1+1) : Int))
def Zw [W : InW] (c : Int) := decide (0 <= c)
def Zx [W : InW] (d : Int) := decide (0 <= d)
def Zy [W : InW] (a : Int) := decide (0 <= a)
def Xdf [W : InW] (t s a b c d i : Int) (qs : Ro Ja) (ws : Ro Jb) (lo hi : Int) (w xs : Dt) (K : Nat -> List Ed -> Prop) : Prop :=
 Need (decide (0 <= i) && decide (i < (↑(qs.xs.length) : Int))) (Need (decide (i.toNat < qs.xs.length)) (Need (Zn i qs) (Vif (Zp i qs) (Ar .i64 (a - 1) fun z => Need (Zn i qs) (Vif (Zp i qs) (Ar .i64 (i + 1) fun z_1 => Need (Zq i w) (Need (Zu i w) (Ar .i64 (Zt s i w) fun z_2 => Need (Zn i qs) (Vif (Zp i qs) (K 0 [.i z_1, .i z_2, .i z, .i b, .i c, .i d, .b (decide (0 <= z)), .ro _ qs, .ro _ ws, .i lo, .i hi, .l w, .l xs]) (Vif (Zr i qs) (K 0 [.i z_1, .i z_2, .i z, .i b, .i c, .i d, .b (Zv b), .ro _ qs, .ro _ ws, .i lo, .i hi, .l w, .l xs]) (Vif (Zs i qs) (K 0 [.i z_1, .i z_2, .i z, .i b, .i c, .i d, .b (Zw c), .ro _ qs, .ro _ ws, .i lo, .i hi, .l w, .l xs]) (K 0 [.i z_1, .i z_2, .i z, .i b, .i c, .i d, .b (Zx d), .ro _ qs, .ro _ ws, .i lo, .i hi, .l w, .l xs]))))))) (Vif (Zr i qs) (Ar .i64 (i + 1) fun z_1 => Need (Zq i w) (Need (Zu i w) (Ar .i64 (Zt s i w) fun z_2 => Need (Zn i qs) (Vif (Zp i qs) (K 0 [.i z_1, .i z_2, .i a, .i z, .i c, .i d, .b (Zy a), .ro _ qs, .ro _ ws, .i lo, .i hi, .l w, .l xs]) (Vif (Zr i qs) (K 0 [.i z_1, .i z_2, .i a, .i z, .i c, .i d, .b (decide (0 <= z)), .ro _ qs, .ro _ ws, .i lo, .i hi, .l w, .l xs]) (Vif (Zs i qs) (K 0 [.i z_1, .i z_2, .i a, .i z, .i c, .i d, .b (Zw c), .ro _ qs, .ro _ ws, .i lo, .i hi, .l w, .l xs]) (K 0 [.i z_1, .i z_2, .i a, .i z, .i c, .i d, .b (Zx d), .ro _ qs, .ro _ ws, .i lo, .i hi, .l w, .l xs]))))))) (Vif (Zs i qs) (Ar .i64 (i + 1) fun z_1 => Need (Zq i w) (Need (Zu i w) (Ar .i64 (Zt s i w) fun z_2 => Need (Zn i qs) (Vif (Zp i qs) (K 0 [.i z_1, .i z_2, .i a, .i b, .i z, .i d, .b (Zy a), .ro _ qs, .ro _ ws, .i lo, .i hi, .l w, .l xs]) (Vif (Zr i qs) (K 0 [.i z_1, .i z_2, .i a, .i b, .i z, .i d, .b (Zv b), .ro _ qs, .ro _ ws, .i lo, .i hi, .l w, .l xs]) (Vif (Zs i qs) (K 0 [.i z_1, .i z_2, .i a, .i b, .i z, .i d, .b (decide (0 <= z)), .ro _ qs, .ro _ ws, .i lo, .i hi, .l w, .l xs]) (K 0 [.i z_1, .i z_2, .i a, .i b, .i z, .i d, .b (Zx d), .ro _ qs, .ro _ ws, .i lo, .i hi, .l w, .l xs]))))))) (Ar .i64 (i + 1) fun z_1 => Need (Zq i w) (Need (Zu i w) (Ar .i64 (Zt s i w) fun z_2 => Need (Zn i qs) (Vif (Zp i qs) (K 0 [.i z_1, .i z_2, .i a, .i b, .i c, .i z, .b (Zy a), .ro _ qs, .ro _ ws, .i lo, .i hi, .l w, .l xs]) (Vif (Zr i qs) (K 0 [.i z_1, .i z_2, .i a, .i b, .i c, .i z, .b (Zv b), .ro _ qs, .ro _ ws, .i lo, .i hi, .l w, .l xs]) (Vif (Zs i qs) (K 0 [.i z_1, .i z_2, .i a, .i b, .i c, .i z, .b (Zw c), .ro _ qs, .ro _ ws, .i lo, .i hi, .l w, .l xs]) (K 0 [.i z_1, .i z_2, .i a, .i b, .i c, .i z, .b (decide (0 <= z)), .ro _ qs, .ro _ ws, .i lo, .i hi, .l w, .l xs]))))))))))) (Vif (Zr i qs) (Ar .i64 (b - 1) fun z => Need (Zn i qs) (Vif (Zp i qs) (Ar .i64 (i + 1) fun z_1 => Need (Zq i w) (Need (Zu i w) (Ar .i64 (Zt s i w) fun z_2 => Need (Zn i qs) (Vif (Zp i qs) (K 0 [.i z_1, .i z_2, .i z, .i b, .i c, .i d, .b (decide (0 <= z)), .ro _ qs, .ro _ ws, .i lo, .i hi, .l w, .l xs]) (Vif (Zr i qs) (K 0 [.i z_1, .i z_2, .i z, .i b, .i c, .i d, .b (Zv b), .ro _ qs, .ro _ ws, .i lo, .i hi, .l w, .l xs]) (Vif (Zs i qs) (K 0 [.i z_1, .i z_2, .i z, .i b, .i c, .i d, .b (Zw c), .ro _ qs, .ro _ ws, .i lo, .i hi, .l w, .l xs]) (K 0 [.i z_1, .i z_2, .i z, .i b, .i c, .i d, .b (Zx d), .ro _ qs, .ro _ ws, .i lo, .i hi, .l w, .l xs]))))))) (Vif (Zr i qs) (Ar .i64 (i + 1) fun z_1 => Need (Zq i w) (Need (Zu i w) (Ar .i64 (Zt s i w) fun z_2 => Need (Zn i qs) (Vif (Zp i qs) (K 0 [.i z_1, .i z_2, .i a, .i z, .i c, .i d, .b (Zy a), .ro _ qs, .ro _ ws, .i lo, .i hi, .l w, .l xs]) (Vif (Zr i qs) (K 0 [.i z_1, .i z_2, .i a, .i z, .i c, .i d, .b (decide (0 <= z)), .ro _ qs, .ro _ ws, .i lo, .i hi, .l w, .l xs]) (Vif (Zs i qs) (K 0 [.i z_1, .i z_2, .i a, .i z, .i c, .i d, .b (Zw c), .ro _ qs, .ro _ ws, .i lo, .i hi, .l w, .l xs]) (K 0 [.i z_1, .i z_2, .i a, .i z, .i c, .i d, .b (Zx d), .ro _ qs, .ro _ ws, .i lo, .i hi, .l w, .l xs]))))))) (Vif (Zs i qs) (Ar .i64 (i + 1) fun z_1 => Need (Zq i w) (Need (Zu i w) (Ar .i64 (Zt s i w) fun z_2 => Need (Zn i qs) (Vif (Zp i qs) (K 0 [.i z_1, .i z_2, .i a, .i b, .i z, .i d, .b (Zy a), .ro _ qs, .ro _ ws, .i lo, .i hi, .l w, .l xs]) (Vif (Zr i qs) (K 0 [.i z_1, .i z_2, .i a, .i b, .i z, .i d, .b (Zv b), .ro _ qs, .ro _ ws, .i lo, .i hi, .l w, .l xs]) (Vif (Zs i qs) (K 0 [.i z_1, .i z_2, .i a, .i b, .i z, .i d, .b (decide (0 <= z)), .ro _ qs, .ro _ ws, .i lo, .i hi, .l w, .l xs]) (K 0 [.i z_1, .i z_2, .i a, .i b, .i z, .i d, .b (Zx d), .ro _ qs, .ro _ ws, .i lo, .i hi, .l w, .l xs]))))))) (Ar .i64 (i + 1) fun z_1 => Need (Zq i w) (Need (Zu i w) (Ar .i64 (Zt s i w) fun z_2 => Need (Zn i qs) (Vif (Zp i qs) (K 0 [.i z_1, .i z_2, .i a, .i b, .i c, .i z, .b (Zy a), .ro _ qs, .ro _ ws, .i lo, .i hi, .l w, .l xs]) (Vif (Zr i qs) (K 0 [.i z_1, .i z_2, .i a, .i b, .i c, .i z, .b (Zv b), .ro _ qs, .ro _ ws, .i lo, .i hi, .l w, .l xs]) (Vif (Zs i qs) (K 0 [.i z_1, .i z_2, .i a, .i b, .i c, .i z, .b (Zw c), .ro _ qs, .ro _ ws, .i lo, .i hi, .l w, .l xs]) (K 0 [.i z_1, .i z_2, .i a, .i b, .i c, .i z, .b (decide (0 <= z)), .ro _ qs, .ro _ ws, .i lo, .i hi, .l w, .l xs]))))))))))) (Vif (Zs i qs) (Ar .i64 (c - 1) fun z => Need (Zn i qs) (Vif (Zp i qs) (Ar .i64 (i + 1) fun z_1 => Need (Zq i w) (Need (Zu i w) (Ar .i64 (Zt s i w) fun z_2 => Need (Zn i qs) (Vif (Zp i qs) (K 0 [.i z_1, .i z_2, .i z, .i b, .i c, .i d, .b (decide (0 <= z)), .ro _ qs, .ro _ ws, .i lo, .i hi, .l w, .l xs]) (Vif (Zr i qs) (K 0 [.i z_1, .i z_2, .i z, .i b, .i c, .i d, .b (Zv b), .ro _ qs, .ro _ ws, .i lo, .i hi, .l w, .l xs]) (Vif (Zs i qs) (K 0 [.i z_1, .i z_2, .i z, .i b, .i c, .i d, .b (Zw c), .ro _ qs, .ro _ ws, .i lo, .i hi, .l w, .l xs]) (K 0 [.i z_1, .i z_2, .i z, .i b, .i c, .i d, .b (Zx d), .ro _ qs, .ro _ ws, .i lo, .i hi, .l w, .l xs]))))))) (Vif (Zr i qs) (Ar .i64 (i + 1) fun z_1 => Need (Zq i w) (Need (Zu i w) (Ar .i64 (Zt s i w) fun z_2 => Need (Zn i qs) (Vif (Zp i qs) (K 0 [.i z_1, .i z_2, .i a, .i z, .i c, .i d, .b (Zy a), .ro _ qs, .ro _ ws, .i lo, .i hi, .l w, .l xs]) (Vif (Zr i qs) (K 0 [.i z_1, .i z_2, .i a, .i z, .i c, .i d, .b (decide (0 <= z)), .ro _ qs, .ro _ ws, .i lo, .i hi, .l w, .l xs]) (Vif (Zs i qs) (K 0 [.i z_1, .i z_2, .i a, .i z, .i c, .i d, .b (Zw c), .ro _ qs, .ro _ ws, .i lo, .i hi, .l w, .l xs]) (K 0 [.i z_1, .i z_2, .i a, .i z, .i c, .i d, .b (Zx d), .ro _ qs, .ro _ ws, .i lo, .i hi, .l w, .l xs]))))))) (Vif (Zs i qs) (Ar .i64 (i + 1) fun z_1 => Need (Zq i w) (Need (Zu i w) (Ar .i64 (Zt s i w) fun z_2 => Need (Zn i qs) (Vif (Zp i qs) (K 0 [.i z_1, .i z_2, .i a, .i b, .i z, .i d, .b (Zy a), .ro _ qs, .ro _ ws, .i lo, .i hi, .l w, .l xs]) (Vif (Zr i qs) (K 0 [.i z_1, .i z_2, .i a, .i b, .i z, .i d, .b (Zv b), .ro _ qs, .ro _ ws, .i lo, .i hi, .l w, .l xs]) (Vif (Zs i qs) (K 0 [.i z_1, .i z_2, .i a, .i b, .i z, .i d, .b (decide (0 <= z)), .ro _ qs, .ro _ ws, .i lo, .i hi, .l w, .l xs]) (K 0 [.i z_1, .i z_2, .i a, .i b, .i z, .i d, .b (Zx d), .ro _ qs, .ro _ ws, .i lo, .i hi, .l w, .l xs]))))))) (Ar .i64 (i + 1) fun z_1 => Need (Zq i w) (Need (Zu i w) (Ar .i64 (Zt s i w) fun z_2 => Need (Zn i qs) (Vif (Zp i qs) (K 0 [.i z_1, .i z_2, .i a, .i b, .i c, .i z, .b (Zy a), .ro _ qs, .ro _ ws, .i lo, .i hi, .l w, .l xs]) (Vif (Zr i qs) (K 0 [.i z_1, .i z_2, .i a, .i b, .i c, .i z, .b (Zv b), .ro _ qs, .ro _ ws, .i lo, .i hi, .l w, .l xs]) (Vif (Zs i qs) (K 0 [.i z_1, .i z_2, .i a, .i b, .i c, .i z, .b (Zw c), .ro _ qs, .ro _ ws, .i lo, .i hi, .l w, .l xs]) (K 0 [.i z_1, .i z_2, .i a, .i b, .i c, .i z, .b (decide (0 <= z)), .ro _ qs, .ro _ ws, .i lo, .i hi, .l w, .l xs]))))))))))) (Ar .i64 (d - 1) fun z => Need (Zn i qs) (Vif (Zp i qs) (Ar .i64 (i + 1) fun z_1 => Need (Zq i w) (Need (Zu i w) (Ar .i64 (Zt s i w) fun z_2 => Need (Zn i qs) (Vif (Zp i qs) (K 0 [.i z_1, .i z_2, .i z, .i b, .i c, .i d, .b (decide (0 <= z)), .ro _ qs, .ro _ ws, .i lo, .i hi, .l w, .l xs]) (Vif (Zr i qs) (K 0 [.i z_1, .i z_2, .i z, .i b, .i c, .i d, .b (Zv b), .ro _ qs, .ro _ ws, .i lo, .i hi, .l w, .l xs]) (Vif (Zs i qs) (K 0 [.i z_1, .i z_2, .i z, .i b, .i c, .i d, .b (Zw c), .ro _ qs, .ro _ ws, .i lo, .i hi, .l w, .l xs]) (K 0 [.i z_1, .i z_2, .i z, .i b, .i c, .i d, .b (Zx d), .ro _ qs, .ro _ ws, .i lo, .i hi, .l w, .l xs]))))))) (Vif (Zr i qs) (Ar .i64 (i + 1) fun z_1 => Need (Zq i w) (Need (Zu i w) (Ar .i64 (Zt s i w) fun z_2 => Need (Zn i qs) (Vif (Zp i qs) (K 0 [.i z_1, .i z_2, .i a, .i z, .i c, .i d, .b (Zy a), .ro _ qs, .ro _ ws, .i lo, .i hi, .l w, .l xs]) (Vif (Zr i qs) (K 0 [.i z_1, .i z_2, .i a, .i z, .i c, .i d, .b (decide (0 <= z)), .ro _ qs, .ro _ ws, .i lo, .i hi, .l w, .l xs]) (Vif (Zs i qs) (K 0 [.i z_1, .i z_2, .i a, .i z, .i c, .i d, .b (Zw c), .ro _ qs, .ro _ ws, .i lo, .i hi, .l w, .l xs]) (K 0 [.i z_1, .i z_2, .i a, .i z, .i c, .i d, .b (Zx d), .ro _ qs, .ro _ ws, .i lo, .i hi, .l w, .l xs]))))))) (Vif (Zs i qs) (Ar .i64 (i + 1) fun z_1 => Need (Zq i w) (Need (Zu i w) (Ar .i64 (Zt s i w) fun z_2 => Need (Zn i qs) (Vif (Zp i qs) (K 0 [.i z_1, .i z_2, .i a, .i b, .i z, .i d, .b (Zy a), .ro _ qs, .ro _ ws, .i lo, .i hi, .l w, .l xs]) (Vif (Zr i qs) (K 0 [.i z_1, .i z_2, .i a, .i b, .i z, .i d, .b (Zv b), .ro _ qs, .ro _ ws, .i lo, .i hi, .l w, .l xs]) (Vif (Zs i qs) (K 0 [.i z_1, .i z_2, .i a, .i b, .i z, .i d, .b (decide (0 <= z)), .ro _ qs, .ro _ ws, .i lo, .i hi, .l w, .l xs]) (K 0 [.i z_1, .i z_2, .i a, .i b, .i z, .i d, .b (Zx d), .ro _ qs, .ro _ ws, .i lo, .i hi, .l w, .l xs]))))))) (Ar .i64 (i + 1) fun z_1 => Need (Zq i w) (Need (Zu i w) (Ar .i64 (Zt s i w) fun z_2 => Need (Zn i qs) (Vif (Zp i qs) (K 0 [.i z_1, .i z_2, .i a, .i b, .i c, .i z, .b (Zy a), .ro _ qs, .ro _ ws, .i lo, .i hi, .l w, .l xs]) (Vif (Zr i qs) (K 0 [.i z_1, .i z_2, .i a, .i b, .i c, .i z, .b (Zv b), .ro _ qs, .ro _ ws, .i lo, .i hi, .l w, .l xs]) (Vif (Zs i qs) (K 0 [.i z_1, .i z_2, .i a, .i b, .i c, .i z, .b (Zw c), .ro _ qs, .ro _ ws, .i lo, .i hi, .l w, .l xs]) (K 0 [.i z_1, .i z_2, .i a, .i b, .i c, .i z, .b (decide (0 <= z)), .ro _ qs, .ro _ ws, .i lo, .i hi, .l w, .l xs]))))))))))))))))
theorem Xin (W : InW) (t s a b c d i qs ws lo hi w xs K) : Yw2 (cxT Try.prog TT T5 1000 50) 1000 53 [.ptr 4 0, .agg [.si .i64 t, .si .i64 s, .si .i64 a, .si .i64 b, .si .i64 c, .si .i64 d], .si .i64 i] [(4, .blk 82 [.rs _ qs, .rs _ ws, .si .i64 lo, .si .i64 hi, .rw 7, .mp 10]), (7, .arr 3 Jb w), (10, .obj (.mpP xs))] (fun v h => outC Xe.H [.ro _ qs, .ro _ ws, .i lo, .i hi, .l w, .l xs] Xe.outs 0 false v h K) (fun v h => outC Xe.H [.ro _ qs, .ro _ ws, .i lo, .i hi, .l w, .l xs] Xe.outs 0 true v h K) = Xdf t s a b c d i qs ws lo hi w xs K := by kernel_rfl
theorem Xjx (hyp_ : ∀ (W : InW) t s a b c d i qs ws lo hi w xs K, Xhm [.i t, .i s, .i a, .i b, .i c, .i d, .i i, .ro _ qs, .ro _ ws, .i lo, .i hi, .l w, .l xs] K -> Xdf t s a b c d i qs ws lo hi w xs K) : ∀ W : InW, @CallC W Try.prog Xe :=
 CC.okOf (fun W => @TT W) (fun W => @Xc W) Xa T5 1000 50 Xe fun W t s a b c d i qs ws lo hi w xs K hs => (Xin W t s a b c d i qs ws lo hi w xs K).mpr (hyp_ W t s a b c d i qs ws lo hi w xs K hs)
theorem Xu : ∀ W : InW, @CallC W Try.prog Xf := Xj2 fun W qs ws lo hi w xs K hs => by
 unfold Xdk;exact hs
theorem Xm : ∀ W : InW, @CallC W Try.prog Xe := Xjx fun W t s a b c d i qs ws lo hi w xs K hs => by
 obtain ⟨⟨bk, st, h0, h1⟩, hk⟩ := hs;unfold Xdf;delta Zs Zr Zp Zn Zw Zo Zv Zy Zt Zu Zq Zx;obtain ⟨t0, t1, s0, s1, ⟨va, vb, vc, vd⟩⟩ := st;have hp := bk.part i.toNat (by omega);obtain ⟨w1, w2, w3⟩ := bk.wt i.toNat (by omega);have hl := bk.len;have hf := bk.few;simp only at va vb vc vd;unfold Sp.qPart at hp hk;have d1 : ∀ x : Int, decide (0 <= x - 1) = decide (1 <= x) := fun x => by congr 1; simp only [eq_iff_iff]; omega
 have hc : (cel qs.xs i.toNat 0).int = 0 \/ (cel qs.xs i.toNat 0).int = 1 \/ (cel qs.xs i.toNat 0).int = 2 \/ (cel qs.xs i.toNat 0).int = 3 := by omega
 rcases hc with e | e | e | e
 all_goals
  simp only [e, w1, Sp.V4.dec, Sp.V4.get, if_true, if_neg (show ¬ (1 : Int) = 0 by omega), if_neg (show ¬ (2 : Int) = 0 by omega), if_neg (show ¬ (2 : Int) = 1 by omega), if_neg (show ¬ (3 : Int) = 0 by omega), if_neg (show ¬ (3 : Int) = 1 by omega), if_neg (show ¬ (3 : Int) = 2 by omega)] at hk ⊢
  repeat' (first | omega|intro _|with_reducible first|apply vifd|apply vifn|apply vifq|apply X0|apply Xz|apply vifb|apply vif|apply nedd|apply ned2|apply ned|apply ar64|apply Xj|exact True.intro|assumption|rfl|apply And.intro)
 all_goals first | (rw [d1]; exact hk) | (simp_all; done) | skip
 all_goals trace_state
def Xd5 (m : Nat) [InW] (e : List Ed) (K : Nat -> List Ed -> Prop) : Prop := match e with
 | [.i t, .i s, .i a, .i b, .i c, .i d, .ro _ qs, .ro _ ws, .i lo, .i hi, .l w, .l xs] => Pre (Sp.BkOk qs.xs ws.xs lo hi w /\ Sp.StOk qs.xs t s ⟨a, b, c, d⟩ /\ Sp.MemoOk qs.xs lo hi xs /\ qs.xs.length - t.toNat < m)
   (Sp.FaM (Sp.MemoOk qs.xs lo hi) fun ys => K 0 [.i (Sp.cnt qs.xs lo hi (qs.xs.length - t.toNat) s ⟨a, b, c, d⟩), .ro _ qs, .ro _ ws, .i lo, .i hi, .l w, .l ys])
 | _ => False
noncomputable def Xg (m : Nat) : CC where
 g := 46
 args := [(.ptr 4 0), .agg [.int .i64, .int .i64, .int .i64, .int .i64, .int .i64, .int .i64]]
 H := [(4, .blk 82 [.rs Ja, .rs Jb, .int .i64, .int .i64, (.row 7), (.mp 10)]), (7, .arr 3 Jb), (10, .mpP)]
 outs := [⟨false, .int .i64, [(4, .blk 82 [.rs Ja, .rs Jb, .int .i64, .int .i64, (.row 7), (.mp 10)]), (7, .arr 3 Jb), (10, .mpP)], false⟩]
 spec := Xd5 m
def Xd6 (m : Nat) [InW] (e : List Ed) (K : Nat -> List Ed -> Prop) : Prop := match e with
 | [.i n, .i i, .ro _ qs, .ro _ ws, .i lo, .i hi, .l w, .l xs, .i t, .i s, .i a, .i b, .i c, .i d] => Pre (Sp.BkOk qs.xs ws.xs lo hi w /\ Sp.StOk qs.xs t s ⟨a, b, c, d⟩ /\ Sp.V4.nil ⟨a, b, c, d⟩ = false /\ Sp.MemoOk qs.xs lo hi xs /\ qs.xs.length - t.toNat < m + 1 /\ t <= i /\ i <= qs.xs.length /\ 0 <= n /\ n + Sp.cnt qs.xs lo hi (qs.xs.length - i.toNat) s ⟨a, b, c, d⟩ <= 65536)
   (Sp.FaM (Sp.MemoOk qs.xs lo hi) fun ys => K 0 [.i (n + Sp.cnt qs.xs lo hi (qs.xs.length - i.toNat) s ⟨a, b, c, d⟩), .ro _ qs, .ro _ ws, .i lo, .i hi, .l w, .l ys, .i t, .i s, .i a, .i b, .i c, .i d])
 | _ => False
noncomputable def Xb0 (m : Nat) : LC where
 len := 72
 T := [(0, (.ptr 4 0)), (3, (.ptr 13 0)), (4, .int .i64), (6, .int .i64)]
 H := [(4, .blk 82 [.rs Ja, .rs Jb, .int .i64, .int .i64, (.row 7), (.mp 10)]), (7, .arr 3 Jb), (10, .mpP), (13, .blk 86 [.int .i64, .int .i64, .int .i64, .int .i64, .int .i64, .int .i64])]
 W := ([7, 8] ++ rg 42 23)
 outs := [⟨.exit 0, [(0, (.ptr 4 0)), (3, (.ptr 13 0)), (4, .int .i64)], [(4, .blk 82 [.rs Ja, .rs Jb, .int .i64, .int .i64, (.row 7), (.mp 10)]), (7, .arr 3 Jb), (10, .mpP), (13, .blk 86 [.int .i64, .int .i64, .int .i64, .int .i64, .int .i64, .int .i64])], ([6, 7, 8] ++ rg 42 23)⟩]
 spec := Xd6 m
def Zz [W : InW] (i : Int) (qs : Ro Ja) (a b c d : Int) := Sp.V4.dec { a := a, b := b, c := c, d := d } (Sp.qPart qs.xs i.toNat)
def Xdc [W : InW] (m : Nat) (n i : Int) (qs : Ro Ja) (ws : Ro Jb) (lo hi : Int) (w xs : Dt) (t s a b c d : Int) (A : List Ed -> Prop) (K : Nat -> List Ed -> Prop) : Prop :=
 Vif (decide (i < (↑(qs.xs.length) : Int))) (Pre (Sp.BkOk qs.xs ws.xs lo hi w /\ Sp.StOk qs.xs t s { a := a, b := b, c := c, d := d } /\ t <= i /\ i < (↑(qs.xs.length) : Int)) (Vif (decide ((1 : Int) <= Sp.V4.get { a := a, b := b, c := c, d := d } (Sp.qPart qs.xs i.toNat))) (Pre (Sp.BkOk qs.xs ws.xs lo hi w /\ Sp.StOk qs.xs (i + 1) (s + Sp.wt qs.xs i.toNat) { a := (Zz i qs a b c d).1, b := (Zz i qs a b c d).2, c := (Zz i qs a b c d).3, d := (Zz i qs a b c d).4 } /\ Sp.MemoOk qs.xs lo hi xs /\ qs.xs.length - (i + 1).toNat < m) (Sp.FaM (Sp.MemoOk qs.xs lo hi) fun ys => Ar .i64 (n + Sp.cnt qs.xs lo hi (qs.xs.length - (i + 1).toNat) (s + Sp.wt qs.xs i.toNat) { a := (Zz i qs a b c d).1, b := (Zz i qs a b c d).2, c := (Zz i qs a b c d).3, d := (Zz i qs a b c d).4 }) fun z => Ar .i64 (i + 1) fun z_1 => A [.i z, .i z_1, .ro _ qs, .ro _ ws, .i lo, .i hi, .l w, .l ys, .i t, .i s, .i a, .i b, .i c, .i d])) (Ar .i64 (i + 1) fun z => A [.i n, .i z, .ro _ qs, .ro _ ws, .i lo, .i hi, .l w, .l xs, .i t, .i s, .i a, .i b, .i c, .i d]))) (K 0 [.i n, .ro _ qs, .ro _ ws, .i lo, .i hi, .l w, .l xs, .i t, .i s, .i a, .i b, .i c, .i d])
theorem Xik (W : InW) (m h n i qs ws lo hi w xs t s a b c d A K) : Yff { cxT Try.prog TT (⟨[], [], [ceOf (Xg m) h, ceOf Xe Xm]⟩) 1000 50 with fn := 46 } 1000 (Yob Try.prog 46 11) (Yd6 72 [(0, .ptr 4 0), (3, .ptr 13 0), (4, .si .i64 n), (6, .si .i64 i)] ([7, 8] ++ rg 42 23)) [(4, .blk 82 [.rs _ qs, .rs _ ws, .si .i64 lo, .si .i64 hi, .rw 7, .mp 10]), (7, .arr 3 Jb w), (10, .obj (.mpP xs)), (13, .blk 86 [.si .i64 t, .si .i64 s, .si .i64 a, .si .i64 b, .si .i64 c, .si .i64 d])] (Yut (Xb0 m) A K) = Xdc m n i qs ws lo hi w xs t s a b c d A K := by kernel_rfl
def Xx (m : Nat) : Prop := ∀ (W : InW) (body a : Code), (Try.prog.funcs[46]?).bind (·.body) = some body -> a ∈ Yy body -> Yf0 a = 11 -> @Yms W Try.prog a (@Ytz W (Xb0 m))
theorem Xju (m : Nat) (h : ∀ W : InW, @CallC W Try.prog (Xg m)) (meas : [InW] -> List Ed -> Nat) (hyp_ : ∀ (W : InW) n i qs ws lo hi w xs t s a b c d K, Xd6 m [.i n, .i i, .ro _ qs, .ro _ ws, .i lo, .i hi, .l w, .l xs, .i t, .i s, .i a, .i b, .i c, .i d] K -> ∀ A : List Ed -> Prop, (∀ e, meas e < meas [.i n, .i i, .ro _ qs, .ro _ ws, .i lo, .i hi, .l w, .l xs, .i t, .i s, .i a, .i b, .i c, .i d] -> Xd6 m e K -> A e) -> Xdc m n i qs ws lo hi w xs t s a b c d A K) : Xx m :=
 LE.okOf' (fun W => @TT W) (fun W => @Xc W) Xa (⟨[], [], [ceOf (Xg m) h, ceOf Xe Xm]⟩) 1000 50 (by kernel_rfl) (Xb0 m) (fun W => @meas W) fun W n i qs ws lo hi w xs t s a b c d K hs =>
  (Xik W m h n i qs ws lo hi w xs t s a b c d (fun e => meas e < meas [.i n, .i i, .ro _ qs, .ro _ ws, .i lo, .i hi, .l w, .l xs, .i t, .i s, .i a, .i b, .i c, .i d] /\ Xd6 m e K) K).mpr (hyp_ W n i qs ws lo hi w xs t s a b c d K hs _ fun e h1 h2 => ⟨h1, h2⟩)
def Xhq (m : Nat) [InW] (e : List Ed) (K : Nat -> List Ed -> Prop) : Prop := Xd5 (m + 1) e K
noncomputable def X3 (m : Nat) : CC where
 g := 46
 args := [(.ptr 4 0), .agg [.int .i64, .int .i64, .int .i64, .int .i64, .int .i64, .int .i64]]
 H := [(4, .blk 82 [.rs Ja, .rs Jb, .int .i64, .int .i64, (.row 7), (.mp 10)]), (7, .arr 3 Jb), (10, .mpP)]
 outs := [⟨false, .int .i64, [(4, .blk 82 [.rs Ja, .rs Jb, .int .i64, .int .i64, (.row 7), (.mp 10)]), (7, .arr 3 Jb), (10, .mpP)], false⟩]
 spec := Xhq m
def Xdj [W : InW] (m : Nat) (t s a b c d : Int) (qs : Ro Ja) (ws : Ro Jb) (lo hi : Int) (w xs : Dt) (K : Nat -> List Ed -> Prop) : Prop :=
 Vif (decide (a = 0) && (decide (b = 0) && (decide (c = 0) && (decide (d = 0) && true)))) (Pre True (Vif (Sp.out lo hi [[Cl.i s]]) (K 0 [.i Zk, .ro _ qs, .ro _ ws, .i lo, .i hi, .l w, .l xs]) (K 0 [.i (1 : Int), .ro _ qs, .ro _ ws, .i lo, .i hi, .l w, .l xs]))) (Vif (hasP xs [Cl.i t, Cl.i s, Cl.i a, Cl.i b, Cl.i c, Cl.i d]) (K 0 [.i (getP xs [Cl.i t, Cl.i s, Cl.i a, Cl.i b, Cl.i c, Cl.i d]), .ro _ qs, .ro _ ws, .i lo, .i hi, .l w, .l xs]) (Pre (Sp.BkOk qs.xs ws.xs lo hi w /\ Sp.StOk qs.xs t s { a := a, b := b, c := c, d := d } /\ Sp.V4.nil { a := a, b := b, c := c, d := d } = false /\ Sp.MemoOk qs.xs lo hi xs /\ qs.xs.length - t.toNat < m + 1 /\ t <= t /\ t <= (↑(qs.xs.length) : Int) /\ Zk <= 0 /\ Zk + Sp.cnt qs.xs lo hi (qs.xs.length - t.toNat) s { a := a, b := b, c := c, d := d } <= (65536 : Int)) (Sp.FaM (Sp.MemoOk qs.xs lo hi) fun ys => K 0 [.i (Zk + Sp.cnt qs.xs lo hi (qs.xs.length - t.toNat) s { a := a, b := b, c := c, d := d }), .ro _ qs, .ro _ ws, .i lo, .i hi, .l w, .l (setP ys [Cl.i t, Cl.i s, Cl.i a, Cl.i b, Cl.i c, Cl.i d] (Zk + Sp.cnt qs.xs lo hi (qs.xs.length - t.toNat) s { a := a, b := b, c := c, d := d }))])))
theorem Xir (W : InW) (m h t s a b c d qs ws lo hi w xs K) : Yw2 (cxT Try.prog TT (⟨[Xi], [⟨46, 11, fun W => @Ytz W (Xb0 m), h⟩], []⟩) 1000 50) 1000 46 [.ptr 4 0, .agg [.si .i64 t, .si .i64 s, .si .i64 a, .si .i64 b, .si .i64 c, .si .i64 d]] [(4, .blk 82 [.rs _ qs, .rs _ ws, .si .i64 lo, .si .i64 hi, .rw 7, .mp 10]), (7, .arr 3 Jb w), (10, .obj (.mpP xs))] (fun v h => outC (X3 m).H [.ro _ qs, .ro _ ws, .i lo, .i hi, .l w, .l xs] (X3 m).outs 0 false v h K) (fun v h => outC (X3 m).H [.ro _ qs, .ro _ ws, .i lo, .i hi, .l w, .l xs] (X3 m).outs 0 true v h K) = Xdj m t s a b c d qs ws lo hi w xs K := by kernel_rfl
theorem Xj1 (m : Nat) (h : Xx m) (hyp_ : ∀ (W : InW) t s a b c d qs ws lo hi w xs K, Xhq m [.i t, .i s, .i a, .i b, .i c, .i d, .ro _ qs, .ro _ ws, .i lo, .i hi, .l w, .l xs] K -> Xdj m t s a b c d qs ws lo hi w xs K) : ∀ W : InW, @CallC W Try.prog (X3 m) :=
 CC.okOf (fun W => @TT W) (fun W => @Xc W) Xa (⟨[Xi], [⟨46, 11, fun W => @Ytz W (Xb0 m), h⟩], []⟩) 1000 50 (X3 m) fun W t s a b c d qs ws lo hi w xs K hs => (Xir W m h t s a b c d qs ws lo hi w xs K).mpr (hyp_ W t s a b c d qs ws lo hi w xs K hs)
theorem Xl7 (m : Nat) (hc : ∀ W : InW, @CallC W Try.prog (Xg m)) : Xx m := Xju m hc (fun e => match e with | _ :: .i i :: .ro _ qs :: _ => ((qs.xs.length : Int) - i).toNat | _ => 0) fun W n i qs ws lo hi w xs t s a b c d K hs A hA => by
 obtain ⟨⟨bk, st, hv, mo, fu, h0, h1, n0, n1⟩, ⟨hk⟩⟩ := hs;unfold Xdc;delta Zz;have hf := bk.few;have ht := st.a0
 by_cases hi' : i < qs.xs.length
 ·have hc := Sp.cnt_at (qs := qs.xs) (lo := lo) (hi := hi) (s := s) hv (by omega) hi';have hl : ((qs.xs.length : Int) - (i + 1)).toNat < ((qs.xs.length : Int) - i).toNat := by omega
  have b1 := Sp.cnt_16 (qs := qs.xs) (lo := lo) (hi := hi) (m := qs.xs.length - (i + 1).toNat) (by omega) s ⟨a, b, c, d⟩;have b2 := Sp.cnt_16 (qs := qs.xs) (lo := lo) (hi := hi) (m := qs.xs.length - (i + 1).toNat) (by omega) (s + Sp.wt qs.xs i.toNat) (Sp.V4.dec ⟨a, b, c, d⟩ (Sp.qPart qs.xs i.toNat));refine vifd (fun _ => ?_) (fun h => absurd hi' h);refine ⟨⟨bk, st, h0, hi'⟩, vifd (fun hg => ?_) (fun hg => ?_)⟩
  ·rw [if_pos hg] at hc;refine ⟨⟨bk, st.step bk h0 hi' hg, mo, by omega⟩, ⟨fun ys hy => ar64 (by omega) (ar64 (by omega) (hA _ hl ⟨⟨bk, st, hv, hy, fu, by omega, by omega, by omega, by omega⟩, ⟨fun zs hz => ?_⟩⟩))⟩⟩;have := hk zs hz;rw [hc, <- Int.add_assoc] at this;exact this
  ·rw [if_neg hg] at hc;refine ar64 (by omega) (hA _ hl ⟨⟨bk, st, hv, mo, fu, by omega, by omega, by omega, by omega⟩, ⟨fun zs hz => ?_⟩⟩);have := hk zs hz;rw [hc, Int.zero_add] at this;exact this
 ·refine vifd (fun h => absurd h hi') (fun _ => ?_);have := hk xs mo;rw [show qs.xs.length - i.toNat = 0 by omega, Sp.cnt_zero hv, Int.add_zero] at this;exact this
theorem Xma (m : Nat) (h : Xx m) : ∀ W : InW, @CallC W Try.prog (X3 m) := Xj1 m h fun W t s a b c d qs ws lo hi w xs K hs => by
 obtain ⟨⟨bk, st, mo, fu⟩, ⟨hk⟩⟩ := hs;unfold Xdj;delta Zk;have hf := bk.few;have b1 := Sp.cnt_16 (qs := qs.xs) (lo := lo) (hi := hi) (m := qs.xs.length - t.toNat) (by omega) s ⟨a, b, c, d⟩;refine vif (fun hv => ?_) (fun hv => ?_)
 ·have hv : Sp.V4.nil ⟨a, b, c, d⟩ = true := by simpa [Sp.V4.nil, and_assoc] using hv
  have := hk xs mo;rw [Sp.cnt_nil hv] at this;refine ⟨trivial, ?_⟩;rw [out1];refine vif (fun ho => ?_) (fun ho => ?_)
  ·rw [if_neg (by simpa using ho)] at this; exact this
  ·rw [if_pos (by simpa using ho)] at this; exact this
 ·have hv : Sp.V4.nil ⟨a, b, c, d⟩ = false := by
   rw [<- Bool.not_eq_true] at hv ⊢;intro h2;exact hv (by simpa [Sp.V4.nil, and_assoc] using h2)
  have eq : ∀ u, Sp.cntQ qs.xs lo hi [Cl.i t, Cl.i s, Cl.i a, Cl.i b, Cl.i c, Cl.i d] = u ↔ Sp.cnt qs.xs lo hi (qs.xs.length - t.toNat) s ⟨a, b, c, d⟩ = u := fun u => Iff.rfl;refine vif (fun hh => ?_) (fun hh => ?_)
  ·have := hk xs mo;rw [mo.ok _ hh];exact this
  ·refine ⟨⟨bk, st, hv, mo, fu, by omega, st.a1, by omega, by omega⟩, ⟨fun ys hy => ?_⟩⟩;rw [Int.zero_add];exact hk _ (Sp.memo_set hy rfl)
theorem Xk : ∀ (m : Nat) (W : InW), @CallC W Try.prog (Xg m)
 | 0, W => fun xs ys e1 e2 m1 n1 K hs => by
  have hs : Xd5 0 (e1 ++ e2) K := hs;unfold Xd5 at hs
  split at hs
  ·obtain ⟨⟨_, _, _, h⟩, _⟩ := hs;exact absurd h (Nat.not_lt_zero _)
  ·exact hs.elim
 | m + 1, W => Xma m (Xl7 m (Xk m)) W
namespace Sp
structure BankV (qs ws : Dt) (lo hi : Int) : Prop where
 n1 : 1 <= qs.length
 n2 : qs.length <= 16
 w1 : 1 <= ws.length
 w2 : ws.length <= 4
 l0 : 0 <= lo
 lh : lo <= hi
 hh : hi <= 16000
 part : ∀ i, i < qs.length -> 0 <= qPart qs i /\ qPart qs i <= ws.length - 1
 ask : ∀ i, i < qs.length -> 0 <= qAsk qs i /\ qAsk qs i <= 100000
 bad : ∀ i, i < qs.length -> 0 <= qBad qs i /\ qBad qs i <= qAsk qs i
 want : ∀ p, p < ws.length -> 1 <= (cel ws p 0).int /\ (cel ws p 0).int <= many qs p qs.length
theorem chkE_iff {qs ws : Dt} {lo hi : Int} : chkE qs ws lo hi = 0 ↔ BankV qs ws lo hi := by
  constructor
  · intro h;unfold chkE chk at h
    split at h
    · rename_i h1
      split at h
      · rename_i h2
        split at h
        · simp at h
        · rename_i h3
          split at h
          · rename_i h4;exact absurd h (hasE_ix h4).2.2
          · rename_i h4
            split at h
            · rename_i h5;exact absurd h (hasE_ix h5).2.2
            · rename_i h5;simp only [Bool.and_eq_true, inr_iff] at h1 h2;simp only [Bool.not_eq_true] at h4 h5;have hq : ∀ i, i < qs.length -> (0 <= qPart qs i /\ qPart qs i <= ws.length - 1) /\ (0 <= qAsk qs i /\ qAsk qs i <= 100000) /\ (0 <= qBad qs i /\ qBad qs i <= qAsk qs i) := fun i hi => by
                have := hasE_no h4 i (by omega) (by omega);unfold qErr at this
                split at this
                · rename_i a1
                  split at this
                  · rename_i a2
                    split at this
                    · rename_i a3;exact ⟨inr_iff.1 a1, inr_iff.1 a2, inr_iff.1 a3⟩
                    · omega
                  · omega
                · omega
              refine ⟨by omega, by omega, by omega, by omega, by omega, by omega, by omega, fun i hi => (hq i hi).1, fun i hi => (hq i hi).2.1, fun i hi => (hq i hi).2.2, fun p hp => ?_⟩;have := hasE_no h5 p (by omega) (by omega);unfold wErr at this
              split at this
              · rename_i a1; exact inr_iff.1 a1
              · omega
      · simp at h
    · simp at h
  · intro h;unfold chkE chk;rw [if_pos (by simp only [Bool.and_eq_true, inr_iff]; have := h.n1; have := h.n2; have := h.w1; have := h.w2; omega),
      if_pos (by simp only [Bool.and_eq_true, inr_iff]; have := h.l0; have := h.lh; have := h.hh; omega), if_neg (by have := h.lh; omega),
      if_neg (by rw [hasE_of fun i _ hi => ?_]; · simp
                 · unfold qErr; rw [if_pos (inr_iff.2 (h.part i (by omega))), if_pos (inr_iff.2 (h.ask i (by omega))), if_pos (inr_iff.2 (h.bad i (by omega)))]),
      if_neg (by rw [hasE_of fun i _ hi => ?_]; · simp
                 · unfold wErr; rw [if_pos (inr_iff.2 (h.want i (by omega)))])]
theorem BankV.wt {qs ws : Dt} {lo hi : Int} (h : BankV qs ws lo hi) {i : Nat} (hi' : i < qs.length) : 0 <= Sp.wt qs i /\ Sp.wt qs i <= 1000 := by
 have a := h.ask i hi';have b := h.bad i hi';unfold Sp.wt
 split
 ·omega
 ·rename_i hz;rw [Int.tdiv_eq_ediv_of_nonneg (by omega)];constructor
  ·exact Int.ediv_nonneg (by omega) (by omega)
  ·exact Int.ediv_le_of_le_mul (by omega) (by omega)
def wts (qs : Dt) (n : Nat) : Dt := (List.range n).map fun i => [.i (Sp.wt qs i)]
theorem length_wts (qs : Dt) (n : Nat) : (wts qs n).length = n := by simp [wts]
theorem wts_succ (qs : Dt) (n : Nat) : wts qs (n + 1) = wts qs n ++ [[.i (Sp.wt qs n)]] := by simp [wts, List.range_succ]
theorem cel_wts {qs : Dt} {n i : Nat} (h : i < n) : (cel (wts qs n) i 0).int = Sp.wt qs i := by
 simp [cel, wts, h, Cl.int, List.getD_eq_getElem?_getD]
theorem BankV.bk {qs ws : Dt} {lo hi : Int} (h : BankV qs ws lo hi) : BkOk qs ws lo hi (wts qs qs.length) :=
 ⟨h.n2, fun i hi => by have := h.part i hi; have := h.w2; omega, length_wts _ _, fun i hi => ⟨cel_wts hi, (h.wt hi).1, (h.wt hi).2⟩⟩
def v0 (ws : Dt) : V4 := ⟨(cel ws 0 0).int, (cel ws 1 0).int, (cel ws 2 0).int, (cel ws 3 0).int⟩
theorem BankV.w16 {qs ws : Dt} {lo hi : Int} (h : BankV qs ws lo hi) (p : Nat) : 0 <= (cel ws p 0).int /\ (cel ws p 0).int <= 16 := by
 have h2 := h.n2
 by_cases hp : p < ws.length
 ·have := h.want p hp;have := many_bound qs p qs.length;omega
 ·rw [show cel ws p 0 = .z by simp [cel, List.getD_eq_getElem?_getD, List.getElem?_eq_none (Nat.le_of_not_lt hp)]];simp [Cl.int]
theorem BankV.st {qs ws : Dt} {lo hi : Int} (h : BankV qs ws lo hi) : StOk qs 0 0 (v0 ws) :=
 ⟨by omega, by omega, by omega, by omega, ⟨h.w16 0, h.w16 1, h.w16 2, h.w16 3⟩⟩
theorem V4.get_nil {v : V4} (h : V4.nil v = true) (p : Int) : V4.get v p = 0 := by
 simp only [V4.nil, Bool.and_eq_true, decide_eq_true_eq] at h;obtain ⟨⟨⟨h1, h2⟩, h3⟩, h4⟩ := h;unfold V4.get
 split
 ·exact h1
 ·split
  ·exact h2
  ·split
   ·exact h3
   ·exact h4
theorem cnt_at' {qs : Dt} {lo hi s : Int} {v : V4} {i : Int} (h0 : 0 <= i) (h1 : i < qs.length) :
  cnt qs lo hi (qs.length - i.toNat) s v = (if 1 <= V4.get v (qPart qs i.toNat) then cnt qs lo hi (qs.length - (i + 1).toNat) (s + wt qs i.toNat) (V4.dec v (qPart qs i.toNat)) else 0) + cnt qs lo hi (qs.length - (i + 1).toNat) s v := by
 cases hv : V4.nil v with
 | true => rw [if_neg (by rw [V4.get_nil hv]; omega), cnt_nil hv, cnt_nil hv, Int.zero_add]
 | false => exact cnt_at hv h0 h1
theorem cnt_pos {qs : Dt} {lo hi s : Int} {v : V4} {m : Nat} : 0 <= cnt qs lo hi m s v := (cnt_bound qs lo hi m s v).1
theorem cnt_mono {qs : Dt} {lo hi s : Int} {v : V4} {i : Int} : ∀ (k : Nat), 0 <= i -> i + k <= qs.length -> cnt qs lo hi (qs.length - (i + k).toNat) s v <= cnt qs lo hi (qs.length - i.toNat) s v
 | 0, _, _ => by simp
 | k + 1, h0, h1 => by
  have h2 := cnt_mono (qs := qs) (lo := lo) (hi := hi) (s := s) (v := v) (i := i) k h0 (by omega);have h3 := cnt_at' (qs := qs) (lo := lo) (hi := hi) (s := s) (v := v) (i := i + k) (by omega) (by omega);have h4 : 0 <= (if 1 <= V4.get v (qPart qs (i + k).toNat) then cnt qs lo hi (qs.length - (i + k + 1).toNat) (s + wt qs (i + k).toNat) (V4.dec v (qPart qs (i + k).toNat)) else 0) := by
   split
   ·exact cnt_pos
   ·omega
  rw [show i + ((k + 1 : Nat) : Int) = i + k + 1 by omega];omega
def nthD (qs : Dt) (lo hi : Int) (m : Nat) (s : Int) (v : V4) (k : Int) : Dt := (gen qs lo hi m s v).getD k.toNat []
theorem nth_nil {qs : Dt} {lo hi s k : Int} {v : V4} {m : Nat} (h : V4.nil v = true) : nthD qs lo hi m s v k = [] := by
 unfold nthD;rw [gen_nil h]
 split
 ·cases k.toNat <;> simp
 ·simp
theorem nth_at {qs : Dt} {lo hi s k : Int} {v : V4} (h : V4.nil v = false) {i : Int} (h0 : 0 <= i) (h1 : i < qs.length) (k0 : 0 <= k) :
  (1 <= V4.get v (qPart qs i.toNat) -> k < cnt qs lo hi (qs.length - (i + 1).toNat) (s + wt qs i.toNat) (V4.dec v (qPart qs i.toNat)) ->
   nthD qs lo hi (qs.length - i.toNat) s v k = [Cl.i i] :: nthD qs lo hi (qs.length - (i + 1).toNat) (s + wt qs i.toNat) (V4.dec v (qPart qs i.toNat)) k) /\
  (1 <= V4.get v (qPart qs i.toNat) -> ¬ k < cnt qs lo hi (qs.length - (i + 1).toNat) (s + wt qs i.toNat) (V4.dec v (qPart qs i.toNat)) ->
   nthD qs lo hi (qs.length - i.toNat) s v k = nthD qs lo hi (qs.length - (i + 1).toNat) s v (k - cnt qs lo hi (qs.length - (i + 1).toNat) (s + wt qs i.toNat) (V4.dec v (qPart qs i.toNat)))) /\
  (¬ 1 <= V4.get v (qPart qs i.toNat) -> nthD qs lo hi (qs.length - i.toNat) s v k = nthD qs lo hi (qs.length - (i + 1).toNat) s v k) := by
 have e : qs.length - i.toNat = (qs.length - (i + 1).toNat) + 1 := by omega
 unfold nthD;rw [e, gen_succ h (i := i.toNat) (by omega)];refine ⟨fun hg hk => ?_, fun hg hk => ?_, fun hg => ?_⟩
 ·rw [if_pos hg];unfold cnt at hk;rw [List.getD_eq_getElem?_getD, List.getElem?_append_left (by simp; omega), List.getElem?_map, List.getElem?_eq_getElem (by omega), List.getD_eq_getElem?_getD, List.getElem?_eq_getElem (by omega)];simp [Int.toNat_of_nonneg h0]
 ·rw [if_pos hg];unfold cnt at hk ⊢;rw [List.getD_eq_getElem?_getD, List.getElem?_append_right (by simp; omega), List.getD_eq_getElem?_getD]
  congr 2
  simp
 ·rw [if_neg hg]; rfl
structure NthR where
 k : Int
 l : Dt
 t : Int
 s : Int
 v : V4
def nthI (qs : Dt) (lo hi : Int) : Nat -> Int -> V4 -> Int -> Dt -> NthR
  | 0, s, v, k, l => ⟨k, l, qs.length, s, v⟩
  | m + 1, s, v, k, l =>
    if 1 <= V4.get v (qPart qs (qs.length - (m + 1))) then
      (if k < cnt qs lo hi m (s + wt qs (qs.length - (m + 1))) (V4.dec v (qPart qs (qs.length - (m + 1)))) then
        ⟨k, l ++ [[.i ((qs.length - (m + 1) : Nat) : Int)]], ((qs.length - (m + 1) : Nat) : Int) + 1, s + wt qs (qs.length - (m + 1)), V4.dec v (qPart qs (qs.length - (m + 1)))⟩
       else nthI qs lo hi m s v (k - cnt qs lo hi m (s + wt qs (qs.length - (m + 1))) (V4.dec v (qPart qs (qs.length - (m + 1))))) l)
    else nthI qs lo hi m s v k l
theorem nthI_at {qs : Dt} {lo hi s k : Int} {v : V4} {l : Dt} {i : Int} (h0 : 0 <= i) (h1 : i < qs.length) :
    nthI qs lo hi (qs.length - i.toNat) s v k l = if 1 <= V4.get v (qPart qs i.toNat) then
      (if k < cnt qs lo hi (qs.length - (i + 1).toNat) (s + wt qs i.toNat) (V4.dec v (qPart qs i.toNat)) then ⟨k, l ++ [[.i i]], i + 1, s + wt qs i.toNat, V4.dec v (qPart qs i.toNat)⟩
       else nthI qs lo hi (qs.length - (i + 1).toNat) s v (k - cnt qs lo hi (qs.length - (i + 1).toNat) (s + wt qs i.toNat) (V4.dec v (qPart qs i.toNat))) l)
    else nthI qs lo hi (qs.length - (i + 1).toNat) s v k l := by
  rw [show qs.length - i.toNat = (qs.length - (i + 1).toNat) + 1 by omega, nthI];have e : qs.length - (qs.length - (i + 1).toNat + 1) = i.toNat := by omega
  rw [e, Int.toNat_of_nonneg h0]
structure NthOk (qs : Dt) (lo hi : Int) (m : Nat) (t s : Int) (v : V4) (k : Int) (l : Dt) (r : NthR) : Prop where
 k0 : 0 <= r.k
 k1 : r.k < cnt qs lo hi (qs.length - r.t.toNat) r.s r.v
 st : StOk qs r.t r.s r.v
 t1 : t < r.t
 l1 : l ++ nthD qs lo hi m s v k = r.l ++ nthD qs lo hi (qs.length - r.t.toNat) r.s r.v r.k
 l2 : r.l.length = l.length + 1
theorem nthI_ok {qs ws w : Dt} {lo hi t s : Int} {v : V4} {l : Dt} (bk : BkOk qs ws lo hi w) (st : StOk qs t s v) (hv : V4.nil v = false) : ∀ (m : Nat) (i k : Int), (qs.length : Int) - i = m -> t <= i -> 0 <= k -> k < cnt qs lo hi (qs.length - i.toNat) s v ->
  NthOk qs lo hi (qs.length - i.toNat) t s v k l (nthI qs lo hi (qs.length - i.toNat) s v k l)
 | 0, i, k, hm, ht, k0, k1 => by
  rw [show qs.length - i.toNat = 0 by omega, cnt_zero hv] at k1;omega
 | m + 1, i, k, hm, ht, k0, k1 => by
  have t0 := st.a0;have hc := cnt_at (qs := qs) (lo := lo) (hi := hi) (s := s) hv (by omega) (show i < qs.length by omega);have hnt := nth_at (qs := qs) (lo := lo) (hi := hi) (s := s) hv (by omega) (show i < qs.length by omega) k0;rw [nthI_at (by omega) (by omega)]
  split
  ·rename_i hg;rw [if_pos hg] at hc
   split
   ·rename_i hl;exact ⟨k0, hl, st.step bk ht (by omega) hg, by show t < i + 1; omega, by rw [hnt.1 hg hl]; simp, by simp⟩
   ·rename_i hl;have r := nthI_ok (l := l) bk st hv m (i + 1) (k - cnt qs lo hi (qs.length - (i + 1).toNat) (s + wt qs i.toNat) (V4.dec v (qPart qs i.toNat))) (by omega) (by omega) (by omega) (by omega);exact ⟨r.k0, r.k1, r.st, r.t1, by rw [hnt.2.1 hg hl]; exact r.l1, r.l2⟩
  ·rename_i hg;rw [if_neg hg] at hc;have r := nthI_ok (l := l) bk st hv m (i + 1) k (by omega) (by omega) k0 (by omega);exact ⟨r.k0, r.k1, r.st, r.t1, by rw [hnt.2.2 hg]; exact r.l1, r.l2⟩
structure FolR where
 n : Int
 t : Int
 s : Int
 v : V4
def folS (qs : Dt) (lo hi : Int) : Dt -> FolR -> Option FolR
 | [], r => some r
 | x :: xs, r => if inr (x.getD 0 .z).int r.t ((qs.length : Int) - 1) = true /\ 1 <= V4.get r.v (qPart qs (x.getD 0 .z).int.toNat) then
   folS qs lo hi xs ⟨r.n + (cnt qs lo hi (qs.length - r.t.toNat) r.s r.v - cnt qs lo hi (qs.length - (x.getD 0 .z).int.toNat) r.s r.v), (x.getD 0 .z).int + 1, r.s + wt qs (x.getD 0 .z).int.toNat, V4.dec r.v (qPart qs (x.getD 0 .z).int.toNat)⟩
  else none
def fol (qs ws : Dt) (lo hi : Int) (xs : Dt) : Int × Bool :=
 match folS qs lo hi xs ⟨0, 0, 0, v0 ws⟩ with
 | none => (0, false)
 | some r => (r.n, V4.nil r.v && inr r.s lo hi)
end Sp
def Xdw [InW] (e : List Ed) (K : Nat -> List Ed -> Prop) : Prop := match e with
 | [.ro _ q2, .i n, .i i, .ro _ qs, .ro _ ws, .i lo, .i hi, .l w, .l xs] => Pre (Sp.BankV qs.xs ws.xs lo hi /\ q2.xs = qs.xs /\ n = qs.xs.length /\ 0 <= i /\ i <= n /\ w = Sp.wts qs.xs i.toNat) (K 0 [.ro _ qs, .ro _ ws, .i lo, .i hi, .l (Sp.wts qs.xs qs.xs.length), .l xs])
 | _ => False
noncomputable def T6 : Tab Try.prog := ⟨[Xbx], [], []⟩
noncomputable def Xe0 : LC where
 len := 52
 T := [(7, (.ptr 4 0)), (25, .rs Ja), (26, .int .i64), (27, .int .i64)]
 H := [(4, .blk 82 [.rs Ja, .rs Jb, .int .i64, .int .i64, (.row 9), (.mp 10)]), (9, .arr 3 Jb), (10, .mpP)]
 W := ([9, 10] ++ rg 28 23)
 outs := [⟨.exit 0, [(7, (.ptr 4 0))], [(4, .blk 82 [.rs Ja, .rs Jb, .int .i64, .int .i64, (.row 6), (.mp 10)]), (6, .arr 3 Jb), (10, .mpP)], ([9, 10] ++ rg 25 26)⟩]
 spec := Xdw
def Xc3 [W : InW] (q2 : Ro Ja) (n i : Int) (qs : Ro Ja) (ws : Ro Jb) (lo hi : Int) (w xs : Dt) (A : List Ed -> Prop) (K : Nat -> List Ed -> Prop) : Prop :=
 Vif (decide (i < n)) (Need (decide (0 <= i) && decide (i < (↑(q2.xs.length) : Int))) (Need (decide (i.toNat < q2.xs.length)) (Vif (decide ((0 : Int) < (cel q2.xs i.toNat (0+1)).int)) (Ar .i64 ((cel q2.xs i.toNat ((0 : Nat) + 1 + 1)).int * 1000) fun z => Need (!decide ((cel q2.xs i.toNat (0+1)).int = 0)) (Ar .i64 (z.tdiv (cel q2.xs i.toNat (0+1)).int) fun z => Need (decide ((w.length + [[Cl.i z]].length) * 8 <= 140737488355328)) (Ar .i64 (i + 1) fun z_1 => A [.ro _ q2, .i n, .i z_1, .ro _ qs, .ro _ ws, .i lo, .i hi, .l (w ++ [[Cl.i z]]), .l xs]))) (Need (decide ((w.length + [[Cl.i 500]].length) * 8 <= 140737488355328)) (Ar .i64 (i + 1) fun z => A [.ro _ q2, .i n, .i z, .ro _ qs, .ro _ ws, .i lo, .i hi, .l (w ++ [[Cl.i 500]]), .l xs]))))) (K 0 [.ro _ qs, .ro _ ws, .i lo, .i hi, .l w, .l xs])
theorem Xib (W : InW) (q2 n i qs ws lo hi w xs A K) : Yff { cxT Try.prog TT T6 1000 50 with fn := 45 } 1000 (Yob Try.prog 45 7) (Yd6 52 [(7, .ptr 4 0), (25, .rs _ q2), (26, .si .i64 n), (27, .si .i64 i)] ([9, 10] ++ rg 28 23)) [(4, .blk 82 [.rs _ qs, .rs _ ws, .si .i64 lo, .si .i64 hi, .rw 9, .mp 10]), (9, .arr 3 Jb w), (10, .obj (.mpP xs))] (Yut Xe0 A K) = Xc3 q2 n i qs ws lo hi w xs A K := by kernel_rfl
def Xej : Prop := ∀ (W : InW) (body a : Code), (Try.prog.funcs[45]?).bind (·.body) = some body -> a ∈ Yy body -> Yf0 a = 7 -> @Yms W Try.prog a (@Ytz W Xe0)
theorem Xjl (meas : [InW] -> List Ed -> Nat) (hyp_ : ∀ (W : InW) q2 n i qs ws lo hi w xs K, Xdw [.ro _ q2, .i n, .i i, .ro _ qs, .ro _ ws, .i lo, .i hi, .l w, .l xs] K -> ∀ A : List Ed -> Prop, (∀ e, meas e < meas [.ro _ q2, .i n, .i i, .ro _ qs, .ro _ ws, .i lo, .i hi, .l w, .l xs] -> Xdw e K -> A e) -> Xc3 q2 n i qs ws lo hi w xs A K) : Xej :=
 LE.okOf' (fun W => @TT W) (fun W => @Xc W) Xa T6 1000 50 (by kernel_rfl) Xe0 (fun W => @meas W) fun W q2 n i qs ws lo hi w xs K hs =>
  (Xib W q2 n i qs ws lo hi w xs (fun e => meas e < meas [.ro _ q2, .i n, .i i, .ro _ qs, .ro _ ws, .i lo, .i hi, .l w, .l xs] /\ Xdw e K) K).mpr (hyp_ W q2 n i qs ws lo hi w xs K hs _ fun e h1 h2 => ⟨h1, h2⟩)
theorem Xly : Xej := Xjl (fun e => match e with | _ :: .i n :: .i i :: _ => (n - i).toNat | _ => 0) fun W q2 n i qs ws lo hi w xs K hs A hA => by
 obtain ⟨⟨bv, hq, rfl, h0, h1, rfl⟩, hk⟩ := hs;unfold Xc3;have hn := bv.n2;have hl := Sp.length_wts qs.xs i.toNat;have hl2 : q2.xs.length = qs.xs.length := by rw [hq]
 by_cases hi' : i < qs.xs.length
 ·have ha := bv.ask i.toNat (by omega);have hb := bv.bad i.toNat (by omega);have hw := bv.wt (i := i.toNat) (by omega);have go : ∀ z, z = Sp.wt qs.xs i.toNat -> A [.ro _ q2, .i qs.xs.length, .i (i + 1), .ro _ qs, .ro _ ws, .i lo, .i hi, .l (Sp.wts qs.xs i.toNat ++ [[.i z]]), .l xs] := fun z hz => hA _ (by show ((qs.xs.length : Int) - (i + 1)).toNat < ((qs.xs.length : Int) - i).toNat; omega) ⟨⟨bv, hq, rfl, by omega, by omega, by rw [hz, <- Sp.wts_succ, show (i + 1).toNat = i.toNat + 1 by omega]⟩, hk⟩;clear hA hk;unfold Sp.qAsk at ha hb;unfold Sp.qBad at hb;unfold Sp.wt Sp.qAsk Sp.qBad at go hw;simp only [hq, Nat.zero_add, Nat.reduceAdd];refine vifd (fun _ => ?_) (fun h => absurd hi' h);refine ned (by simp; omega) (nedd (by omega) (vifd (fun e1 => ?_) (fun e1 => ?_)))
  ·rw [if_neg (by omega)] at hw;refine ar64 (by omega) (ned (by simp; omega) (ar64 (by omega) (nedd (by simp [hl]; omega) (ar64 (by omega) (go _ ?_)))));rw [if_neg (by omega)]
  ·refine nedd (by simp [hl]; omega) (ar64 (by omega) (go _ ?_));rw [if_pos (by omega)]
 ·refine vifd (fun h => absurd h hi') (fun _ => ?_);rw [show i.toNat = qs.xs.length by omega];exact hk
noncomputable def Xmk : LE Try.prog := ⟨45, 7, fun W => @Ytz W Xe0, Xly⟩
noncomputable def T7 : Tab Try.prog := ⟨[Xbx], [Xmk], []⟩
def Xfi [InW] (e : List Ed) (K : Nat -> List Ed -> Prop) : Prop := match e with
 | [.ro _ qs, .ro _ ws, .i lo, .i hi] => Vif (decide (Sp.chkE qs.xs ws.xs lo hi = 0)) (K 1 [.ro _ qs, .ro _ ws, .i lo, .i hi, .l (Sp.wts qs.xs qs.xs.length), .l []]) (K 0 [.i (Sp.chkE qs.xs ws.xs lo hi)])
 | _ => False
noncomputable def Xh : CC where
 g := 45
 args := [.agg [.rs Ja, .rs Jb, .int .i64, .int .i64]]
 H := []
 outs := [⟨false, .tup [(.lit (.pointer none)), .int .i64], [], false⟩, ⟨false, .tup [(.ptr 6 0), (.lit (.int .i64 0))], [(6, .blk 82 [.rs Ja, .rs Jb, .int .i64, .int .i64, (.row 12), (.mp 18)]), (12, .arr 3 Jb), (18, .mpP)], false⟩]
 spec := Xfi
def Xbw [W : InW] (qs : Ro Ja) (ws : Ro Jb) (lo hi : Int) (K : Nat -> List Ed -> Prop) : Prop :=
 Pre True (Vif (!decide (Sp.chkE qs.xs ws.xs lo hi = 0)) (K 0 [.i (Sp.chkE qs.xs ws.xs lo hi)]) (Pre (Sp.BankV qs.xs ws.xs lo hi /\ qs.xs = qs.xs /\ (↑(qs.xs.length) : Int) = (↑(qs.xs.length) : Int) /\ Zk <= 0 /\ Zk <= (↑(qs.xs.length) : Int) /\ [] = Sp.wts qs.xs (Int.toNat Zk)) (K (0+1) [.ro _ qs, .ro _ ws, .i lo, .i hi, .l (Sp.wts qs.xs (qs.xs.length)), .l []])))
theorem Xgp (W : InW) (qs ws lo hi K) : Yw2 (cxT Try.prog TT T7 1000 50) 1000 45 [.agg [.rs _ qs, .rs _ ws, .si .i64 lo, .si .i64 hi]] [] (fun v h => outC Xh.H [] Xh.outs 0 false v h K) (fun v h => outC Xh.H [] Xh.outs 0 true v h K) = Xbw qs ws lo hi K := by kernel_rfl
theorem Xg6 (hyp_ : ∀ (W : InW) qs ws lo hi K, Xfi [.ro _ qs, .ro _ ws, .i lo, .i hi] K -> Xbw qs ws lo hi K) : ∀ W : InW, @CallC W Try.prog Xh :=
 CC.okOf (fun W => @TT W) (fun W => @Xc W) Xa T7 1000 50 Xh fun W qs ws lo hi K hs => (Xgp W qs ws lo hi K).mpr (hyp_ W qs ws lo hi K hs)
theorem Xce : ∀ W : InW, @CallC W Try.prog Xh := Xg6 fun W qs ws lo hi K hs => by
 unfold Xbw;delta Zk;refine ⟨trivial, vifn (fun e => hs.2 (decide_eq_false e)) (fun e => ?_)⟩;exact ⟨⟨Sp.chkE_iff.1 e, rfl, rfl, by omega, by omega, rfl⟩, hs.1 (decide_eq_true e)⟩
noncomputable def T8 : Tab Try.prog := ⟨[Xi], [], [ceOf Xf Xu, ceOf Xe Xm, ceOf (Xg 17) (Xk 17)]⟩
def Xdy [InW] (e : List Ed) (K : Nat -> List Ed -> Prop) : Prop := match e with
 | [.i k, .i i, .ro _ qs, .ro _ ws, .i lo, .i hi, .l w, .l xs, .i t, .i s, .i a, .i b, .i c, .i d, .l l] => Pre (Sp.BkOk qs.xs ws.xs lo hi w /\ Sp.StOk qs.xs t s ⟨a, b, c, d⟩ /\ Sp.MemoOk qs.xs lo hi xs /\ Sp.V4.nil ⟨a, b, c, d⟩ = false /\ t <= i /\ i <= qs.xs.length /\ 0 <= k /\ k < Sp.cnt qs.xs lo hi (qs.xs.length - i.toNat) s ⟨a, b, c, d⟩ /\ l.length <= t)
   (Sp.FaM (Sp.MemoOk qs.xs lo hi) fun ys => K 0 [.i (Sp.nthI qs.xs lo hi (qs.xs.length - i.toNat) s ⟨a, b, c, d⟩ k l).k, .ro _ qs, .ro _ ws, .i lo, .i hi, .l w, .l ys, .i (Sp.nthI qs.xs lo hi (qs.xs.length - i.toNat) s ⟨a, b, c, d⟩ k l).t, .i (Sp.nthI qs.xs lo hi (qs.xs.length - i.toNat) s ⟨a, b, c, d⟩ k l).s, .i (Sp.nthI qs.xs lo hi (qs.xs.length - i.toNat) s ⟨a, b, c, d⟩ k l).v.a, .i (Sp.nthI qs.xs lo hi (qs.xs.length - i.toNat) s ⟨a, b, c, d⟩ k l).v.b, .i (Sp.nthI qs.xs lo hi (qs.xs.length - i.toNat) s ⟨a, b, c, d⟩ k l).v.c, .i (Sp.nthI qs.xs lo hi (qs.xs.length - i.toNat) s ⟨a, b, c, d⟩ k l).v.d, .l (Sp.nthI qs.xs lo hi (qs.xs.length - i.toNat) s ⟨a, b, c, d⟩ k l).l])
 | _ => False
noncomputable def Xe2 : LC where
 len := 53
 T := [(0, (.ptr 4 0)), (1, .int .i64), (4, (.row 15)), (5, (.ptr 13 0)), (6, .int .i64)]
 H := [(4, .blk 82 [.rs Ja, .rs Jb, .int .i64, .int .i64, (.row 7), (.mp 10)]), (7, .arr 3 Jb), (10, .mpP), (13, .blk 86 [.int .i64, .int .i64, .int .i64, .int .i64, .int .i64, .int .i64]), (15, .arr 3 Jb)]
 W := ([7, 8, 9] ++ rg 18 33)
 outs := [⟨.exit 2, [(0, (.ptr 4 0)), (1, .int .i64), (4, (.row 6)), (5, (.ptr 13 0))], [(4, .blk 82 [.rs Ja, .rs Jb, .int .i64, .int .i64, (.row 7), (.mp 10)]), (7, .arr 3 Jb), (10, .mpP), (13, .blk 86 [.int .i64, .int .i64, .int .i64, .int .i64, .int .i64, .int .i64]), (6, .arr 3 Jb)], (rg 6 4 ++ rg 18 33)⟩]
 spec := Xdy
def Zba [W : InW] (i : Int) (qs : Ro Ja) (a b c d : Int) := Sp.V4.dec { a := a, b := b, c := c, d := d } (Sp.qPart qs.xs i.toNat)
def Xc5 [W : InW] (k i : Int) (qs : Ro Ja) (ws : Ro Jb) (lo hi : Int) (w xs : Dt) (t s a b c d : Int) (l : Dt) (A : List Ed -> Prop) (K : Nat -> List Ed -> Prop) : Prop :=
 Vif (decide (i < (↑(qs.xs.length) : Int))) (Pre (Sp.BkOk qs.xs ws.xs lo hi w /\ Sp.StOk qs.xs t s { a := a, b := b, c := c, d := d } /\ t <= i /\ i < (↑(qs.xs.length) : Int)) (Vif (!decide ((1 : Int) <= Sp.V4.get { a := a, b := b, c := c, d := d } (Sp.qPart qs.xs i.toNat))) (Ar .i64 (i + 1) fun z => A [.i k, .i z, .ro _ qs, .ro _ ws, .i lo, .i hi, .l w, .l xs, .i t, .i s, .i a, .i b, .i c, .i d, .l l]) (Pre (Sp.BkOk qs.xs ws.xs lo hi w /\ Sp.StOk qs.xs (i + 1) (s + Sp.wt qs.xs i.toNat) { a := (Zba i qs a b c d).1, b := (Zba i qs a b c d).2, c := (Zba i qs a b c d).3, d := (Zba i qs a b c d).4 } /\ Sp.MemoOk qs.xs lo hi xs /\ qs.xs.length - (i + 1).toNat < 17) (Sp.FaM (Sp.MemoOk qs.xs lo hi) fun ys => Vif (decide (k < Sp.cnt qs.xs lo hi (qs.xs.length - (i + 1).toNat) (s + Sp.wt qs.xs i.toNat) { a := (Zba i qs a b c d).1, b := (Zba i qs a b c d).2, c := (Zba i qs a b c d).3, d := (Zba i qs a b c d).4 })) (Need (decide ((l.length + [[Cl.i i]].length) * 8 <= 140737488355328)) (K 0 [.i k, .ro _ qs, .ro _ ws, .i lo, .i hi, .l w, .l ys, .i (i + 1), .i (s + Sp.wt qs.xs i.toNat), .i (Zba i qs a b c d).1, .i (Zba i qs a b c d).2, .i (Zba i qs a b c d).3, .i (Zba i qs a b c d).4, .l (l ++ [[Cl.i i]])])) (Ar .i64 (k - Sp.cnt qs.xs lo hi (qs.xs.length - (i + 1).toNat) (s + Sp.wt qs.xs i.toNat) { a := (Zba i qs a b c d).1, b := (Zba i qs a b c d).2, c := (Zba i qs a b c d).3, d := (Zba i qs a b c d).4 }) fun z => Ar .i64 (i + 1) fun z_1 => A [.i z, .i z_1, .ro _ qs, .ro _ ws, .i lo, .i hi, .l w, .l ys, .i t, .i s, .i a, .i b, .i c, .i d, .l l]))))) (K 0 [.i k, .ro _ qs, .ro _ ws, .i lo, .i hi, .l w, .l xs, .i t, .i s, .i a, .i b, .i c, .i d, .l l])
theorem Xid (W : InW) (k i qs ws lo hi w xs t s a b c d l A K) : Yff { cxT Try.prog TT T8 1000 50 with fn := 50 } 1000 (Yob Try.prog 50 5) (Yd6 53 [(0, .ptr 4 0), (1, .si .i64 k), (4, .rw 15), (5, .ptr 13 0), (6, .si .i64 i)] ([7, 8, 9] ++ rg 18 33)) [(4, .blk 82 [.rs _ qs, .rs _ ws, .si .i64 lo, .si .i64 hi, .rw 7, .mp 10]), (7, .arr 3 Jb w), (10, .obj (.mpP xs)), (13, .blk 86 [.si .i64 t, .si .i64 s, .si .i64 a, .si .i64 b, .si .i64 c, .si .i64 d]), (15, .arr 3 Jb l)] (Yut Xe2 A K) = Xc5 k i qs ws lo hi w xs t s a b c d l A K := by kernel_rfl
def Xel : Prop := ∀ (W : InW) (body a : Code), (Try.prog.funcs[50]?).bind (·.body) = some body -> a ∈ Yy body -> Yf0 a = 5 -> @Yms W Try.prog a (@Ytz W Xe2)
theorem Xjn (meas : [InW] -> List Ed -> Nat) (hyp_ : ∀ (W : InW) k i qs ws lo hi w xs t s a b c d l K, Xdy [.i k, .i i, .ro _ qs, .ro _ ws, .i lo, .i hi, .l w, .l xs, .i t, .i s, .i a, .i b, .i c, .i d, .l l] K -> ∀ A : List Ed -> Prop, (∀ e, meas e < meas [.i k, .i i, .ro _ qs, .ro _ ws, .i lo, .i hi, .l w, .l xs, .i t, .i s, .i a, .i b, .i c, .i d, .l l] -> Xdy e K -> A e) -> Xc5 k i qs ws lo hi w xs t s a b c d l A K) : Xel :=
 LE.okOf' (fun W => @TT W) (fun W => @Xc W) Xa T8 1000 50 (by kernel_rfl) Xe2 (fun W => @meas W) fun W k i qs ws lo hi w xs t s a b c d l K hs =>
  (Xid W k i qs ws lo hi w xs t s a b c d l (fun e => meas e < meas [.i k, .i i, .ro _ qs, .ro _ ws, .i lo, .i hi, .l w, .l xs, .i t, .i s, .i a, .i b, .i c, .i d, .l l] /\ Xdy e K) K).mpr (hyp_ W k i qs ws lo hi w xs t s a b c d l K hs _ fun e h1 h2 => ⟨h1, h2⟩)
theorem Xl0 : Xel := Xjn (fun e => match e with | _ :: .i i :: .ro _ qs :: _ => ((qs.xs.length : Int) - i).toNat | _ => 0) fun W k i qs ws lo hi w xs t s a b c d l K hs A hA => by
 obtain ⟨⟨bk, st, mo, hv, h0, h1, k0, k1, hl⟩, ⟨hk⟩⟩ := hs;unfold Xc5;delta Zba;have hf := bk.few;have ht := st.a0
 by_cases hi' : i < qs.xs.length
 ·have hc := Sp.cnt_at (qs := qs.xs) (lo := lo) (hi := hi) (s := s) hv (by omega) hi';rw [Sp.nthI_at (by omega) hi'] at hk;have hlt : ((qs.xs.length : Int) - (i + 1)).toNat < ((qs.xs.length : Int) - i).toNat := by omega
  have b1 := Sp.cnt_16 (qs := qs.xs) (lo := lo) (hi := hi) (m := qs.xs.length - (i + 1).toNat) (by omega) s ⟨a, b, c, d⟩;have b2 := Sp.cnt_16 (qs := qs.xs) (lo := lo) (hi := hi) (m := qs.xs.length - (i + 1).toNat) (by omega) (s + Sp.wt qs.xs i.toNat) (Sp.V4.dec ⟨a, b, c, d⟩ (Sp.qPart qs.xs i.toNat));refine vifd (fun _ => ?_) (fun h => absurd hi' h);refine ⟨⟨bk, st, h0, hi'⟩, vifn (fun hg => ?_) (fun hg => ?_)⟩
  ·rw [if_neg hg] at hc hk;exact ar64 (by omega) (hA _ hlt ⟨⟨bk, st, mo, hv, by omega, by omega, k0, by omega, hl⟩, ⟨hk⟩⟩)
  ·rw [if_pos hg] at hc hk;refine ⟨⟨bk, st.step bk h0 hi' hg, mo, by omega⟩, ⟨fun ys hy => vifd (fun hlt2 => ?_) (fun hlt2 => ?_)⟩⟩
   ·rw [if_pos hlt2] at hk;exact nedd (by simp; omega) (hk ys hy)
   ·rw [if_neg hlt2] at hk;exact ar64 (by omega) (ar64 (by omega) (hA _ hlt ⟨⟨bk, st, hy, hv, by omega, by omega, by omega, by omega, hl⟩, ⟨hk⟩⟩))
 ·rw [show qs.xs.length - i.toNat = 0 by omega, Sp.cnt_zero hv] at k1;omega
noncomputable def Xmm : LE Try.prog := ⟨50, 5, fun W => @Ytz W Xe2, Xl0⟩
noncomputable def T9 : Tab Try.prog := ⟨[Xi], [Xmm], [ceOf Xf Xu, ceOf Xe Xm, ceOf (Xg 17) (Xk 17)]⟩
def Xdx [InW] (e : List Ed) (K : Nat -> List Ed -> Prop) : Prop := match e with
 | [.i k, .ro _ qs, .ro _ ws, .i lo, .i hi, .l w, .l xs, .i t, .i s, .i a, .i b, .i c, .i d, .l l] => Pre (Sp.BkOk qs.xs ws.xs lo hi w /\ Sp.StOk qs.xs t s ⟨a, b, c, d⟩ /\ Sp.MemoOk qs.xs lo hi xs /\ 0 <= k /\ k < Sp.cnt qs.xs lo hi (qs.xs.length - t.toNat) s ⟨a, b, c, d⟩ /\ l.length <= t)
   (Sp.FaM (Sp.MemoOk qs.xs lo hi) fun ys => K 0 [.ro _ qs, .ro _ ws, .i lo, .i hi, .l w, .l ys, .l (l ++ Sp.nthD qs.xs lo hi (qs.xs.length - t.toNat) s ⟨a, b, c, d⟩ k)])
 | _ => False
noncomputable def Xe1 : LC where
 len := 53
 T := [(0, (.ptr 4 0)), (1, .int .i64), (4, (.row 15)), (5, (.ptr 12 0))]
 H := [(4, .blk 82 [.rs Ja, .rs Jb, .int .i64, .int .i64, (.row 7), (.mp 10)]), (7, .arr 3 Jb), (10, .mpP), (12, .blk 86 [.int .i64, .int .i64, .int .i64, .int .i64, .int .i64, .int .i64]), (15, .arr 3 Jb)]
 W := (rg 6 4 ++ rg 12 40)
 outs := [⟨.exit 0, [(0, (.ptr 4 0)), (4, (.row 6))], [(4, .blk 82 [.rs Ja, .rs Jb, .int .i64, .int .i64, (.row 7), (.mp 10)]), (7, .arr 3 Jb), (10, .mpP), (6, .arr 3 Jb)], ([1] ++ rg 5 5 ++ rg 12 40)⟩]
 spec := Xdx
def Zbb [W : InW] (k : Int) (qs : Ro Ja) (lo hi t s a b c d : Int) (l : Dt) := Sp.nthI qs.xs lo hi (qs.xs.length - t.toNat) s { a := a, b := b, c := c, d := d } k l
def Xc4 [W : InW] (k : Int) (qs : Ro Ja) (ws : Ro Jb) (lo hi : Int) (w xs : Dt) (t s a b c d : Int) (l : Dt) (A : List Ed -> Prop) (K : Nat -> List Ed -> Prop) : Prop :=
 Vif (!(decide (a = 0) && (decide (b = 0) && (decide (c = 0) && (decide (d = 0) && true))))) (Pre (Sp.BkOk qs.xs ws.xs lo hi w /\ Sp.StOk qs.xs t s { a := a, b := b, c := c, d := d } /\ Sp.MemoOk qs.xs lo hi xs /\ Sp.V4.nil { a := a, b := b, c := c, d := d } = false /\ t <= t /\ t <= (↑(qs.xs.length) : Int) /\ 0 <= k /\ k < Sp.cnt qs.xs lo hi (qs.xs.length - t.toNat) s { a := a, b := b, c := c, d := d } /\ (↑(l.length) : Int) <= t) (Sp.FaM (Sp.MemoOk qs.xs lo hi) fun ys => A [.i (Zbb k qs lo hi t s a b c d l).k, .ro _ qs, .ro _ ws, .i lo, .i hi, .l w, .l ys, .i (Zbb k qs lo hi t s a b c d l).t, .i (Zbb k qs lo hi t s a b c d l).s, .i (Zbb k qs lo hi t s a b c d l).v.1, .i (Zbb k qs lo hi t s a b c d l).v.2, .i (Zbb k qs lo hi t s a b c d l).v.3, .i (Zbb k qs lo hi t s a b c d l).v.4, .l (Zbb k qs lo hi t s a b c d l).l])) (K 0 [.ro _ qs, .ro _ ws, .i lo, .i hi, .l w, .l xs, .l l])
theorem Xic (W : InW) (k qs ws lo hi w xs t s a b c d l A K) : Yff { cxT Try.prog TT T9 1000 50 with fn := 50 } 1000 (Yob Try.prog 50 3) (Yd6 53 [(0, .ptr 4 0), (1, .si .i64 k), (4, .rw 15), (5, .ptr 12 0)] (rg 6 4 ++ rg 12 40)) [(4, .blk 82 [.rs _ qs, .rs _ ws, .si .i64 lo, .si .i64 hi, .rw 7, .mp 10]), (7, .arr 3 Jb w), (10, .obj (.mpP xs)), (12, .blk 86 [.si .i64 t, .si .i64 s, .si .i64 a, .si .i64 b, .si .i64 c, .si .i64 d]), (15, .arr 3 Jb l)] (Yut Xe1 A K) = Xc4 k qs ws lo hi w xs t s a b c d l A K := by kernel_rfl
def Xek : Prop := ∀ (W : InW) (body a : Code), (Try.prog.funcs[50]?).bind (·.body) = some body -> a ∈ Yy body -> Yf0 a = 3 -> @Yms W Try.prog a (@Ytz W Xe1)
theorem Xjm (meas : [InW] -> List Ed -> Nat) (hyp_ : ∀ (W : InW) k qs ws lo hi w xs t s a b c d l K, Xdx [.i k, .ro _ qs, .ro _ ws, .i lo, .i hi, .l w, .l xs, .i t, .i s, .i a, .i b, .i c, .i d, .l l] K -> ∀ A : List Ed -> Prop, (∀ e, meas e < meas [.i k, .ro _ qs, .ro _ ws, .i lo, .i hi, .l w, .l xs, .i t, .i s, .i a, .i b, .i c, .i d, .l l] -> Xdx e K -> A e) -> Xc4 k qs ws lo hi w xs t s a b c d l A K) : Xek :=
 LE.okOf' (fun W => @TT W) (fun W => @Xc W) Xa T9 1000 50 (by kernel_rfl) Xe1 (fun W => @meas W) fun W k qs ws lo hi w xs t s a b c d l K hs =>
  (Xic W k qs ws lo hi w xs t s a b c d l (fun e => meas e < meas [.i k, .ro _ qs, .ro _ ws, .i lo, .i hi, .l w, .l xs, .i t, .i s, .i a, .i b, .i c, .i d, .l l] /\ Xdx e K) K).mpr (hyp_ W k qs ws lo hi w xs t s a b c d l K hs _ fun e h1 h2 => ⟨h1, h2⟩)
theorem Xlz : Xek := Xjm (fun e => match e with | [_, .ro _ qs, _, _, _, _, _, .i t, _, _, _, _, _, _] => ((qs.xs.length : Int) - t).toNat | _ => 0) fun W k qs ws lo hi w xs t s a b c d l K hs A hA => by
 obtain ⟨⟨bk, st, mo, k0, k1, hl⟩, ⟨hk⟩⟩ := hs;unfold Xc4;delta Zbb;refine vifb (fun hv => ?_) (fun hv => ?_)
 ·have hv : Sp.V4.nil ⟨a, b, c, d⟩ = false := by
   rw [<- Bool.not_eq_true];intro h2;simp [Sp.V4.nil, and_assoc] at h2;simp [h2] at hv
  have r := Sp.nthI_ok (l := l) bk st hv _ t k (Int.toNat_of_nonneg (show 0 <= (qs.xs.length : Int) - t by have := st.a1; omega)).symm (by omega) k0 k1;refine ⟨⟨bk, st, mo, hv, by omega, st.a1, k0, k1, hl⟩, ⟨fun ys hy => ?_⟩⟩;refine hA _ ?_ ⟨⟨bk, r.st, hy, r.k0, r.k1, ?_⟩, ⟨fun zs hz => ?_⟩⟩
  ·have := r.t1;have := r.st.a1
   show ((qs.xs.length : Int) - (Sp.nthI qs.xs lo hi (qs.xs.length - t.toNat) s ⟨a, b, c, d⟩ k l).t).toNat < ((qs.xs.length : Int) - t).toNat
   omega
  ·have := r.l2;have := r.t1;omega
  ·have := hk zs hz;rw [r.l1] at this;exact this
 ·have hv : Sp.V4.nil ⟨a, b, c, d⟩ = true := by simpa [Sp.V4.nil, and_assoc] using hv
  have := hk xs mo;rw [Sp.nth_nil hv, List.append_nil] at this;exact this
noncomputable def Xml : LE Try.prog := ⟨50, 3, fun W => @Ytz W Xe1, Xlz⟩
noncomputable def T10 : Tab Try.prog := ⟨[Xi], [Xml], [ceOf Xf Xu, ceOf Xe Xm, ceOf (Xg 17) (Xk 17)]⟩
def Xhn [InW] (e : List Ed) (K : Nat -> List Ed -> Prop) : Prop := match e with
 | [.i k, .ro _ qs, .ro _ ws, .i lo, .i hi, .l w, .l xs] => Pre (Sp.BkOk qs.xs ws.xs lo hi w /\ Sp.StOk qs.xs 0 0 (Sp.v0 ws.xs) /\ Sp.MemoOk qs.xs lo hi xs /\ 0 <= k /\ k < Sp.cnt qs.xs lo hi qs.xs.length 0 (Sp.v0 ws.xs))
   (Sp.FaM (Sp.MemoOk qs.xs lo hi) fun ys => K 0 [.ro _ qs, .ro _ ws, .i lo, .i hi, .l w, .l ys, .l (Sp.nthD qs.xs lo hi qs.xs.length 0 (Sp.v0 ws.xs) k)])
 | _ => False
noncomputable def Xn : CC where
 g := 50
 args := [(.ptr 4 0), .int .i64]
 H := [(4, .blk 82 [.rs Ja, .rs Jb, .int .i64, .int .i64, (.row 7), (.mp 10)]), (7, .arr 3 Jb), (10, .mpP)]
 outs := [⟨false, (.row 6), [(4, .blk 82 [.rs Ja, .rs Jb, .int .i64, .int .i64, (.row 7), (.mp 10)]), (7, .arr 3 Jb), (10, .mpP), (6, .arr 3 Jb)], false⟩]
 spec := Xhn
def Zbc := (0 : Nat)
def Xdg [W : InW] (k : Int) (qs : Ro Ja) (ws : Ro Jb) (lo hi : Int) (w xs : Dt) (K : Nat -> List Ed -> Prop) : Prop :=
 Pre (Sp.BkOk qs.xs ws.xs lo hi w /\ Sp.StOk qs.xs Zk Zk { a := (cel ws.xs Zbc Zbc).int, b := (cel ws.xs (1 : Nat) Zbc).int, c := (cel ws.xs (2 : Nat) Zbc).int, d := (cel ws.xs (3 : Nat) Zbc).int } /\ Sp.MemoOk qs.xs lo hi xs /\ 0 <= k /\ k < Sp.cnt qs.xs lo hi (qs.xs.length - Int.toNat Zk) Zk { a := (cel ws.xs Zbc Zbc).int, b := (cel ws.xs (1 : Nat) Zbc).int, c := (cel ws.xs (2 : Nat) Zbc).int, d := (cel ws.xs (3 : Nat) Zbc).int } /\ (↑Zbc : Int) <= 0) (Sp.FaM (Sp.MemoOk qs.xs lo hi) fun ys => K 0 [.ro _ qs, .ro _ ws, .i lo, .i hi, .l w, .l ys, .l (Sp.nthD qs.xs lo hi (qs.xs.length - Int.toNat Zk) Zk { a := (cel ws.xs Zbc Zbc).int, b := (cel ws.xs (1 : Nat) Zbc).int, c := (cel ws.xs (2 : Nat) Zbc).int, d := (cel ws.xs (3 : Nat) Zbc).int } k)])
theorem Xio (W : InW) (k qs ws lo hi w xs K) : Yw2 (cxT Try.prog TT T10 1000 50) 1000 50 [.ptr 4 0, .si .i64 k] [(4, .blk 82 [.rs _ qs, .rs _ ws, .si .i64 lo, .si .i64 hi, .rw 7, .mp 10]), (7, .arr 3 Jb w), (10, .obj (.mpP xs))] (fun v h => outC Xn.H [.ro _ qs, .ro _ ws, .i lo, .i hi, .l w, .l xs] Xn.outs 0 false v h K) (fun v h => outC Xn.H [.ro _ qs, .ro _ ws, .i lo, .i hi, .l w, .l xs] Xn.outs 0 true v h K) = Xdg k qs ws lo hi w xs K := by kernel_rfl
theorem Xjy (hyp_ : ∀ (W : InW) k qs ws lo hi w xs K, Xhn [.i k, .ro _ qs, .ro _ ws, .i lo, .i hi, .l w, .l xs] K -> Xdg k qs ws lo hi w xs K) : ∀ W : InW, @CallC W Try.prog Xn :=
 CC.okOf (fun W => @TT W) (fun W => @Xc W) Xa T10 1000 50 Xn fun W k qs ws lo hi w xs K hs => (Xio W k qs ws lo hi w xs K).mpr (hyp_ W k qs ws lo hi w xs K hs)
theorem Xhz : ∀ W : InW, @CallC W Try.prog Xn := Xjy fun W k qs ws lo hi w xs K hs => by
 obtain ⟨⟨bk, st, mo, k0, k1⟩, ⟨hk⟩⟩ := hs;unfold Xdg;delta Zbc Zk;exact ⟨⟨bk, st, mo, k0, k1, by omega⟩, ⟨fun ys hy => hk ys hy⟩⟩
def Xd4 [InW] (e : List Ed) (K : Nat -> List Ed -> Prop) : Prop := match e with
 | [.i n, .i x, .i i, .ro _ qs, .ro _ ws, .i lo, .i hi, .l w, .l xs, .i t, .i s, .i a, .i b, .i c, .i d] => Pre (Sp.BkOk qs.xs ws.xs lo hi w /\ Sp.StOk qs.xs t s ⟨a, b, c, d⟩ /\ Sp.MemoOk qs.xs lo hi xs /\ t <= i /\ i <= x /\ x < qs.xs.length /\ 0 <= n /\ n + Sp.cnt qs.xs lo hi (qs.xs.length - i.toNat) s ⟨a, b, c, d⟩ <= 65536)
   (Sp.FaM (Sp.MemoOk qs.xs lo hi) fun ys => K 0 [.i (n + (Sp.cnt qs.xs lo hi (qs.xs.length - i.toNat) s ⟨a, b, c, d⟩ - Sp.cnt qs.xs lo hi (qs.xs.length - x.toNat) s ⟨a, b, c, d⟩)), .i x, .ro _ qs, .ro _ ws, .i lo, .i hi, .l w, .l ys, .i t, .i s, .i a, .i b, .i c, .i d])
 | _ => False
noncomputable def Xe8 : LC where
 len := 76
 T := [(0, (.ptr 4 0)), (4, .int .i64), (6, (.ptr 13 0)), (8, .int .i64), (9, .int .i64)]
 H := [(4, .blk 82 [.rs Ja, .rs Jb, .int .i64, .int .i64, (.row 7), (.mp 10)]), (7, .arr 3 Jb), (10, .mpP), (13, .blk 86 [.int .i64, .int .i64, .int .i64, .int .i64, .int .i64, .int .i64])]
 W := ([10, 11] ++ rg 36 18)
 outs := [⟨.exit 2, [(0, (.ptr 4 0)), (4, .int .i64), (6, (.ptr 13 0)), (8, .int .i64)], [(4, .blk 82 [.rs Ja, .rs Jb, .int .i64, .int .i64, (.row 7), (.mp 10)]), (7, .arr 3 Jb), (10, .mpP), (13, .blk 86 [.int .i64, .int .i64, .int .i64, .int .i64, .int .i64, .int .i64])], ([9, 10, 11] ++ rg 36 18)⟩]
 spec := Xd4
def Zbd [W : InW] (i : Int) (qs : Ro Ja) (a b c d : Int) := Sp.V4.dec { a := a, b := b, c := c, d := d } (Sp.qPart qs.xs i.toNat)
def Xdb [W : InW] (n x i : Int) (qs : Ro Ja) (ws : Ro Jb) (lo hi : Int) (w xs : Dt) (t s a b c d : Int) (A : List Ed -> Prop) (K : Nat -> List Ed -> Prop) : Prop :=
 Vif (decide (i < x)) (Pre (Sp.BkOk qs.xs ws.xs lo hi w /\ Sp.StOk qs.xs t s { a := a, b := b, c := c, d := d } /\ t <= i /\ i < (↑(qs.xs.length) : Int)) (Vif (decide ((1 : Int) <= Sp.V4.get { a := a, b := b, c := c, d := d } (Sp.qPart qs.xs i.toNat))) (Pre (Sp.BkOk qs.xs ws.xs lo hi w /\ Sp.StOk qs.xs (i + 1) (s + Sp.wt qs.xs i.toNat) { a := (Zbd i qs a b c d).1, b := (Zbd i qs a b c d).2, c := (Zbd i qs a b c d).3, d := (Zbd i qs a b c d).4 } /\ Sp.MemoOk qs.xs lo hi xs /\ qs.xs.length - (i + 1).toNat < 17) (Sp.FaM (Sp.MemoOk qs.xs lo hi) fun ys => Ar .i64 (n + Sp.cnt qs.xs lo hi (qs.xs.length - (i + 1).toNat) (s + Sp.wt qs.xs i.toNat) { a := (Zbd i qs a b c d).1, b := (Zbd i qs a b c d).2, c := (Zbd i qs a b c d).3, d := (Zbd i qs a b c d).4 }) fun z => Ar .i64 (i + 1) fun z_1 => A [.i z, .i x, .i z_1, .ro _ qs, .ro _ ws, .i lo, .i hi, .l w, .l ys, .i t, .i s, .i a, .i b, .i c, .i d])) (Ar .i64 (i + 1) fun z => A [.i n, .i x, .i z, .ro _ qs, .ro _ ws, .i lo, .i hi, .l w, .l xs, .i t, .i s, .i a, .i b, .i c, .i d]))) (K 0 [.i n, .i x, .ro _ qs, .ro _ ws, .i lo, .i hi, .l w, .l xs, .i t, .i s, .i a, .i b, .i c, .i d])
theorem Xij (W : InW) (n x i qs ws lo hi w xs t s a b c d A K) : Yff { cxT Try.prog TT T8 1000 50 with fn := 51 } 1000 (Yob Try.prog 51 9) (Yd6 76 [(0, .ptr 4 0), (4, .si .i64 n), (6, .ptr 13 0), (8, .si .i64 x), (9, .si .i64 i)] ([10, 11] ++ rg 36 18)) [(4, .blk 82 [.rs _ qs, .rs _ ws, .si .i64 lo, .si .i64 hi, .rw 7, .mp 10]), (7, .arr 3 Jb w), (10, .obj (.mpP xs)), (13, .blk 86 [.si .i64 t, .si .i64 s, .si .i64 a, .si .i64 b, .si .i64 c, .si .i64 d])] (Yut Xe8 A K) = Xdb n x i qs ws lo hi w xs t s a b c d A K := by kernel_rfl
def Xer : Prop := ∀ (W : InW) (body a : Code), (Try.prog.funcs[51]?).bind (·.body) = some body -> a ∈ Yy body -> Yf0 a = 9 -> @Yms W Try.prog a (@Ytz W Xe8)
theorem Xjt (meas : [InW] -> List Ed -> Nat) (hyp_ : ∀ (W : InW) n x i qs ws lo hi w xs t s a b c d K, Xd4 [.i n, .i x, .i i, .ro _ qs, .ro _ ws, .i lo, .i hi, .l w, .l xs, .i t, .i s, .i a, .i b, .i c, .i d] K -> ∀ A : List Ed -> Prop, (∀ e, meas e < meas [.i n, .i x, .i i, .ro _ qs, .ro _ ws, .i lo, .i hi, .l w, .l xs, .i t, .i s, .i a, .i b, .i c, .i d] -> Xd4 e K -> A e) -> Xdb n x i qs ws lo hi w xs t s a b c d A K) : Xer :=
 LE.okOf' (fun W => @TT W) (fun W => @Xc W) Xa T8 1000 50 (by kernel_rfl) Xe8 (fun W => @meas W) fun W n x i qs ws lo hi w xs t s a b c d K hs =>
  (Xij W n x i qs ws lo hi w xs t s a b c d (fun e => meas e < meas [.i n, .i x, .i i, .ro _ qs, .ro _ ws, .i lo, .i hi, .l w, .l xs, .i t, .i s, .i a, .i b, .i c, .i d] /\ Xd4 e K) K).mpr (hyp_ W n x i qs ws lo hi w xs t s a b c d K hs _ fun e h1 h2 => ⟨h1, h2⟩)
theorem Xl6 : Xer := Xjt (fun e => match e with | _ :: .i x :: .i i :: _ => (x - i).toNat | _ => 0) fun W n x i qs ws lo hi w xs t s a b c d K hs A hA => by
 obtain ⟨⟨bk, st, mo, h0, h1, h2, n0, n1⟩, ⟨hk⟩⟩ := hs;unfold Xdb;delta Zbd;have hf := bk.few;have ht := st.a0;have hm := Sp.cnt_mono (qs := qs.xs) (lo := lo) (hi := hi) (s := s) (v := ⟨a, b, c, d⟩) (i := i) (x - i).toNat (by omega) (by omega);rw [show i + ((x - i).toNat : Nat) = x by omega] at hm
 by_cases hi' : i < x
 ·have hc := Sp.cnt_at' (qs := qs.xs) (lo := lo) (hi := hi) (s := s) (v := ⟨a, b, c, d⟩) (i := i) (by omega) (by omega);have hl : (x - (i + 1)).toNat < (x - i).toNat := by omega
  have b1 := Sp.cnt_16 (qs := qs.xs) (lo := lo) (hi := hi) (m := qs.xs.length - (i + 1).toNat) (by omega) s ⟨a, b, c, d⟩;have b2 := Sp.cnt_16 (qs := qs.xs) (lo := lo) (hi := hi) (m := qs.xs.length - (i + 1).toNat) (by omega) (s + Sp.wt qs.xs i.toNat) (Sp.V4.dec ⟨a, b, c, d⟩ (Sp.qPart qs.xs i.toNat));refine vifd (fun _ => ?_) (fun h => absurd hi' h);refine ⟨⟨bk, st, h0, by omega⟩, vifd (fun hg => ?_) (fun hg => ?_)⟩
  ·rw [if_pos hg] at hc;refine ⟨⟨bk, st.step bk h0 (by omega) hg, mo, by omega⟩, ⟨fun ys hy => ar64 (by omega) (ar64 (by omega) (hA _ hl ⟨⟨bk, st, hy, by omega, by omega, h2, by omega, by omega⟩, ⟨fun zs hz => ?_⟩⟩))⟩⟩;have := hk zs hz;rw [hc] at this;refine Eq.mp (congrArg (fun z => K 0 (Ed.i z :: _)) ?_) this;omega
  ·rw [if_neg hg, Int.zero_add] at hc;refine ar64 (by omega) (hA _ hl ⟨⟨bk, st, mo, by omega, by omega, h2, by omega, by omega⟩, ⟨fun zs hz => ?_⟩⟩);have := hk zs hz;rw [hc] at this;exact this
 ·refine vifd (fun h => absurd h hi') (fun _ => ?_);have := hk xs mo;rw [show x = i by omega] at this;rw [show x = i by omega];simpa using this
noncomputable def Xms : LE Try.prog := ⟨51, 9, fun W => @Ytz W Xe8, Xl6⟩
noncomputable def T11 : Tab Try.prog := ⟨[Xi], [Xms], [ceOf Xf Xu, ceOf Xe Xm, ceOf (Xg 17) (Xk 17)]⟩
namespace Sp
def isS : Option FolR -> Bool
 | some _ => true
 | none => false
def getS (r : Option FolR) : FolR := r.getD ⟨0, 0, 0, ⟨0, 0, 0, 0⟩⟩
theorem folS_at {qs : Dt} {lo hi : Int} {zs : Dt} {j : Int} (h0 : 0 <= j) (h1 : j < zs.length) (r : FolR) :
  folS qs lo hi (zs.drop j.toNat) r = if inr (cel zs j.toNat 0).int r.t ((qs.length : Int) - 1) = true /\ 1 <= V4.get r.v (qPart qs (cel zs j.toNat 0).int.toNat) then
   folS qs lo hi (zs.drop (j + 1).toNat) ⟨r.n + (cnt qs lo hi (qs.length - r.t.toNat) r.s r.v - cnt qs lo hi (qs.length - (cel zs j.toNat 0).int.toNat) r.s r.v), (cel zs j.toNat 0).int + 1, r.s + wt qs (cel zs j.toNat 0).int.toNat, V4.dec r.v (qPart qs (cel zs j.toNat 0).int.toNat)⟩
  else none := by
 rw [List.drop_eq_getElem_cons (by omega), folS, show (j + 1).toNat = j.toNat + 1 by omega];have e : (zs[j.toNat]'(by omega)).getD 0 .z = cel zs j.toNat 0 := by
  unfold cel;rw [List.getD_eq_getElem?_getD (l := zs), List.getElem?_eq_getElem (by omega)];rfl
 rw [e]
theorem folS_ok {qs ws w : Dt} {lo hi : Int} (bk : BkOk qs ws lo hi w) : ∀ (zs : Dt) (r r' : FolR), StOk qs r.t r.s r.v -> folS qs lo hi zs r = some r' -> StOk qs r'.t r'.s r'.v
 | [], r, r', st, h => by rw [folS] at h; cases h; exact st
 | z :: zs, r, r', st, h => by
  rw [folS] at h
  split at h
  ·rename_i hg;have h1 := inr_iff.1 hg.1;exact folS_ok bk zs _ r' (st.step bk h1.1 (by omega) hg.2) h
  ·cases h
end Sp
def Xd3 [InW] (e : List Ed) (K : Nat -> List Ed -> Prop) : Prop := match e with
 | [.i n, .ro _ zs, .i l, .i j, .ro _ qs, .ro _ ws, .i lo, .i hi, .l w, .l xs, .i t, .i s, .i a, .i b, .i c, .i d] => Pre (Sp.BkOk qs.xs ws.xs lo hi w /\ Sp.StOk qs.xs t s ⟨a, b, c, d⟩ /\ Sp.MemoOk qs.xs lo hi xs /\ l = zs.xs.length /\ 0 <= j /\ j <= l /\ 0 <= n /\ n + Sp.cnt qs.xs lo hi (qs.xs.length - t.toNat) s ⟨a, b, c, d⟩ <= 65536)
   (Sp.FaM (Sp.MemoOk qs.xs lo hi) fun ys => Vif (Sp.isS (Sp.folS qs.xs lo hi (zs.xs.drop j.toNat) ⟨n, t, s, ⟨a, b, c, d⟩⟩))
    (K 0 [.i (Sp.getS (Sp.folS qs.xs lo hi (zs.xs.drop j.toNat) ⟨n, t, s, ⟨a, b, c, d⟩⟩)).n, .ro _ qs, .ro _ ws, .i lo, .i hi, .l w, .l ys, .i (Sp.getS (Sp.folS qs.xs lo hi (zs.xs.drop j.toNat) ⟨n, t, s, ⟨a, b, c, d⟩⟩)).t, .i (Sp.getS (Sp.folS qs.xs lo hi (zs.xs.drop j.toNat) ⟨n, t, s, ⟨a, b, c, d⟩⟩)).s, .i (Sp.getS (Sp.folS qs.xs lo hi (zs.xs.drop j.toNat) ⟨n, t, s, ⟨a, b, c, d⟩⟩)).v.a, .i (Sp.getS (Sp.folS qs.xs lo hi (zs.xs.drop j.toNat) ⟨n, t, s, ⟨a, b, c, d⟩⟩)).v.b, .i (Sp.getS (Sp.folS qs.xs lo hi (zs.xs.drop j.toNat) ⟨n, t, s, ⟨a, b, c, d⟩⟩)).v.c, .i (Sp.getS (Sp.folS qs.xs lo hi (zs.xs.drop j.toNat) ⟨n, t, s, ⟨a, b, c, d⟩⟩)).v.d])
    (K 1 [.ro _ qs, .ro _ ws, .i lo, .i hi, .l w, .l ys]))
 | _ => False
noncomputable def Xe7 : LC where
 len := 76
 T := [(0, (.ptr 4 0)), (4, .int .i64), (6, (.ptr 13 0)), (16, .rs Jb), (17, .int .i64), (18, .int .i64)]
 H := [(4, .blk 82 [.rs Ja, .rs Jb, .int .i64, .int .i64, (.row 7), (.mp 10)]), (7, .arr 3 Jb), (10, .mpP), (13, .blk 86 [.int .i64, .int .i64, .int .i64, .int .i64, .int .i64, .int .i64])]
 W := ([5] ++ rg 8 6 ++ rg 19 46)
 outs := [⟨.exit 0, [(0, (.ptr 4 0)), (4, .int .i64), (6, (.ptr 13 0))], [(4, .blk 82 [.rs Ja, .rs Jb, .int .i64, .int .i64, (.row 7), (.mp 10)]), (7, .arr 3 Jb), (10, .mpP), (13, .blk 86 [.int .i64, .int .i64, .int .i64, .int .i64, .int .i64, .int .i64])], ([5] ++ rg 8 6 ++ rg 16 49)⟩, ⟨.ret, [(4, (.lit (.int .i64 0))), (5, (.lit (.bool false)))], [(4, .blk 82 [.rs Ja, .rs Jb, .int .i64, .int .i64, (.row 7), (.mp 10)]), (7, .arr 3 Jb), (10, .mpP)], ([0, 6] ++ rg 8 6 ++ rg 16 49)⟩]
 spec := Xd3
def Zbe [W : InW] (zs : Ro Jb) (j : Int) := cel zs.xs j.toNat (0 : Nat)
def Zbf [W : InW] (zs : Ro Jb) (j : Int) (qs : Ro Ja) (a b c d : Int) := Sp.V4.dec { a := a, b := b, c := c, d := d } (Sp.qPart qs.xs (Zbe zs j).int.toNat)
def Xda [W : InW] (n : Int) (zs : Ro Jb) (l j : Int) (qs : Ro Ja) (ws : Ro Jb) (lo hi : Int) (w xs : Dt) (t s a b c d : Int) (A : List Ed -> Prop) (K : Nat -> List Ed -> Prop) : Prop :=
 Vif (decide (j < l)) (Need (decide (0 <= j) && decide (j < (↑(zs.xs.length) : Int))) (Need (decide (j.toNat < zs.xs.length)) (Ar .i64 ((↑(qs.xs.length) : Int) - 1) fun z => Pre True (Vif (Sp.out t z [[Cl.i (Zbe zs j).int]]) (K (0+1) [.ro _ qs, .ro _ ws, .i lo, .i hi, .l w, .l xs]) (Pre (Sp.BkOk qs.xs ws.xs lo hi w /\ Sp.StOk qs.xs t s { a := a, b := b, c := c, d := d } /\ Sp.MemoOk qs.xs lo hi xs /\ t <= t /\ t <= (Zbe zs j).int /\ (Zbe zs j).int < (↑(qs.xs.length) : Int) /\ 0 <= n /\ n + Sp.cnt qs.xs lo hi (qs.xs.length - t.toNat) s { a := a, b := b, c := c, d := d } <= (65536 : Int)) (Sp.FaM (Sp.MemoOk qs.xs lo hi) fun ys => Pre (Sp.BkOk qs.xs ws.xs lo hi w /\ Sp.StOk qs.xs t s { a := a, b := b, c := c, d := d } /\ t <= (Zbe zs j).int /\ (Zbe zs j).int < (↑(qs.xs.length) : Int)) (Vif (!decide ((1 : Int) <= Sp.V4.get { a := a, b := b, c := c, d := d } (Sp.qPart qs.xs (Zbe zs j).int.toNat))) (K (0+1) [.ro _ qs, .ro _ ws, .i lo, .i hi, .l w, .l ys]) (Ar .i64 (j + 1) fun z => A [.i (n + (Sp.cnt qs.xs lo hi (qs.xs.length - t.toNat) s { a := a, b := b, c := c, d := d } - Sp.cnt qs.xs lo hi (qs.xs.length - (Zbe zs j).int.toNat) s { a := a, b := b, c := c, d := d })), .ro _ zs, .i l, .i z, .ro _ qs, .ro _ ws, .i lo, .i hi, .l w, .l ys, .i ((Zbe zs j).int + 1), .i (s + Sp.wt qs.xs (Zbe zs j).int.toNat), .i (Zbf zs j qs a b c d).1, .i (Zbf zs j qs a b c d).2, .i (Zbf zs j qs a b c d).3, .i (Zbf zs j qs a b c d).4])))))))) (K 0 [.i n, .ro _ qs, .ro _ ws, .i lo, .i hi, .l w, .l xs, .i t, .i s, .i a, .i b, .i c, .i d])
theorem Xii (W : InW) (n zs l j qs ws lo hi w xs t s a b c d A K) : Yff { cxT Try.prog TT T11 1000 50 with fn := 51 } 1000 (Yob Try.prog 51 4) (Yd6 76 [(0, .ptr 4 0), (4, .si .i64 n), (6, .ptr 13 0), (16, .rs _ zs), (17, .si .i64 l), (18, .si .i64 j)] ([5] ++ rg 8 6 ++ rg 19 46)) [(4, .blk 82 [.rs _ qs, .rs _ ws, .si .i64 lo, .si .i64 hi, .rw 7, .mp 10]), (7, .arr 3 Jb w), (10, .obj (.mpP xs)), (13, .blk 86 [.si .i64 t, .si .i64 s, .si .i64 a, .si .i64 b, .si .i64 c, .si .i64 d])] (Yut Xe7 A K) = Xda n zs l j qs ws lo hi w xs t s a b c d A K := by kernel_rfl
def Xeq : Prop := ∀ (W : InW) (body a : Code), (Try.prog.funcs[51]?).bind (·.body) = some body -> a ∈ Yy body -> Yf0 a = 4 -> @Yms W Try.prog a (@Ytz W Xe7)
theorem Xjs (meas : [InW] -> List Ed -> Nat) (hyp_ : ∀ (W : InW) n zs l j qs ws lo hi w xs t s a b c d K, Xd3 [.i n, .ro _ zs, .i l, .i j, .ro _ qs, .ro _ ws, .i lo, .i hi, .l w, .l xs, .i t, .i s, .i a, .i b, .i c, .i d] K -> ∀ A : List Ed -> Prop, (∀ e, meas e < meas [.i n, .ro _ zs, .i l, .i j, .ro _ qs, .ro _ ws, .i lo, .i hi, .l w, .l xs, .i t, .i s, .i a, .i b, .i c, .i d] -> Xd3 e K -> A e) -> Xda n zs l j qs ws lo hi w xs t s a b c d A K) : Xeq :=
 LE.okOf' (fun W => @TT W) (fun W => @Xc W) Xa T11 1000 50 (by kernel_rfl) Xe7 (fun W => @meas W) fun W n zs l j qs ws lo hi w xs t s a b c d K hs =>
  (Xii W n zs l j qs ws lo hi w xs t s a b c d (fun e => meas e < meas [.i n, .ro _ zs, .i l, .i j, .ro _ qs, .ro _ ws, .i lo, .i hi, .l w, .l xs, .i t, .i s, .i a, .i b, .i c, .i d] /\ Xd3 e K) K).mpr (hyp_ W n zs l j qs ws lo hi w xs t s a b c d K hs _ fun e h1 h2 => ⟨h1, h2⟩)
theorem Xl5 : Xeq := Xjs (fun e => match e with | _ :: _ :: .i l :: .i j :: _ => (l - j).toNat | _ => 0) fun W n zs l j qs ws lo hi w xs t s a b c d K hs A hA => by
 obtain ⟨⟨bk, st, mo, rfl, h0, h1, n0, n1⟩, ⟨hk⟩⟩ := hs;unfold Xda;delta Zbf Zbe;have hf := bk.few;have ht := st.a0;have hz := zs.len;simp only [maxLen] at hz
 by_cases hj : j < zs.xs.length
 ·rw [Sp.folS_at h0 hj] at hk;have hl : ((zs.xs.length : Int) - (j + 1)).toNat < ((zs.xs.length : Int) - j).toNat := by omega
  refine vifd (fun _ => ?_) (fun h => absurd hj h);refine ned (by simp; omega) (nedd (by omega) (ar64 (by omega) ⟨trivial, ?_⟩));rw [out1]
  by_cases hx : Sp.inr (cel zs.xs j.toNat 0).int t ((qs.xs.length : Int) - 1) = true
  ·have hx2 := Sp.inr_iff.1 hx;have hm := Sp.cnt_mono (qs := qs.xs) (lo := lo) (hi := hi) (s := s) (v := ⟨a, b, c, d⟩) (i := t) ((cel zs.xs j.toNat 0).int - t).toNat (by omega) (by omega);rw [show t + (((cel zs.xs j.toNat 0).int - t).toNat : Nat) = (cel zs.xs j.toNat 0).int by omega] at hm;have hc := Sp.cnt_at' (qs := qs.xs) (lo := lo) (hi := hi) (s := s) (v := ⟨a, b, c, d⟩) (i := (cel zs.xs j.toNat 0).int) (by omega) (by omega);have p1 := Sp.cnt_pos (qs := qs.xs) (lo := lo) (hi := hi) (s := s) (v := ⟨a, b, c, d⟩) (m := qs.xs.length - ((cel zs.xs j.toNat 0).int + 1).toNat);refine vif (fun h => by rw [hx] at h; exact absurd h (by decide)) (fun _ => ?_);refine ⟨⟨bk, st, mo, by omega, hx2.1, by omega, n0, n1⟩, ⟨fun ys hy => ⟨⟨bk, st, hx2.1, by omega⟩, vifn (fun hg => ?_) (fun hg => ?_)⟩⟩⟩
   ·rw [if_neg (fun h => hg h.2)] at hk;exact (hk ys hy).2 rfl
   ·rw [if_pos ⟨hx, hg⟩] at hk;rw [if_pos hg] at hc;have h6 : n + (Sp.cnt qs.xs lo hi (qs.xs.length - t.toNat) s ⟨a, b, c, d⟩ - Sp.cnt qs.xs lo hi (qs.xs.length - (cel zs.xs j.toNat 0).int.toNat) s ⟨a, b, c, d⟩) + Sp.cnt qs.xs lo hi (qs.xs.length - ((cel zs.xs j.toNat 0).int + 1).toNat) (s + Sp.wt qs.xs (cel zs.xs j.toNat 0).int.toNat) (Sp.V4.dec ⟨a, b, c, d⟩ (Sp.qPart qs.xs (cel zs.xs j.toNat 0).int.toNat)) <= 65536 := by omega
    exact ar64 (by omega) (hA _ hl ⟨⟨bk, st.step bk hx2.1 (by omega) hg, hy, rfl, by omega, by omega, by omega, h6⟩, ⟨hk⟩⟩)
  ·refine vif (fun _ => ?_) (fun h => absurd (by simpa using h) hx);rw [if_neg (fun h => hx h.1)] at hk;exact (hk xs mo).2 rfl
 ·refine vifd (fun h => absurd h hj) (fun _ => ?_);rw [List.drop_eq_nil_of_le (by omega)] at hk;exact (hk xs mo).1 rfl
noncomputable def Xmr : LE Try.prog := ⟨51, 4, fun W => @Ytz W Xe7, Xl5⟩
noncomputable def T12 : Tab Try.prog := ⟨[Xi], [Xmr], [ceOf Xf Xu, ceOf Xe Xm, ceOf (Xg 17) (Xk 17)]⟩
def Xho [InW] (e : List Ed) (K : Nat -> List Ed -> Prop) : Prop := match e with
 | [.ro _ zs, .ro _ qs, .ro _ ws, .i lo, .i hi, .l w, .l xs] => Pre (Sp.BkOk qs.xs ws.xs lo hi w /\ Sp.StOk qs.xs 0 0 (Sp.v0 ws.xs) /\ Sp.MemoOk qs.xs lo hi xs)
   (Sp.FaM (Sp.MemoOk qs.xs lo hi) fun ys => K 0 [.i (Sp.fol qs.xs ws.xs lo hi zs.xs).1, .b (Sp.fol qs.xs ws.xs lo hi zs.xs).2, .ro _ qs, .ro _ ws, .i lo, .i hi, .l w, .l ys])
 | _ => False
noncomputable def Xo : CC where
 g := 51
 args := [(.ptr 4 0), .rs Jb]
 H := [(4, .blk 82 [.rs Ja, .rs Jb, .int .i64, .int .i64, (.row 7), (.mp 10)]), (7, .arr 3 Jb), (10, .mpP)]
 outs := [⟨false, .tup [.int .i64, .bool], [(4, .blk 82 [.rs Ja, .rs Jb, .int .i64, .int .i64, (.row 7), (.mp 10)]), (7, .arr 3 Jb), (10, .mpP)], false⟩]
 spec := Xho
def Zbg [W : InW] (zs : Ro Jb) (qs : Ro Ja) (ws : Ro Jb) (lo hi : Int) := Sp.folS qs.xs lo hi (List.drop (Int.toNat Zk) zs.xs) { n := Zk, t := Zk, s := Zk, v := { a := (cel ws.xs Zbc Zbc).int, b := (cel ws.xs (1 : Nat) Zbc).int, c := (cel ws.xs (2 : Nat) Zbc).int, d := (cel ws.xs (3 : Nat) Zbc).int } }
def Zbh [W : InW] (zs : Ro Jb) (qs : Ro Ja) (ws : Ro Jb) (lo hi : Int) := Sp.getS (Zbg zs qs ws lo hi)
def Xdh [W : InW] (zs : Ro Jb) (qs : Ro Ja) (ws : Ro Jb) (lo hi : Int) (w xs : Dt) (K : Nat -> List Ed -> Prop) : Prop :=
 Pre (Sp.BkOk qs.xs ws.xs lo hi w /\ Sp.StOk qs.xs Zk Zk { a := (cel ws.xs Zbc Zbc).int, b := (cel ws.xs (1 : Nat) Zbc).int, c := (cel ws.xs (2 : Nat) Zbc).int, d := (cel ws.xs (3 : Nat) Zbc).int } /\ Sp.MemoOk qs.xs lo hi xs /\ (↑(zs.xs.length) : Int) = (↑(zs.xs.length) : Int) /\ Zk <= 0 /\ Zk <= (↑(zs.xs.length) : Int) /\ Zk <= 0 /\ Zk + Sp.cnt qs.xs lo hi (qs.xs.length - Int.toNat Zk) Zk { a := (cel ws.xs Zbc Zbc).int, b := (cel ws.xs (1 : Nat) Zbc).int, c := (cel ws.xs (2 : Nat) Zbc).int, d := (cel ws.xs (3 : Nat) Zbc).int } <= (65536 : Int)) (Sp.FaM (Sp.MemoOk qs.xs lo hi) fun ys => Vif (Sp.isS (Zbg zs qs ws lo hi)) (Vif (decide ((Zbh zs qs ws lo hi).v.1 = 0) && (decide ((Zbh zs qs ws lo hi).v.2 = 0) && (decide ((Zbh zs qs ws lo hi).v.3 = 0) && (decide ((Zbh zs qs ws lo hi).v.4 = 0) && true)))) (Pre (Sp.BkOk qs.xs ws.xs lo hi w /\ Sp.StOk qs.xs (Zbh zs qs ws lo hi).t (Zbh zs qs ws lo hi).s { a := (Zbh zs qs ws lo hi).v.1, b := (Zbh zs qs ws lo hi).v.2, c := (Zbh zs qs ws lo hi).v.3, d := (Zbh zs qs ws lo hi).v.4 } /\ Sp.MemoOk qs.xs lo hi ys /\ qs.xs.length - (Zbh zs qs ws lo hi).t.toNat < 17) (Sp.FaM (Sp.MemoOk qs.xs lo hi) fun ys => K 0 [.i (Zbh zs qs ws lo hi).n, .b (decide (Sp.cnt qs.xs lo hi (qs.xs.length - (Zbh zs qs ws lo hi).t.toNat) (Zbh zs qs ws lo hi).s { a := (Zbh zs qs ws lo hi).v.1, b := (Zbh zs qs ws lo hi).v.2, c := (Zbh zs qs ws lo hi).v.3, d := (Zbh zs qs ws lo hi).v.4 } = (1 : Int))), .ro _ qs, .ro _ ws, .i lo, .i hi, .l w, .l ys])) (K 0 [.i (Zbh zs qs ws lo hi).n, .b false, .ro _ qs, .ro _ ws, .i lo, .i hi, .l w, .l ys])) (K 0 [.i Zk, .b false, .ro _ qs, .ro _ ws, .i lo, .i hi, .l w, .l ys]))
theorem Xip (W : InW) (zs qs ws lo hi w xs K) : Yw2 (cxT Try.prog TT T12 1000 50) 1000 51 [.ptr 4 0, .rs _ zs] [(4, .blk 82 [.rs _ qs, .rs _ ws, .si .i64 lo, .si .i64 hi, .rw 7, .mp 10]), (7, .arr 3 Jb w), (10, .obj (.mpP xs))] (fun v h => outC Xo.H [.ro _ qs, .ro _ ws, .i lo, .i hi, .l w, .l xs] Xo.outs 0 false v h K) (fun v h => outC Xo.H [.ro _ qs, .ro _ ws, .i lo, .i hi, .l w, .l xs] Xo.outs 0 true v h K) = Xdh zs qs ws lo hi w xs K := by kernel_rfl
theorem Xjz (hyp_ : ∀ (W : InW) zs qs ws lo hi w xs K, Xho [.ro _ zs, .ro _ qs, .ro _ ws, .i lo, .i hi, .l w, .l xs] K -> Xdh zs qs ws lo hi w xs K) : ∀ W : InW, @CallC W Try.prog Xo :=
 CC.okOf (fun W => @TT W) (fun W => @Xc W) Xa T12 1000 50 Xo fun W zs qs ws lo hi w xs K hs => (Xip W zs qs ws lo hi w xs K).mpr (hyp_ W zs qs ws lo hi w xs K hs)
theorem dec1 {P : Prop} [i : Decidable P] {b : Bool} (h : P ↔ b = true) : b = decide P := by
 cases b
 ·exact (decide_eq_false fun p => absurd (h.1 p) (by decide)).symm
 ·exact (decide_eq_true (h.2 rfl)).symm
theorem Xh0 : ∀ W : InW, @CallC W Try.prog Xo := Xjz fun W zs qs ws lo hi w xs K hs => by
 obtain ⟨⟨bk, st, mo⟩, ⟨hk⟩⟩ := hs;unfold Xdh;delta Zbh Zbg Zk Zbc;have hf := bk.few;have b1 := Sp.cnt_16 (qs := qs.xs) (lo := lo) (hi := hi) (m := qs.xs.length - Int.toNat 0) (by omega) 0 (Sp.v0 ws.xs);unfold Sp.fol at hk;have hok := fun r => Sp.folS_ok (lo := lo) (hi := hi) bk zs.xs ⟨0, 0, 0, Sp.v0 ws.xs⟩ r st;have e0 : ∀ r, Sp.folS qs.xs lo hi (zs.xs.drop (Int.toNat 0)) r = Sp.folS qs.xs lo hi zs.xs r := fun r => by rw [show Int.toNat 0 = 0 from rfl, List.drop_zero]
 refine ⟨⟨bk, st, mo, rfl, by omega, by omega, by omega, show 0 + Sp.cnt qs.xs lo hi (qs.xs.length - Int.toNat 0) 0 (Sp.v0 ws.xs) <= 65536 by omega⟩, ⟨fun ys hy => ?_⟩⟩;simp only [e0]
 change Vif (Sp.isS (Sp.folS qs.xs lo hi zs.xs ⟨0, 0, 0, Sp.v0 ws.xs⟩)) _ _
 revert hk hok
 show _ -> _ -> Vif (Sp.isS (Sp.folS qs.xs lo hi zs.xs ⟨0, 0, 0, Sp.v0 ws.xs⟩)) _ _
 have ev : (⟨(cel ws.xs 0 0).int, (cel ws.xs 1 0).int, (cel ws.xs 2 0).int, (cel ws.xs 3 0).int⟩ : V4) = Sp.v0 ws.xs := rfl;simp only [ev];generalize Sp.folS qs.xs lo hi zs.xs ⟨0, 0, 0, Sp.v0 ws.xs⟩ = R;intro hk hok;cases R with
 | none =>
  refine vif (fun h => by cases h) (fun _ => ?_);exact hk ys hy
 | some r =>
  refine vif (fun _ => ?_) (fun h => by cases h);have so := hok r rfl;simp only [Sp.getS, Option.getD_some];obtain ⟨rn, rt, rs, ⟨va, vb, vc, vd⟩⟩ := r;simp only at hk so ⊢;refine vif (fun hv => ?_) (fun hv => ?_)
  ·have g0 := Bool.and_eq_true_iff.1 hv;have g1 := Bool.and_eq_true_iff.1 g0.2;have g2 := Bool.and_eq_true_iff.1 g1.2;have g3 := Bool.and_eq_true_iff.1 g2.2;have a0 : va = 0 := of_decide_eq_true g0.1;have a1 : vb = 0 := of_decide_eq_true g1.1;have a2 : vc = 0 := of_decide_eq_true g2.1;have a3 : vd = 0 := of_decide_eq_true g3.1;have hv : Sp.V4.nil ⟨va, vb, vc, vd⟩ = true := by simp [Sp.V4.nil, a0, a1, a2, a3]
   refine ⟨⟨bk, so, hy, by omega⟩, ⟨fun us hu => ?_⟩⟩;have := hk us hu;rw [hv, Bool.true_and] at this;refine Eq.mp (congrArg (fun z => K 0 (Ed.i rn :: Ed.b z :: _)) (dec1 ?_)) this
   show Sp.cnt qs.xs lo hi (qs.xs.length - rt.toNat) rs ⟨va, vb, vc, vd⟩ = 1 ↔ _
   rw [Sp.cnt_nil hv];cases Sp.inr rs lo hi <;> simp
  ·have hv : Sp.V4.nil ⟨va, vb, vc, vd⟩ = false := by
    rw [<- Bool.not_eq_true];intro h2;simp [Sp.V4.nil, and_assoc] at h2;simp [h2] at hv
   have := hk ys hy;rw [hv, Bool.false_and] at this;exact this
noncomputable def T13 : Tab Try.prog := ⟨[Xi], [], [ceOf Xh Xce, ceOf Xf Xu, ceOf (Xg 17) (Xk 17), ceOf Xn Xhz, ceOf Xo Xh0]⟩
namespace Sp
def total (qs ws : Dt) (lo hi : Int) : Int := cnt qs lo hi qs.length 0 (v0 ws)
def wtsR (qs ws : Dt) (lo hi : Int) : Dt := if chkE qs ws lo hi = 0 then wts qs qs.length else []
def cntR (qs ws : Dt) (lo hi : Int) : Int := if chkE qs ws lo hi = 0 then total qs ws lo hi else 0
def nthE (qs ws : Dt) (lo hi k : Int) : Int := if chkE qs ws lo hi = 0 then (if inr k 0 (total qs ws lo hi - 1) then 0 else 4) else chkE qs ws lo hi
def nthR (qs ws : Dt) (lo hi k : Int) : Dt := if nthE qs ws lo hi k = 0 then nthD qs lo hi qs.length 0 (v0 ws) k else []
def numE (qs ws : Dt) (lo hi : Int) (xs : Dt) : Int := if chkE qs ws lo hi = 0 then (if (fol qs ws lo hi xs).2 then 0 else 6) else chkE qs ws lo hi
def numR (qs ws : Dt) (lo hi : Int) (xs : Dt) : Int := if numE qs ws lo hi xs = 0 then (fol qs ws lo hi xs).1 else 0
end Sp
abbrev Xb4 (ds : DS) : DS := match ds with | [[.l qs, .l ws, .i lo, .i hi]] => [[.l (Sp.wtsR qs ws lo hi)], [.i (Sp.chkE qs ws lo hi)]] | _ => []
abbrev Xcb (ds : DS) : DS := match ds with | [[.l qs, .l ws, .i lo, .i hi]] => [[.i (Sp.cntR qs ws lo hi)], [.i (Sp.chkE qs ws lo hi)]] | _ => []
abbrev Xb9 (ds : DS) : DS := match ds with | [[.l qs, .l ws, .i lo, .i hi], [.i k]] => [[.l (Sp.nthR qs ws lo hi k)], [.i (Sp.nthE qs ws lo hi k)]] | _ => []
abbrev Xb8 (ds : DS) : DS := match ds with | [[.l qs, .l ws, .i lo, .i hi], [.l xs]] => [[.i (Sp.numR qs ws lo hi xs)], [.i (Sp.numE qs ws lo hi xs)]] | _ => []
def Xcm [W : InW] (kQ : Ro Ja) (k_Ws : Ro Jb) (k_Lo k_Hi : Int) (Q : DS -> Prop) : Prop :=
 Vif (decide (Sp.chkE kQ.xs k_Ws.xs k_Lo k_Hi = 0)) (Q [[Cl.l (Sp.wts kQ.xs (kQ.xs.length))], [Cl.i 0]]) (Vif (!decide (Sp.chkE kQ.xs k_Ws.xs k_Lo k_Hi = 0)) (Q [[Cl.l []], [Cl.i (Sp.chkE kQ.xs k_Ws.xs k_Lo k_Hi)]]) ((16 : Nat) = 16 + 1))
theorem Xit (W : InW) (kQ k_Ws k_Lo k_Hi Q) : Yw5 (cxT Try.prog TT T13 1000 50) 1000 18 [.agg [.rs _ kQ, .rs _ k_Ws, .si .i64 k_Lo, .si .i64 k_Hi]] [] 0 (Y1i [(false, [.row 3 Jb]), (false, [.int .i64])] Q) (fun _ _ _ _ => Stuck 421) = Xcm kQ k_Ws k_Lo k_Hi Q := by kernel_rfl
abbrev Xbj : List AT := [.agg [.sl Ja, .sl Jb, .int .i64, .int .i64]]
theorem Xj3 {pre : DS -> Prop} {res : DS -> DS} (hyp_ : ∀ (W : InW) (kQ : Ro Ja) (k_Ws : Ro Jb) (k_Lo k_Hi : Int), pre [[.l kQ.xs, .l k_Ws.xs, .i k_Lo, .i k_Hi]] -> ∀ Q : DS -> Prop, Q (res [[.l kQ.xs, .l k_Ws.xs, .i k_Lo, .i k_Hi]]) -> Xcm kQ k_Ws k_Lo k_Hi Q) : PureOk Try.prog 18 Xbj [(false, [.row 3 Jb]), (false, [.int .i64])] pre res :=
 PureOk.of' (fun W => @TT W) (fun W => @Xc W) Xa T13 1000 50 fun W kQ k_Ws k_Lo k_Hi hp =>
  (Xit W kQ k_Ws k_Lo k_Hi (fun o => o = res [[.l kQ.xs, .l k_Ws.xs, .i k_Lo, .i k_Hi]])).mpr (hyp_ W kQ k_Ws k_Lo k_Hi hp _ rfl)
def Xcp [W : InW] (kQ : Ro Ja) (k_Ws : Ro Jb) (k_Lo k_Hi : Int) (Q : DS -> Prop) : Prop :=
 Vif (decide (Sp.chkE kQ.xs k_Ws.xs k_Lo k_Hi = 0)) (Pre (Sp.BkOk kQ.xs k_Ws.xs k_Lo k_Hi (Sp.wts kQ.xs (kQ.xs.length)) /\ Sp.StOk kQ.xs Zk Zk { a := (cel k_Ws.xs Zbc Zbc).int, b := (cel k_Ws.xs (1 : Nat) Zbc).int, c := (cel k_Ws.xs (2 : Nat) Zbc).int, d := (cel k_Ws.xs (3 : Nat) Zbc).int } /\ Sp.MemoOk kQ.xs k_Lo k_Hi [] /\ kQ.xs.length - Int.toNat Zk < 17) (Sp.FaM (Sp.MemoOk kQ.xs k_Lo k_Hi) fun ys => Q [[Cl.i (Sp.cnt kQ.xs k_Lo k_Hi (kQ.xs.length - Int.toNat Zk) Zk { a := (cel k_Ws.xs Zbc Zbc).int, b := (cel k_Ws.xs (1 : Nat) Zbc).int, c := (cel k_Ws.xs (2 : Nat) Zbc).int, d := (cel k_Ws.xs (3 : Nat) Zbc).int })], [Cl.i 0]])) (Vif (!decide (Sp.chkE kQ.xs k_Ws.xs k_Lo k_Hi = 0)) (Q [[Cl.i 0], [Cl.i (Sp.chkE kQ.xs k_Ws.xs k_Lo k_Hi)]]) ((16 : Nat) = 16 + 1))
theorem Xiw (W : InW) (kQ k_Ws k_Lo k_Hi Q) : Yw5 (cxT Try.prog TT T13 1000 50) 1000 21 [.agg [.rs _ kQ, .rs _ k_Ws, .si .i64 k_Lo, .si .i64 k_Hi]] [] 0 (Y1i [(false, [.int .i64]), (false, [.int .i64])] Q) (fun _ _ _ _ => Stuck 421) = Xcp kQ k_Ws k_Lo k_Hi Q := by kernel_rfl
abbrev Xbm : List AT := [.agg [.sl Ja, .sl Jb, .int .i64, .int .i64]]
theorem Xj6 {pre : DS -> Prop} {res : DS -> DS} (hyp_ : ∀ (W : InW) (kQ : Ro Ja) (k_Ws : Ro Jb) (k_Lo k_Hi : Int), pre [[.l kQ.xs, .l k_Ws.xs, .i k_Lo, .i k_Hi]] -> ∀ Q : DS -> Prop, Q (res [[.l kQ.xs, .l k_Ws.xs, .i k_Lo, .i k_Hi]]) -> Xcp kQ k_Ws k_Lo k_Hi Q) : PureOk Try.prog 21 Xbm [(false, [.int .i64]), (false, [.int .i64])] pre res :=
 PureOk.of' (fun W => @TT W) (fun W => @Xc W) Xa T13 1000 50 fun W kQ k_Ws k_Lo k_Hi hp =>
  (Xiw W kQ k_Ws k_Lo k_Hi (fun o => o = res [[.l kQ.xs, .l k_Ws.xs, .i k_Lo, .i k_Hi]])).mpr (hyp_ W kQ k_Ws k_Lo k_Hi hp _ rfl)
def Xco [W : InW] (kQ : Ro Ja) (k_Ws : Ro Jb) (k_Lo k_Hi n : Int) (Q : DS -> Prop) : Prop :=
 Vif (decide (Sp.chkE kQ.xs k_Ws.xs k_Lo k_Hi = 0)) (Pre (Sp.BkOk kQ.xs k_Ws.xs k_Lo k_Hi (Sp.wts kQ.xs (kQ.xs.length)) /\ Sp.StOk kQ.xs Zk Zk { a := (cel k_Ws.xs Zbc Zbc).int, b := (cel k_Ws.xs (1 : Nat) Zbc).int, c := (cel k_Ws.xs (2 : Nat) Zbc).int, d := (cel k_Ws.xs (3 : Nat) Zbc).int } /\ Sp.MemoOk kQ.xs k_Lo k_Hi [] /\ kQ.xs.length - Int.toNat Zk < 17) (Sp.FaM (Sp.MemoOk kQ.xs k_Lo k_Hi) fun ys => Ar .i64 (Sp.cnt kQ.xs k_Lo k_Hi (kQ.xs.length - Int.toNat Zk) Zk { a := (cel k_Ws.xs Zbc Zbc).int, b := (cel k_Ws.xs (1 : Nat) Zbc).int, c := (cel k_Ws.xs (2 : Nat) Zbc).int, d := (cel k_Ws.xs (3 : Nat) Zbc).int } - (1 : Int)) fun z => Pre True (Vif (Sp.out Zk z [[Cl.i n]]) (Q [[Cl.l []], [Cl.i 4]]) (Pre (Sp.BkOk kQ.xs k_Ws.xs k_Lo k_Hi (Sp.wts kQ.xs (kQ.xs.length)) /\ Sp.StOk kQ.xs Zk Zk (Sp.v0 k_Ws.xs) /\ Sp.MemoOk kQ.xs k_Lo k_Hi ys /\ 0 <= n /\ n < Sp.cnt kQ.xs k_Lo k_Hi (kQ.xs.length) Zk (Sp.v0 k_Ws.xs)) (Sp.FaM (Sp.MemoOk kQ.xs k_Lo k_Hi) fun ys => Q [[Cl.l (Sp.nthD kQ.xs k_Lo k_Hi (kQ.xs.length) Zk (Sp.v0 k_Ws.xs) n)], [Cl.i 0]]))))) (Vif (!decide (Sp.chkE kQ.xs k_Ws.xs k_Lo k_Hi = 0)) (Q [[Cl.l []], [Cl.i (Sp.chkE kQ.xs k_Ws.xs k_Lo k_Hi)]]) ((16 : Nat) = 16 + 1))
theorem Xiv (W : InW) (kQ k_Ws k_Lo k_Hi n Q) : Yw5 (cxT Try.prog TT T13 1000 50) 1000 24 [.agg [.rs _ kQ, .rs _ k_Ws, .si .i64 k_Lo, .si .i64 k_Hi], .si .i64 n] [] 0 (Y1i [(false, [.row 3 Jb]), (false, [.int .i64])] Q) (fun _ _ _ _ => Stuck 421) = Xco kQ k_Ws k_Lo k_Hi n Q := by kernel_rfl
abbrev Xbl : List AT := [.agg [.sl Ja, .sl Jb, .int .i64, .int .i64], .one (.int .i64)]
theorem Xj5 {pre : DS -> Prop} {res : DS -> DS} (hyp_ : ∀ (W : InW) (kQ : Ro Ja) (k_Ws : Ro Jb) (k_Lo k_Hi n : Int), pre [[.l kQ.xs, .l k_Ws.xs, .i k_Lo, .i k_Hi], [.i n]] -> ∀ Q : DS -> Prop, Q (res [[.l kQ.xs, .l k_Ws.xs, .i k_Lo, .i k_Hi], [.i n]]) -> Xco kQ k_Ws k_Lo k_Hi n Q) : PureOk Try.prog 24 Xbl [(false, [.row 3 Jb]), (false, [.int .i64])] pre res :=
 PureOk.of' (fun W => @TT W) (fun W => @Xc W) Xa T13 1000 50 fun W kQ k_Ws k_Lo k_Hi n hp =>
  (Xiv W kQ k_Ws k_Lo k_Hi n (fun o => o = res [[.l kQ.xs, .l k_Ws.xs, .i k_Lo, .i k_Hi], [.i n]])).mpr (hyp_ W kQ k_Ws k_Lo k_Hi n hp _ rfl)
def Xcn [W : InW] (kQ : Ro Ja) (k_Ws : Ro Jb) (k_Lo k_Hi : Int) (xs : Ro Jb) (Q : DS -> Prop) : Prop :=
 Vif (decide (Sp.chkE kQ.xs k_Ws.xs k_Lo k_Hi = 0)) (Pre (Sp.BkOk kQ.xs k_Ws.xs k_Lo k_Hi (Sp.wts kQ.xs (kQ.xs.length)) /\ Sp.StOk kQ.xs (0 : Int) (0 : Int) (Sp.v0 k_Ws.xs) /\ Sp.MemoOk kQ.xs k_Lo k_Hi []) (Sp.FaM (Sp.MemoOk kQ.xs k_Lo k_Hi) fun ys => Vif (!(Sp.fol kQ.xs k_Ws.xs k_Lo k_Hi xs.xs).2) (Q [[Cl.i 0], [Cl.i 6]]) (Q [[Cl.i (Sp.fol kQ.xs k_Ws.xs k_Lo k_Hi xs.xs).1], [Cl.i 0]]))) (Vif (!decide (Sp.chkE kQ.xs k_Ws.xs k_Lo k_Hi = 0)) (Q [[Cl.i 0], [Cl.i (Sp.chkE kQ.xs k_Ws.xs k_Lo k_Hi)]]) ((16 : Nat) = 16 + 1))
theorem Xiu (W : InW) (kQ k_Ws k_Lo k_Hi xs Q) : Yw5 (cxT Try.prog TT T13 1000 50) 1000 26 [.agg [.rs _ kQ, .rs _ k_Ws, .si .i64 k_Lo, .si .i64 k_Hi], .rs _ xs] [] 0 (Y1i [(false, [.int .i64]), (false, [.int .i64])] Q) (fun _ _ _ _ => Stuck 421) = Xcn kQ k_Ws k_Lo k_Hi xs Q := by kernel_rfl
abbrev Xbk : List AT := [.agg [.sl Ja, .sl Jb, .int .i64, .int .i64], .one (.sl Jb)]
theorem Xj4 {pre : DS -> Prop} {res : DS -> DS} (hyp_ : ∀ (W : InW) (kQ : Ro Ja) (k_Ws : Ro Jb) (k_Lo k_Hi : Int) (xs : Ro Jb), pre [[.l kQ.xs, .l k_Ws.xs, .i k_Lo, .i k_Hi], [.l xs.xs]] -> ∀ Q : DS -> Prop, Q (res [[.l kQ.xs, .l k_Ws.xs, .i k_Lo, .i k_Hi], [.l xs.xs]]) -> Xcn kQ k_Ws k_Lo k_Hi xs Q) : PureOk Try.prog 26 Xbk [(false, [.int .i64]), (false, [.int .i64])] pre res :=
 PureOk.of' (fun W => @TT W) (fun W => @Xc W) Xa T13 1000 50 fun W kQ k_Ws k_Lo k_Hi xs hp =>
  (Xiu W kQ k_Ws k_Lo k_Hi xs (fun o => o = res [[.l kQ.xs, .l k_Ws.xs, .i k_Lo, .i k_Hi], [.l xs.xs]])).mpr (hyp_ W kQ k_Ws k_Lo k_Hi xs hp _ rfl)
theorem Xk3 : PureOk Try.prog 18 Xbj [(false, [.row 3 Jb]), (false, [.int .i64])] (fun _ => True) Xb4 :=
 Xj3 fun W qs ws lo hi hp Q h => by
  unfold Xcm;simp only [Xb4, Sp.wtsR] at h;refine vifd (fun e => ?_) (fun e => vifn (fun _ => ?_) (fun e2 => absurd e2 e))
  ·rw [if_pos e, e] at h; exact h
  ·rw [if_neg e] at h; exact h
theorem Xk6 : PureOk Try.prog 21 Xbm [(false, [.int .i64]), (false, [.int .i64])] (fun _ => True) Xcb :=
 Xj6 fun W qs ws lo hi hp Q h => by
  unfold Xcp;delta Zbc Zk;simp only [Xcb, Sp.cntR] at h;refine vifd (fun e => ?_) (fun e => vifn (fun _ => ?_) (fun e2 => absurd e2 e))
  ·rw [if_pos e, e] at h;have bv := Sp.chkE_iff.1 e;have hn := bv.n2;exact ⟨⟨bv.bk, bv.st, Sp.memo_nil, by omega⟩, ⟨fun ys hy => h⟩⟩
  ·rw [if_neg e] at h; exact h
theorem Xk5 : PureOk Try.prog 24 Xbl [(false, [.row 3 Jb]), (false, [.int .i64])] (fun _ => True) Xb9 :=
 Xj5 fun W qs ws lo hi k hp Q h => by
  unfold Xco;delta Zk Zbc;simp only [Xb9, Sp.nthR, Sp.nthE] at h;refine vifd (fun e => ?_) (fun e => vifn (fun _ => ?_) (fun e2 => absurd e2 e))
  ·have bv := Sp.chkE_iff.1 e;have hn := bv.n2;have b1 := Sp.cnt_16 (qs := qs.xs) (lo := lo) (hi := hi) (m := qs.xs.length) hn 0 (Sp.v0 ws.xs);simp only [if_pos e] at h;refine ⟨⟨bv.bk, bv.st, Sp.memo_nil, by omega⟩, ⟨fun ys hy => ?_⟩⟩
   show Ar IntKind.i64 (Sp.total qs.xs ws.xs lo hi - 1) _
   have b2 : 0 <= Sp.total qs.xs ws.xs lo hi /\ Sp.total qs.xs ws.xs lo hi <= 65536 := b1;refine ar64 (by omega) ⟨trivial, ?_⟩;rw [out1]
   by_cases hk : Sp.inr k 0 (Sp.total qs.xs ws.xs lo hi - 1) = true
   ·rw [if_pos hk, if_pos rfl] at h;have hk2 := Sp.inr_iff.1 hk;refine vif (fun h => by rw [hk] at h; exact absurd h (by decide)) (fun _ => ?_);exact ⟨⟨bv.bk, bv.st, hy, hk2.1, show k < Sp.total qs.xs ws.xs lo hi by omega⟩, ⟨fun zs hz => h⟩⟩
   ·rw [if_neg hk, if_neg (by decide)] at h;exact vif (fun _ => h) (fun h => absurd (by simpa using h) hk)
  ·simp only [if_neg e] at h; exact h
theorem Xk4 : PureOk Try.prog 26 Xbk [(false, [.int .i64]), (false, [.int .i64])] (fun _ => True) Xb8 :=
 Xj4 fun W qs ws lo hi xs hp Q h => by
  unfold Xcn;simp only [Xb8, Sp.numR, Sp.numE] at h;refine vifd (fun e => ?_) (fun e => vifn (fun _ => ?_) (fun e2 => absurd e2 e))
  ·have bv := Sp.chkE_iff.1 e;simp only [if_pos e] at h;refine ⟨⟨bv.bk, bv.st, Sp.memo_nil⟩, ⟨fun ys hy => ?_⟩⟩;cases hf : (Sp.fol qs.xs ws.xs lo hi xs.xs).2 with
   | true =>
    rw [hf, if_pos rfl, if_pos rfl] at h;exact vif (fun h => absurd h (by decide)) (fun _ => h)
   | false =>
    rw [hf, if_neg (by decide), if_neg (by decide)] at h;exact vif (fun _ => h) (fun h => absurd h (by decide))
  ·simp only [if_neg e] at h; exact h
noncomputable def Xi4 : PC Try.prog := ⟨18, Xbj, [(false, [.row 3 Jb]), (false, [.int .i64])], fun _ => True, Xb4, Xk3⟩
noncomputable def Xi7 : PC Try.prog := ⟨21, Xbm, [(false, [.int .i64]), (false, [.int .i64])], fun _ => True, Xcb, Xk6⟩
noncomputable def Xi6 : PC Try.prog := ⟨24, Xbl, [(false, [.row 3 Jb]), (false, [.int .i64])], fun _ => True, Xb9, Xk5⟩
noncomputable def Xi5 : PC Try.prog := ⟨26, Xbk, [(false, [.int .i64]), (false, [.int .i64])], fun _ => True, Xb8, Xk4⟩
namespace Sp
def eqA (a b : Dt) (i : Nat) : Bool := decide ((cel a i 0).int = (cel b i 0).int)
def eqI (a b : Dt) : Bool := decide (a.length = b.length) && allF (eqA a b) 0 a.length
def sumN (f : Nat -> Int) : Nat -> Nat -> Int
 | _, 0 => 0
 | i, n + 1 => f i + sumN f (i + 1) n
theorem sumN_bound {f : Nat -> Int} {b : Int} (h : ∀ i, 0 <= f i /\ f i <= b) : ∀ n i, 0 <= sumN f i n /\ sumN f i n <= b * n
 | 0, i => by simp [sumN]
 | n + 1, i => by
  have h1 := sumN_bound h n (i + 1);have h2 := h i;have e : b * ((n + 1 : Nat) : Int) = b * (n : Int) + b := by push_cast; rw [Int.mul_add, Int.mul_one]
  rw [sumN, e];omega
end Sp
abbrev Xbc (ds : DS) : DS := match ds with | [[.l a], [.l b]] => [[.b (Sp.eqI a b)]] | _ => []
def Xba [InW] (e : List Ed) (K : Nat -> List Ed -> Prop) : Prop := match e with
 | [.ro _ a, .ro _ b, .i i] => Pre (0 <= i /\ i <= a.xs.length /\ a.xs.length = b.xs.length) (Vif (Sp.allF (Sp.eqA a.xs b.xs) i.toNat (a.xs.length - i.toNat)) (K 0 []) (K 1 []))
 | _ => False
noncomputable def Xbi : LC where
 len := 26
 T := [(0, .rs Jb), (1, .rs Jb), (5, .int .i64)]
 H := []
 W := ([4] ++ rg 11 15)
 outs := [⟨.exit 0, [], [], ([0, 1, 4, 5] ++ rg 11 15)⟩, ⟨.ret, [(4, (.lit (.bool false)))], [], ([0, 1, 5] ++ rg 11 15)⟩]
 spec := Xba
def Xbv [W : InW] (a b : Ro Jb) (i : Int) (A : List Ed -> Prop) (K : Nat -> List Ed -> Prop) : Prop :=
 Vif (decide (i < (↑(a.xs.length) : Int))) (Need (decide (0 <= i) && decide (i < (↑(a.xs.length) : Int))) (Need (decide (i.toNat < a.xs.length)) (Need (decide (0 <= i) && decide (i < (↑(b.xs.length) : Int))) (Need (decide (i.toNat < b.xs.length)) (Vif (!decide ((cel a.xs i.toNat (0 : Nat)).int = (cel b.xs i.toNat (0 : Nat)).int)) (K (0+1) []) (Ar .i64 (i + 1) fun z => A [.ro _ a, .ro _ b, .i z])))))) (K 0 [])
theorem Xgo (W : InW) (a b i A K) : Yff { cxT Try.prog TT T0 1000 50 with fn := 20 } 1000 (Yob Try.prog 20 5) (Yd6 26 [(0, .rs _ a), (1, .rs _ b), (5, .si .i64 i)] ([4] ++ rg 11 15)) [] (Yut Xbi A K) = Xbv a b i A K := by kernel_rfl
def Xby : Prop := ∀ (W : InW) (body a : Code), (Try.prog.funcs[20]?).bind (·.body) = some body -> a ∈ Yy body -> Yf0 a = 5 -> @Yms W Try.prog a (@Ytz W Xbi)
theorem Xg5 (meas : [InW] -> List Ed -> Nat) (hyp_ : ∀ (W : InW) a b i K, Xba [.ro _ a, .ro _ b, .i i] K -> ∀ A : List Ed -> Prop, (∀ e, meas e < meas [.ro _ a, .ro _ b, .i i] -> Xba e K -> A e) -> Xbv a b i A K) : Xby :=
 LE.okOf' (fun W => @TT W) (fun W => @Xc W) Xa T0 1000 50 (by kernel_rfl) Xbi (fun W => @meas W) fun W a b i K hs =>
  (Xgo W a b i (fun e => meas e < meas [.ro _ a, .ro _ b, .i i] /\ Xba e K) K).mpr (hyp_ W a b i K hs _ fun e h1 h2 => ⟨h1, h2⟩)
theorem Xkc : Xby := Xg5 (fun e => match e with | [.ro _ a, _, .i i] => ((a.xs.length : Int) - i).toNat | _ => 0) fun W a b i K hs A hA => by
 obtain ⟨⟨h0, h1, h2⟩, hk⟩ := hs;have hm := a.len;simp only [maxLen] at hm;unfold Xbv;simp only [Nat.zero_add, Nat.reduceAdd]
 by_cases hi : i < a.xs.length
 ·rw [show a.xs.length - i.toNat = (a.xs.length - (i + 1).toNat) + 1 by omega] at hk;simp only [Sp.allF, show i.toNat + 1 = (i + 1).toNat by omega] at hk;refine vifd (fun _ => ?_) (fun h => absurd hi h);refine ned (by simp; omega) (nedd (by omega) (ned (by simp; omega) (nedd (by omega) (vifn (fun e => ?_) (fun e => ?_)))))
  ·exact hk.2 (by rw [show Sp.eqA a.xs b.xs i.toNat = false from decide_eq_false e]; rfl)
  ·rw [show Sp.eqA a.xs b.xs i.toNat = true from decide_eq_true e, Bool.true_and] at hk;exact ar64 (by omega) (hA _ (by show ((a.xs.length : Int) - (i + 1)).toNat < ((a.xs.length : Int) - i).toNat; omega) ⟨⟨by omega, by omega, h2⟩, hk⟩)
 ·refine vifd (fun h => absurd h hi) (fun _ => ?_);rw [show a.xs.length - i.toNat = 0 by omega] at hk;exact hk.1 rfl
noncomputable def Xke : LE Try.prog := ⟨20, 5, fun W => @Ytz W Xbi, Xkc⟩
noncomputable def T14 : Tab Try.prog := ⟨[], [Xke], []⟩
def Xct [W : InW] (a b : Ro Jb) (Q : DS -> Prop) : Prop :=
 Vif (!decide ((↑(a.xs.length) : Int) = (↑(b.xs.length) : Int))) (Q [[Cl.b false]]) (Pre (Zk <= 0 /\ Zk <= (↑(a.xs.length) : Int) /\ a.xs.length = b.xs.length) (Vif (Sp.allF (Sp.eqA a.xs b.xs) (Int.toNat Zk) (a.xs.length - Int.toNat Zk)) (Q [[Cl.b true]]) (Q [[Cl.b false]])))
theorem Xi0 (W : InW) (a b Q) : Yw5 (cxT Try.prog TT T14 1000 50) 1000 20 [.rs _ a, .rs _ b] [] 0 (Y1i [(false, [.bool])] Q) (fun _ _ _ _ => Stuck 421) = Xct a b Q := by kernel_rfl
abbrev Xbq : List AT := [.one (.sl Jb), .one (.sl Jb)]
theorem Xka {pre : DS -> Prop} {res : DS -> DS} (hyp_ : ∀ (W : InW) (a b : Ro Jb), pre [[.l a.xs], [.l b.xs]] -> ∀ Q : DS -> Prop, Q (res [[.l a.xs], [.l b.xs]]) -> Xct a b Q) : PureOk Try.prog 20 Xbq [(false, [.bool])] pre res :=
 PureOk.of' (fun W => @TT W) (fun W => @Xc W) Xa T14 1000 50 fun W a b hp =>
  (Xi0 W a b (fun o => o = res [[.l a.xs], [.l b.xs]])).mpr (hyp_ W a b hp _ rfl)
theorem Xlh : PureOk Try.prog 20 Xbq [(false, [.bool])] (fun _ => True) Xbc :=
 Xka fun W a b hp Q h => by
  unfold Xct;delta Zk;simp only [Xbc, Sp.eqI] at h;refine vifn (fun e => ?_) (fun e => ⟨⟨by omega, by omega, by omega⟩, ?_⟩)
  ·rw [decide_eq_false (fun h => e (by omega)), Bool.false_and] at h;exact h
  ·rw [decide_eq_true (by omega), Bool.true_and] at h;rw [show Int.toNat 0 = 0 from rfl, Nat.sub_zero];refine vif (fun f => ?_) (fun f => ?_)
   ·rw [f] at h; exact h
   ·rw [f] at h; exact h
noncomputable def Xfs : PC Try.prog := ⟨20, Xbq, [(false, [.bool])], fun _ => True, Xbc, Xlh⟩
abbrev Xcd (ds : DS) : Prop := match ds with | [[.i p, .i a, .i w]] => 0 <= a /\ a <= 100000 /\ 0 <= w /\ w <= a | _ => False
abbrev Xb5 (ds : DS) : DS := match ds with | [[.i p, .i a, .i w]] => [[.i (Sp.wt [[.i p, .i a, .i w]] 0)]] | _ => []
def Xgb [W : InW] (q_Part q_Asked q_Wrong : Int) (Q : DS -> Prop) : Prop :=
 Vif (decide (q_Asked = 0)) (Q [[Cl.i 500]]) (Ar .i64 (q_Wrong * 1000) fun z => Need (!decide (q_Asked = 0)) (Ar .i64 (z.tdiv q_Asked) fun z => Q [[Cl.i z]]))
theorem Xkr (W : InW) (q_Part q_Asked q_Wrong Q) : Yw5 (cxT Try.prog TT T0 1000 50) 1000 39 [.agg [.si .i64 q_Part, .si .i64 q_Asked, .si .i64 q_Wrong]] [] 0 (Y1i [(false, [.int .i64])] Q) (fun _ _ _ _ => Stuck 421) = Xgb q_Part q_Asked q_Wrong Q := by kernel_rfl
abbrev Xcg : List AT := [.agg [.int .i64, .int .i64, .int .i64]]
theorem Xlj {pre : DS -> Prop} {res : DS -> DS} (hyp_ : ∀ (W : InW) (q_Part q_Asked q_Wrong : Int), pre [[.i q_Part, .i q_Asked, .i q_Wrong]] -> ∀ Q : DS -> Prop, Q (res [[.i q_Part, .i q_Asked, .i q_Wrong]]) -> Xgb q_Part q_Asked q_Wrong Q) : PureOk Try.prog 39 Xcg [(false, [.int .i64])] pre res :=
 PureOk.of' (fun W => @TT W) (fun W => @Xc W) Xa T0 1000 50 fun W q_Part q_Asked q_Wrong hp =>
  (Xkr W q_Part q_Asked q_Wrong (fun o => o = res [[.i q_Part, .i q_Asked, .i q_Wrong]])).mpr (hyp_ W q_Part q_Asked q_Wrong hp _ rfl)
theorem okwgt : PureOk Try.prog 39 Xcg [(false, [.int .i64])] Xcd Xb5 :=
 Xlj fun W p a w hp Q h => by
  unfold Xgb;have e : Sp.wt [[.i p, .i a, .i w]] 0 = if a = 0 then 500 else (w * 1000).tdiv a := by simp [Sp.wt, Sp.qAsk, Sp.qBad, cel, Cl.int]
  simp only [Xb5] at h;rw [e] at h;simp only [Xcd] at hp;refine vifd (fun h0 => ?_) (fun h0 => ?_)
  ·rw [if_pos h0] at h; exact h
  ·rw [if_neg h0] at h;have hb : 0 <= (w * 1000).tdiv a /\ (w * 1000).tdiv a <= 1000 := by
    rw [Int.tdiv_eq_ediv_of_nonneg (by omega)];exact ⟨Int.ediv_nonneg (by omega) (by omega), Int.ediv_le_of_le_mul (by omega) (by omega)⟩
   exact ar64 (by omega) (ned (by simp; omega) (ar64 (by omega) h))
noncomputable def Xky : PC Try.prog := ⟨39, Xcg, [(false, [.int .i64])], Xcd, Xb5, okwgt⟩
namespace Sp
def lvf (qs xs : Dt) (i : Nat) : Int := wt qs (cel xs i 0).int.toNat
def lvl (qs xs : Dt) : Int := sumN (lvf qs xs) 0 xs.length
structure In (qs xs : Dt) : Prop where
 few : xs.length <= 16
 rng : ∀ i, i < xs.length -> 0 <= (cel xs i 0).int /\ (cel xs i 0).int < qs.length
theorem wt_row (qs : Dt) (k : Nat) : wt [[.i (cel qs k 0).int, .i (cel qs k 1).int, .i (cel qs k 2).int]] 0 = wt qs k := by
 simp [wt, qAsk, qBad, cel, Cl.int]
def wan (ws : Dt) : Int := sumN (fun p => (cel ws p 0).int) 0 ws.length
end Sp
noncomputable def T15 : Tab Try.prog := ⟨[Xky], [], []⟩
def Xdz [InW] (e : List Ed) (K : Nat -> List Ed -> Prop) : Prop := match e with
 | [.ro _ xs, .i n, .i i, .ro _ qs, .ro _ ws, .i lo, .i hi] => Pre (Sp.BankV qs.xs ws.xs lo hi /\ Sp.In qs.xs xs.xs /\ 0 <= i /\ i <= xs.xs.length /\ 0 <= n /\ n <= 1000 * i) (K 0 [.i (n + Sp.sumN (Sp.lvf qs.xs xs.xs) i.toNat (xs.xs.length - i.toNat))])
 | _ => False
noncomputable def Xe3 : LC where
 len := 25
 T := [(1, .rs Jb), (2, (.ptr 1 0)), (5, .int .i64), (6, .int .i64)]
 H := [(1, .blk 27 [.rs Ja, .rs Jb, .int .i64, .int .i64])]
 W := (rg 7 17)
 outs := [⟨.exit 0, [(5, .int .i64)], [], ([1, 2] ++ rg 6 18)⟩]
 spec := Xdz
def Zbi [W : InW] (xs : Ro Jb) (i : Int) := cel xs.xs i.toNat Zbc
def Xc6 [W : InW] (xs : Ro Jb) (n i : Int) (qs : Ro Ja) (ws : Ro Jb) (lo hi : Int) (A : List Ed -> Prop) (K : Nat -> List Ed -> Prop) : Prop :=
 Vif (decide (i < (↑(xs.xs.length) : Int))) (Need (decide (0 <= i) && decide (i < (↑(xs.xs.length) : Int))) (Need (decide (i.toNat < xs.xs.length)) (Need (decide (Zk <= (Zbi xs i).int) && decide ((Zbi xs i).int < (↑(qs.xs.length) : Int))) (Need (decide ((Zbi xs i).int.toNat < qs.xs.length)) (Pre (Zk <= (cel qs.xs (Zbi xs i).int.toNat (0+1)).int /\ (cel qs.xs (Zbi xs i).int.toNat (0+1)).int <= 100000 /\ Zk <= (cel qs.xs (Zbi xs i).int.toNat (Zbc + 1 + 1)).int /\ (cel qs.xs (Zbi xs i).int.toNat (Zbc + 1 + 1)).int <= (cel qs.xs (Zbi xs i).int.toNat (0+1)).int) (Ar .i64 (n + Sp.wt [[Cl.i (cel qs.xs (Zbi xs i).int.toNat Zbc).int, Cl.i (cel qs.xs (Zbi xs i).int.toNat (0+1)).int, Cl.i (cel qs.xs (Zbi xs i).int.toNat (Zbc + 1 + 1)).int]] Zbc) fun z => Ar .i64 (i + 1) fun z_1 => A [.ro _ xs, .i z, .i z_1, .ro _ qs, .ro _ ws, .i lo, .i hi])))))) (K 0 [.i n])
theorem Xie (W : InW) (xs n i qs ws lo hi A K) : Yff { cxT Try.prog TT T15 1000 50 with fn := 59 } 1000 (Yob Try.prog 59 4) (Yd6 25 [(1, .rs _ xs), (2, .ptr 1 0), (5, .si .i64 n), (6, .si .i64 i)] (rg 7 17)) [(1, .blk 27 [.rs _ qs, .rs _ ws, .si .i64 lo, .si .i64 hi])] (Yut Xe3 A K) = Xc6 xs n i qs ws lo hi A K := by kernel_rfl
def Xem : Prop := ∀ (W : InW) (body a : Code), (Try.prog.funcs[59]?).bind (·.body) = some body -> a ∈ Yy body -> Yf0 a = 4 -> @Yms W Try.prog a (@Ytz W Xe3)
theorem Xjo (meas : [InW] -> List Ed -> Nat) (hyp_ : ∀ (W : InW) xs n i qs ws lo hi K, Xdz [.ro _ xs, .i n, .i i, .ro _ qs, .ro _ ws, .i lo, .i hi] K -> ∀ A : List Ed -> Prop, (∀ e, meas e < meas [.ro _ xs, .i n, .i i, .ro _ qs, .ro _ ws, .i lo, .i hi] -> Xdz e K -> A e) -> Xc6 xs n i qs ws lo hi A K) : Xem :=
 LE.okOf' (fun W => @TT W) (fun W => @Xc W) Xa T15 1000 50 (by kernel_rfl) Xe3 (fun W => @meas W) fun W xs n i qs ws lo hi K hs =>
  (Xie W xs n i qs ws lo hi (fun e => meas e < meas [.ro _ xs, .i n, .i i, .ro _ qs, .ro _ ws, .i lo, .i hi] /\ Xdz e K) K).mpr (hyp_ W xs n i qs ws lo hi K hs _ fun e h1 h2 => ⟨h1, h2⟩)
theorem Xl1 : Xem := Xjo (fun e => match e with | .ro _ xs :: _ :: .i i :: _ => ((xs.xs.length : Int) - i).toNat | _ => 0) fun W xs n i qs ws lo hi K hs A hA => by
 obtain ⟨⟨bv, hx, h0, h1, n0, n1⟩, hk⟩ := hs;have hf := hx.few;unfold Xc6;delta Zbi Zbc Zk;simp only [Nat.zero_add, Nat.reduceAdd]
 by_cases hi' : i < xs.xs.length
 ·have hr := hx.rng i.toNat (by omega);have ha := bv.ask (cel xs.xs i.toNat 0).int.toNat (by omega);have hb := bv.bad (cel xs.xs i.toNat 0).int.toNat (by omega);have hw := bv.wt (i := (cel xs.xs i.toNat 0).int.toNat) (by omega);rw [show xs.xs.length - i.toNat = (xs.xs.length - (i + 1).toNat) + 1 by omega] at hk;simp only [Sp.sumN, show i.toNat + 1 = (i + 1).toNat by omega] at hk;have e1 : Sp.lvf qs.xs xs.xs i.toNat = Sp.wt qs.xs (cel xs.xs i.toNat 0).int.toNat := rfl;rw [e1, <- Int.add_assoc] at hk;rw [Sp.wt_row];refine vifd (fun _ => ?_) (fun h => absurd hi' h);exact ned (by simp; omega) (nedd (by omega) (ned (by simp; omega) (nedd (by omega) ⟨⟨ha.1, ha.2, hb.1, hb.2⟩, ar64 (by omega) (ar64 (by omega) (hA _ (by show ((xs.xs.length : Int) - (i + 1)).toNat < ((xs.xs.length : Int) - i).toNat; omega) ⟨⟨bv, hx, by omega, by omega, by omega, by omega⟩, hk⟩))⟩)))
 ·refine vifd (fun h => absurd h hi') (fun _ => ?_);rw [show xs.xs.length - i.toNat = 0 by omega] at hk;simpa [Sp.sumN] using hk
def Xdm [InW] (e : List Ed) (K : Nat -> List Ed -> Prop) : Prop := match e with
 | [.i n, .i i, .ro _ qs, .ro _ ws, .i lo, .i hi] => Pre (Sp.BankV qs.xs ws.xs lo hi /\ 0 <= i /\ i <= ws.xs.length /\ 0 <= n /\ n <= 1000 * i) (K 0 [.i (n + Sp.sumN (fun p => (cel ws.xs p 0).int) i.toNat (ws.xs.length - i.toNat))])
 | _ => False
noncomputable def Xes : LC where
 len := 20
 T := [(1, (.ptr 1 0)), (3, .int .i64), (4, .int .i64)]
 H := [(1, .blk 27 [.rs Ja, .rs Jb, .int .i64, .int .i64])]
 W := (rg 5 14)
 outs := [⟨.exit 0, [(3, .int .i64)], [], ([1] ++ rg 4 15)⟩]
 spec := Xdm
def Xcu [W : InW] (n i : Int) (qs : Ro Ja) (ws : Ro Jb) (lo hi : Int) (A : List Ed -> Prop) (K : Nat -> List Ed -> Prop) : Prop :=
 Vif (decide (i < (↑(ws.xs.length) : Int))) (Need (decide (0 <= i) && decide (i < (↑(ws.xs.length) : Int))) (Need (decide (i.toNat < ws.xs.length)) (Ar .i64 (n + (cel ws.xs i.toNat (0 : Nat)).int) fun z => Ar .i64 (i + 1) fun z_1 => A [.i z, .i z_1, .ro _ qs, .ro _ ws, .i lo, .i hi]))) (K 0 [.i n])
theorem Xh2 (W : InW) (n i qs ws lo hi A K) : Yff { cxT Try.prog TT T0 1000 50 with fn := 70 } 1000 (Yob Try.prog 70 4) (Yd6 20 [(1, .ptr 1 0), (3, .si .i64 n), (4, .si .i64 i)] (rg 5 14)) [(1, .blk 27 [.rs _ qs, .rs _ ws, .si .i64 lo, .si .i64 hi])] (Yut Xes A K) = Xcu n i qs ws lo hi A K := by kernel_rfl
def Xeb : Prop := ∀ (W : InW) (body a : Code), (Try.prog.funcs[70]?).bind (·.body) = some body -> a ∈ Yy body -> Yf0 a = 4 -> @Yms W Try.prog a (@Ytz W Xes)
theorem Xjc (meas : [InW] -> List Ed -> Nat) (hyp_ : ∀ (W : InW) n i qs ws lo hi K, Xdm [.i n, .i i, .ro _ qs, .ro _ ws, .i lo, .i hi] K -> ∀ A : List Ed -> Prop, (∀ e, meas e < meas [.i n, .i i, .ro _ qs, .ro _ ws, .i lo, .i hi] -> Xdm e K -> A e) -> Xcu n i qs ws lo hi A K) : Xeb :=
 LE.okOf' (fun W => @TT W) (fun W => @Xc W) Xa T0 1000 50 (by kernel_rfl) Xes (fun W => @meas W) fun W n i qs ws lo hi K hs =>
  (Xh2 W n i qs ws lo hi (fun e => meas e < meas [.i n, .i i, .ro _ qs, .ro _ ws, .i lo, .i hi] /\ Xdm e K) K).mpr (hyp_ W n i qs ws lo hi K hs _ fun e h1 h2 => ⟨h1, h2⟩)
theorem Xlp : Xeb := Xjc (fun e => match e with | _ :: .i i :: _ :: .ro _ ws :: _ => ((ws.xs.length : Int) - i).toNat | _ => 0) fun W n i qs ws lo hi K hs A hA => by
 obtain ⟨⟨bv, h0, h1, n0, n1⟩, hk⟩ := hs;have hf := bv.w2;unfold Xcu
 by_cases hi' : i < ws.xs.length
 ·have hw := bv.w16 i.toNat;rw [show ws.xs.length - i.toNat = (ws.xs.length - (i + 1).toNat) + 1 by omega] at hk;simp only [Sp.sumN, show i.toNat + 1 = (i + 1).toNat by omega, <- Int.add_assoc] at hk;refine vifd (fun _ => ?_) (fun h => absurd hi' h);exact ned (by simp; omega) (nedd (by omega) (ar64 (by omega) (ar64 (by omega) (hA _ (by show ((ws.xs.length : Int) - (i + 1)).toNat < ((ws.xs.length : Int) - i).toNat; omega) ⟨⟨bv, by omega, by omega, by omega, by omega⟩, hk⟩))))
 ·refine vifd (fun h => absurd h hi') (fun _ => ?_);rw [show ws.xs.length - i.toNat = 0 by omega] at hk;simpa [Sp.sumN] using hk
noncomputable def Xmn : LE Try.prog := ⟨59, 4, fun W => @Ytz W Xe3, Xl1⟩
noncomputable def Xmc : LE Try.prog := ⟨70, 4, fun W => @Ytz W Xes, Xlp⟩
noncomputable def T16 : Tab Try.prog := ⟨[], [Xmn, Xmc], []⟩
abbrev Xbg (ds : DS) : Prop := match ds with | [[.l qs, .l ws, .i lo, .i hi], [.l xs]] => Sp.BankV qs ws lo hi /\ Sp.In qs xs | _ => False
abbrev Xfm (ds : DS) : DS := match ds with | [[.l qs, .l ws, .i lo, .i hi], [.l xs]] => [[.i (Sp.lvl qs xs)]] | _ => []
def Xgf [W : InW] (kQ : Ro Ja) (k_Ws : Ro Jb) (k_Lo k_Hi : Int) (xs : Ro Jb) (Q : DS -> Prop) : Prop :=
 Pre (Sp.BankV kQ.xs k_Ws.xs k_Lo k_Hi /\ Sp.In kQ.xs xs.xs /\ (0 : Int) <= 0 /\ (0 : Int) <= (↑(xs.xs.length) : Int) /\ (0 : Int) <= 0 /\ (0 : Int) <= 1000 * 0) (Q [[Cl.i ((0 : Int) + Sp.sumN (Sp.lvf kQ.xs xs.xs) (Int.toNat (0 : Int)) (xs.xs.length - Int.toNat (0 : Int)))]])
theorem Xkv (W : InW) (kQ k_Ws k_Lo k_Hi xs Q) : Yw5 (cxT Try.prog TT T16 1000 50) 1000 59 [.agg [.rs _ kQ, .rs _ k_Ws, .si .i64 k_Lo, .si .i64 k_Hi], .rs _ xs] [] 0 (Y1i [(false, [.int .i64])] Q) (fun _ _ _ _ => Stuck 421) = Xgf kQ k_Ws k_Lo k_Hi xs Q := by kernel_rfl
abbrev Xck : List AT := [.agg [.sl Ja, .sl Jb, .int .i64, .int .i64], .one (.sl Jb)]
theorem Xln {pre : DS -> Prop} {res : DS -> DS} (hyp_ : ∀ (W : InW) (kQ : Ro Ja) (k_Ws : Ro Jb) (k_Lo k_Hi : Int) (xs : Ro Jb), pre [[.l kQ.xs, .l k_Ws.xs, .i k_Lo, .i k_Hi], [.l xs.xs]] -> ∀ Q : DS -> Prop, Q (res [[.l kQ.xs, .l k_Ws.xs, .i k_Lo, .i k_Hi], [.l xs.xs]]) -> Xgf kQ k_Ws k_Lo k_Hi xs Q) : PureOk Try.prog 59 Xck [(false, [.int .i64])] pre res :=
 PureOk.of' (fun W => @TT W) (fun W => @Xc W) Xa T16 1000 50 fun W kQ k_Ws k_Lo k_Hi xs hp =>
  (Xkv W kQ k_Ws k_Lo k_Hi xs (fun o => o = res [[.l kQ.xs, .l k_Ws.xs, .i k_Lo, .i k_Hi], [.l xs.xs]])).mpr (hyp_ W kQ k_Ws k_Lo k_Hi xs hp _ rfl)
theorem oklvl : PureOk Try.prog 59 Xck [(false, [.int .i64])] Xbg Xfm :=
 Xln fun W qs ws lo hi xs hp Q h => by
  unfold Xgf;refine ⟨⟨hp.1, hp.2, by omega, by omega, by omega, by omega⟩, ?_⟩;rw [show Int.toNat 0 = 0 from rfl, Nat.sub_zero, Int.zero_add];exact h
noncomputable def Xhx : PC Try.prog := ⟨59, Xck, [(false, [.int .i64])], Xbg, Xfm, oklvl⟩
abbrev Xq (ds : DS) : Prop := match ds with | [[.l qs, .l ws, .i lo, .i hi]] => Sp.BankV qs ws lo hi | _ => False
abbrev Xfk (ds : DS) : DS := match ds with | [[.l qs, .l ws, .i lo, .i hi]] => [[.i (Sp.wan ws)]] | _ => []
def Xgc [W : InW] (kQ : Ro Ja) (k_Ws : Ro Jb) (k_Lo k_Hi : Int) (Q : DS -> Prop) : Prop :=
 Pre (Sp.BankV kQ.xs k_Ws.xs k_Lo k_Hi /\ (0 : Int) <= 0 /\ (0 : Int) <= (↑(k_Ws.xs.length) : Int) /\ (0 : Int) <= 0 /\ (0 : Int) <= 1000 * 0) (Q [[Cl.i ((0 : Int) + Sp.sumN (fun p => (cel k_Ws.xs p (0 : Nat)).int) (Int.toNat (0 : Int)) (k_Ws.xs.length - Int.toNat (0 : Int)))]])
theorem Xks (W : InW) (kQ k_Ws k_Lo k_Hi Q) : Yw5 (cxT Try.prog TT T16 1000 50) 1000 70 [.agg [.rs _ kQ, .rs _ k_Ws, .si .i64 k_Lo, .si .i64 k_Hi]] [] 0 (Y1i [(false, [.int .i64])] Q) (fun _ _ _ _ => Stuck 421) = Xgc kQ k_Ws k_Lo k_Hi Q := by kernel_rfl
abbrev Xch : List AT := [.agg [.sl Ja, .sl Jb, .int .i64, .int .i64]]
theorem Xlk {pre : DS -> Prop} {res : DS -> DS} (hyp_ : ∀ (W : InW) (kQ : Ro Ja) (k_Ws : Ro Jb) (k_Lo k_Hi : Int), pre [[.l kQ.xs, .l k_Ws.xs, .i k_Lo, .i k_Hi]] -> ∀ Q : DS -> Prop, Q (res [[.l kQ.xs, .l k_Ws.xs, .i k_Lo, .i k_Hi]]) -> Xgc kQ k_Ws k_Lo k_Hi Q) : PureOk Try.prog 70 Xch [(false, [.int .i64])] pre res :=
 PureOk.of' (fun W => @TT W) (fun W => @Xc W) Xa T16 1000 50 fun W kQ k_Ws k_Lo k_Hi hp =>
  (Xks W kQ k_Ws k_Lo k_Hi (fun o => o = res [[.l kQ.xs, .l k_Ws.xs, .i k_Lo, .i k_Hi]])).mpr (hyp_ W kQ k_Ws k_Lo k_Hi hp _ rfl)
theorem okwan : PureOk Try.prog 70 Xch [(false, [.int .i64])] Xq Xfk :=
 Xlk fun W qs ws lo hi hp Q h => by
  unfold Xgc;refine ⟨⟨hp, by omega, by omega, by omega, by omega⟩, ?_⟩;rw [show Int.toNat 0 = 0 from rfl, Nat.sub_zero, Int.zero_add];exact h
noncomputable def Xhv : PC Try.prog := ⟨70, Xch, [(false, [.int .i64])], Xq, Xfk, okwan⟩
namespace Sp
def px (qs xs : Dt) : Dt := xs.map fun r => [.i (qPart qs (r.getD 0 .z).int.toNat)]
theorem cel_px {qs xs : Dt} {i : Nat} (h : i < xs.length) : (cel (px qs xs) i 0).int = qPart qs (cel xs i 0).int.toNat := by
 simp [cel, px, h, Cl.int, List.getD_eq_getElem?_getD]
theorem length_px (qs xs : Dt) : (px qs xs).length = xs.length := by simp [px]
def ovF (qs ws xs : Dt) (i : Nat) : Bool := decide ((cel ws (qPart qs (cel xs i 0).int.toNat).toNat 0).int < many (px qs xs) (qPart qs (cel xs i 0).int.toNat) (i + 1))
def ovr (qs ws xs : Dt) : Bool := anyF (ovF qs ws xs) 0 xs.length
end Sp
def Xgx [InW] (e : List Ed) (K : Nat -> List Ed -> Prop) : Prop := match e with
 | [.ro _ xs, .i i, .ro _ qs, .ro _ ws, .i lo, .i hi, .l ms] => Pre (Sp.BankV qs.xs ws.xs lo hi /\ Sp.In qs.xs xs.xs /\ 0 <= i /\ i <= xs.xs.length /\ Sp.MOk (Sp.px qs.xs xs.xs) ws.xs.length i.toNat ms) (Vif (Sp.anyF (Sp.ovF qs.xs ws.xs xs.xs) i.toNat (xs.xs.length - i.toNat)) (K 1 []) (K 0 []))
 | _ => False
noncomputable def Xhe : LC where
 len := 43
 T := [(1, .rs Jb), (2, (.ptr 1 0)), (5, (.row 15)), (6, .int .i64)]
 H := [(1, .blk 27 [.rs Ja, .rs Jb, .int .i64, .int .i64]), (15, .arr 3 Jb)]
 W := ([4, 7] ++ rg 12 31)
 outs := [⟨.exit 0, [], [], ([1, 2] ++ rg 4 4 ++ rg 12 31)⟩, ⟨.ret, [(4, (.lit (.bool true)))], [], ([1, 2, 5, 6, 7] ++ rg 12 31)⟩]
 spec := Xgx
def Zbj [W : InW] (xs : Ro Jb) (i : Int) (qs : Ro Ja) := cel qs.xs (cel xs.xs i.toNat Zbc).int.toNat Zbc
def Xgk [W : InW] (xs : Ro Jb) (i : Int) (qs : Ro Ja) (ws : Ro Jb) (lo hi : Int) (ms : Dt) (A : List Ed -> Prop) (K : Nat -> List Ed -> Prop) : Prop :=
 Vif (decide (i < (↑(xs.xs.length) : Int))) (Need (decide (0 <= i) && decide (i < (↑(xs.xs.length) : Int))) (Need (decide (i.toNat < xs.xs.length)) (Need (decide (Zk <= (cel xs.xs i.toNat Zbc).int) && decide ((cel xs.xs i.toNat Zbc).int < (↑(qs.xs.length) : Int))) (Need (decide ((cel xs.xs i.toNat Zbc).int.toNat < qs.xs.length)) (Need (decide (Zk <= (Zbj xs i qs).int) && decide ((Zbj xs i qs).int < (↑(ms.length) : Int))) (Need (decide ((Zbj xs i qs).int.toNat < ms.length)) (Ar .i64 ((cel ms (Zbj xs i qs).int.toNat Zbc).int + 1) fun z => Need (decide (Zk <= (Zbj xs i qs).int) && decide ((Zbj xs i qs).int < (↑(ms.length) : Int))) (Need (decide ((Zbj xs i qs).int.toNat < ms.length)) (Need (decide (Zk <= (Zbj xs i qs).int) && decide ((Zbj xs i qs).int < (↑(List.set ms (Zbj xs i qs).int.toNat [Cl.i z]).length : Int))) (Need (decide ((Zbj xs i qs).int.toNat < (List.set ms (Zbj xs i qs).int.toNat [Cl.i z]).length)) (Need (decide (Zk <= (Zbj xs i qs).int) && decide ((Zbj xs i qs).int < (↑(ws.xs.length) : Int))) (Need (decide ((Zbj xs i qs).int.toNat < ws.xs.length)) (Vif (decide ((cel ws.xs (Zbj xs i qs).int.toNat Zbc).int < (cel (List.set ms (Zbj xs i qs).int.toNat [Cl.i z]) (Zbj xs i qs).int.toNat Zbc).int)) (K (0+1) []) (Ar .i64 (i + 1) fun z_1 => A [.ro _ xs, .i z_1, .ro _ qs, .ro _ ws, .i lo, .i hi, .l (List.set ms (Zbj xs i qs).int.toNat [Cl.i z])])))))))))))))) (K 0 [])
theorem Xkm (W : InW) (xs i qs ws lo hi ms A K) : Yff { cxT Try.prog TT T0 1000 50 with fn := 71 } 1000 (Yob Try.prog 71 4) (Yd6 43 [(1, .rs _ xs), (2, .ptr 1 0), (5, .rw 15), (6, .si .i64 i)] ([4, 7] ++ rg 12 31)) [(1, .blk 27 [.rs _ qs, .rs _ ws, .si .i64 lo, .si .i64 hi]), (15, .arr 3 Jb ms)] (Yut Xhe A K) = Xgk xs i qs ws lo hi ms A K := by kernel_rfl
def Xfy : Prop := ∀ (W : InW) (body a : Code), (Try.prog.funcs[71]?).bind (·.body) = some body -> a ∈ Yy body -> Yf0 a = 4 -> @Yms W Try.prog a (@Ytz W Xhe)
theorem Xld (meas : [InW] -> List Ed -> Nat) (hyp_ : ∀ (W : InW) xs i qs ws lo hi ms K, Xgx [.ro _ xs, .i i, .ro _ qs, .ro _ ws, .i lo, .i hi, .l ms] K -> ∀ A : List Ed -> Prop, (∀ e, meas e < meas [.ro _ xs, .i i, .ro _ qs, .ro _ ws, .i lo, .i hi, .l ms] -> Xgx e K -> A e) -> Xgk xs i qs ws lo hi ms A K) : Xfy :=
 LE.okOf' (fun W => @TT W) (fun W => @Xc W) Xa T0 1000 50 (by kernel_rfl) Xhe (fun W => @meas W) fun W xs i qs ws lo hi ms K hs =>
  (Xkm W xs i qs ws lo hi ms (fun e => meas e < meas [.ro _ xs, .i i, .ro _ qs, .ro _ ws, .i lo, .i hi, .l ms] /\ Xgx e K) K).mpr (hyp_ W xs i qs ws lo hi ms K hs _ fun e h1 h2 => ⟨h1, h2⟩)
theorem okLov : Xfy := Xld (fun e => match e with | .ro _ xs :: .i i :: _ => ((xs.xs.length : Int) - i).toNat | _ => 0) fun W xs i qs ws lo hi ms K hs A hA => by
 obtain ⟨⟨bv, hx, h0, h1, mo⟩, hk⟩ := hs;have hf := hx.few;have hl := mo.len;unfold Xgk;delta Zbj Zbc Zk
 by_cases hi' : i < xs.xs.length
 ·have hr := hx.rng i.toNat (by omega);have hp := bv.part (cel xs.xs i.toNat 0).int.toNat (by omega);have hc := Sp.cel_px (qs := qs.xs) (xs := xs.xs) (i := i.toNat) (by omega);have hst := mo.step hc hp.1 (by omega);have hmb := Sp.many_bound (Sp.px qs.xs xs.xs) ((Sp.qPart qs.xs (cel xs.xs i.toNat 0).int.toNat).toNat : Nat) i.toNat;have hmo := mo.ok (Sp.qPart qs.xs (cel xs.xs i.toNat 0).int.toNat).toNat (by omega);have hms := hst.ok (Sp.qPart qs.xs (cel xs.xs i.toNat 0).int.toNat).toNat (by omega);rw [Int.toNat_of_nonneg hp.1] at hms;rw [show xs.xs.length - i.toNat = (xs.xs.length - (i + 1).toNat) + 1 by omega] at hk;simp only [Sp.anyF, show i.toNat + 1 = (i + 1).toNat by omega] at hk;have hof : Sp.ovF qs.xs ws.xs xs.xs i.toNat = decide ((cel ws.xs (Sp.qPart qs.xs (cel xs.xs i.toNat 0).int.toNat).toNat 0).int < (cel ms (Sp.qPart qs.xs (cel xs.xs i.toNat 0).int.toNat).toNat 0).int + 1) := by
   unfold Sp.ovF;rw [<- hms, Sp.cel_setS (by omega)];rfl
  have ez : (i + 1).toNat = i.toNat + 1 := by omega
  have hk1 := fun h => hk.1 h;have hk0 := fun (h : Sp.ovF qs.xs ws.xs xs.xs i.toNat = false) => (show Vif (Sp.anyF (Sp.ovF qs.xs ws.xs xs.xs) (i + 1).toNat (xs.xs.length - (i + 1).toNat)) (K 1 []) (K 0 []) by rw [h, Bool.false_or] at hk; exact hk);rw [hof] at hk1 hk0;clear hk hof;unfold Sp.qPart at hp hst hmb hmo hms hk1 hk0;generalize (cel qs.xs (cel xs.xs i.toNat 0).int.toNat 0).int = p at *;have e3 : (cel (ms.set p.toNat [.i ((cel ms p.toNat 0).int + 1)]) p.toNat 0).int = (cel ms p.toNat 0).int + 1 := by rw [Sp.cel_setS (by omega)]; rfl
  refine vifd (fun _ => ?_) (fun h => absurd hi' h);refine ned (by simp; omega) (nedd (by omega) (ned (by simp; omega) (nedd (by omega) (ned (by simp; omega) (nedd (by omega) (ar64 (by omega) (ned (by simp; omega) (nedd (by omega) (ned (by simp; omega) (nedd (by simp; omega) (ned (by simp; omega) (nedd (by omega) ?_))))))))))));rw [e3];refine vifd (fun h => ?_) (fun h => ?_)
  ·exact hk1 (by rw [decide_eq_true h]; rfl)
  ·exact ar64 (by omega) (hA _ (by show ((xs.xs.length : Int) - (i + 1)).toNat < ((xs.xs.length : Int) - i).toNat; omega) ⟨⟨bv, hx, by omega, by omega, by rw [ez]; exact hst⟩, hk0 (decide_eq_false h)⟩)
 ·refine vifd (fun h => absurd h hi') (fun _ => ?_);rw [show xs.xs.length - i.toNat = 0 by omega] at hk;exact hk.2 rfl
noncomputable def le_ov : LE Try.prog := ⟨71, 4, fun W => @Ytz W Xhe, okLov⟩
noncomputable def T17 : Tab Try.prog := ⟨[], [le_ov], []⟩
abbrev Xfl (ds : DS) : DS := match ds with | [[.l qs, .l ws, .i lo, .i hi], [.l xs]] => [[.b (Sp.ovr qs ws xs)]] | _ => []
def Xkf [W : InW] (kQ : Ro Ja) (k_Ws : Ro Jb) (k_Lo k_Hi : Int) (xs : Ro Jb) (Q : DS -> Prop) : Prop :=
 Need (decide ((↑(k_Ws.xs.length) : Int) = (↑(k_Ws.xs.length) : Int)) && decide (Zk <= (↑(k_Ws.xs.length) : Int)) && decide ((8 : Nat) * (↑(k_Ws.xs.length) : Int).toNat <= 281474976710656)) (Pre (Sp.BankV kQ.xs k_Ws.xs k_Lo k_Hi /\ Sp.In kQ.xs xs.xs /\ Zk <= 0 /\ Zk <= (↑(xs.xs.length) : Int) /\ Sp.MOk (Sp.px kQ.xs xs.xs) (k_Ws.xs.length) Zl (List.replicate (↑(k_Ws.xs.length) : Int).toNat (Ybp [Ty.int IntKind.i64]))) (Vif (Sp.anyF (Sp.ovF kQ.xs k_Ws.xs xs.xs) Zl (xs.xs.length - Int.toNat Zk)) (Q [[Cl.b true]]) (Q [[Cl.b false]])))
theorem vc_ov (W : InW) (kQ k_Ws k_Lo k_Hi xs Q) : Yw5 (cxT Try.prog TT T17 1000 50) 1000 71 [.agg [.rs _ kQ, .rs _ k_Ws, .si .i64 k_Lo, .si .i64 k_Hi], .rs _ xs] [] 0 (Y1i [(false, [.bool])] Q) (fun _ _ _ _ => Stuck 421) = Xkf kQ k_Ws k_Lo k_Hi xs Q := by kernel_rfl
abbrev Xf4 : List AT := [.agg [.sl Ja, .sl Jb, .int .i64, .int .i64], .one (.sl Jb)]
theorem ok_ov {pre : DS -> Prop} {res : DS -> DS} (hyp_ : ∀ (W : InW) (kQ : Ro Ja) (k_Ws : Ro Jb) (k_Lo k_Hi : Int) (xs : Ro Jb), pre [[.l kQ.xs, .l k_Ws.xs, .i k_Lo, .i k_Hi], [.l xs.xs]] -> ∀ Q : DS -> Prop, Q (res [[.l kQ.xs, .l k_Ws.xs, .i k_Lo, .i k_Hi], [.l xs.xs]]) -> Xkf kQ k_Ws k_Lo k_Hi xs Q) : PureOk Try.prog 71 Xf4 [(false, [.bool])] pre res :=
 PureOk.of' (fun W => @TT W) (fun W => @Xc W) Xa T17 1000 50 fun W kQ k_Ws k_Lo k_Hi xs hp =>
  (vc_ov W kQ k_Ws k_Lo k_Hi xs (fun o => o = res [[.l kQ.xs, .l k_Ws.xs, .i k_Lo, .i k_Hi], [.l xs.xs]])).mpr (hyp_ W kQ k_Ws k_Lo k_Hi xs hp _ rfl)
theorem okov : PureOk Try.prog 71 Xf4 [(false, [.bool])] Xbg Xfl :=
 ok_ov fun W qs ws lo hi xs hp Q h => by
  unfold Xkf;delta Zl Zk;have hw := hp.1.w2;simp only [Xfl] at h;refine ned (by simp; omega) ⟨⟨hp.1, hp.2, by omega, by omega, Sp.MOk.zero⟩, ?_⟩;rw [show Int.toNat 0 = 0 from rfl, Nat.sub_zero];refine vif (fun e => ?_) (fun e => ?_)
  ·rw [show Sp.ovr qs.xs ws.xs xs.xs = true from e] at h; exact h
  ·rw [show Sp.ovr qs.xs ws.xs xs.xs = false from e] at h; exact h
noncomputable def Xkz : PC Try.prog := ⟨71, Xf4, [(false, [.bool])], Xbg, Xfl, okov⟩
namespace Sp
def isF (qs xs : Dt) (i : Nat) : Bool := inr (cel xs i 0).int 0 ((qs.length : Int) - 1) && (decide (i = 0) || decide ((cel xs (i - 1) 0).int < (cel xs i 0).int))
def isM (qs ws xs : Dt) (p : Nat) : Bool := decide (many (px qs xs) p xs.length = (cel ws p 0).int)
def isP (qs ws : Dt) (lo hi : Int) (xs : Dt) : Bool := allF (isF qs xs) 0 xs.length && (allF (isM qs ws xs) 0 ws.length && inr (lvl qs xs) lo hi)
theorem isF_up {qs xs : Dt} {n : Nat} (h : ∀ k, k < n -> isF qs xs k = true) : ∀ k, k < n -> (k : Int) <= (cel xs k 0).int /\ (cel xs k 0).int < qs.length
 | 0, hk => by
  have := h 0 hk;simp only [isF, Bool.and_eq_true, inr_iff] at this;omega
 | k + 1, hk => by
  have h1 := isF_up h k (by omega);have h2 := h (k + 1) hk;simp only [isF, Bool.and_eq_true, inr_iff, Bool.or_eq_true, decide_eq_true_eq, Nat.add_sub_cancel] at h2;have h3 := h2.2.resolve_left (by omega);omega
theorem isF_in {qs xs : Dt} (h16 : qs.length <= 16) (h : allF (isF qs xs) 0 xs.length = true) : In qs xs := by
 have h2 := fun k hk => allF_iff.1 h k (Nat.zero_le _) (by omega : k < 0 + xs.length);have h3 := isF_up h2;refine ⟨?_, fun i hi => ⟨by have := (h3 i (by omega)).1; omega, (h3 i (by omega)).2⟩⟩
 by_cases hz : xs.length = 0
 ·omega
 ·have := h3 (xs.length - 1) (by omega);omega
end Sp
def Xd2 [InW] (e : List Ed) (K : Nat -> List Ed -> Prop) : Prop := match e with
 | [.ro _ xs, .i i, .ro _ qs, .ro _ ws, .i lo, .i hi, .l ms] => Pre (Sp.BankV qs.xs ws.xs lo hi /\ 0 <= i /\ i <= xs.xs.length /\ Sp.MOk (Sp.px qs.xs xs.xs) ws.xs.length i.toNat ms /\ ∀ k, k < i.toNat -> Sp.isF qs.xs xs.xs k = true) (Vif (Sp.allF (Sp.isF qs.xs xs.xs) i.toNat (xs.xs.length - i.toNat)) (Sp.FaM (Sp.MOk (Sp.px qs.xs xs.xs) ws.xs.length xs.xs.length) fun ms => K 0 [.ro _ xs, .ro _ qs, .ro _ ws, .i lo, .i hi, .l ms]) (K 1 []))
 | _ => False
noncomputable def Xe6 : LC where
 len := 86
 T := [(1, .rs Jb), (2, (.ptr 4 0)), (5, (.row 13)), (6, .int .i64)]
 H := [(4, .blk 27 [.rs Ja, .rs Jb, .int .i64, .int .i64]), (13, .arr 3 Jb)]
 W := ([4, 7] ++ rg 13 47)
 outs := [⟨.exit 0, [(1, .rs Jb), (2, (.ptr 4 0)), (5, (.row 13))], [(4, .blk 27 [.rs Ja, .rs Jb, .int .i64, .int .i64]), (13, .arr 3 Jb)], ([4, 6, 7] ++ rg 13 47)⟩, ⟨.ret, [(4, (.lit (.bool false)))], [], ([1, 2, 5, 6, 7] ++ rg 13 47)⟩]
 spec := Xd2
def Zbm [W : InW] (xs : Ro Jb) (i : Int) := decide (0 <= i) && decide (i < (↑(xs.xs.length) : Int))
def Zbl [W : InW] (xs : Ro Jb) (i : Int) (qs : Ro Ja) := cel qs.xs (cel xs.xs i.toNat Zbc).int.toNat Zbc
def Zbk [W : InW] (xs : Ro Jb) (i : Int) (qs : Ro Ja) (ws : Ro Jb) (lo hi : Int) (ms : Dt) (A : List Ed -> Prop) := Need (Zbm xs i) (Need (decide (i.toNat < xs.xs.length)) (Need (decide (Zk <= (cel xs.xs i.toNat Zbc).int) && decide ((cel xs.xs i.toNat Zbc).int < (↑(qs.xs.length) : Int))) (Need (decide ((cel xs.xs i.toNat Zbc).int.toNat < qs.xs.length)) (Need (decide (Zk <= (Zbl xs i qs).int) && decide ((Zbl xs i qs).int < (↑(ms.length) : Int))) (Need (decide ((Zbl xs i qs).int.toNat < ms.length)) (Ar .i64 ((cel ms (Zbl xs i qs).int.toNat Zbc).int + 1) fun z => Need (decide (Zk <= (Zbl xs i qs).int) && decide ((Zbl xs i qs).int < (↑(ms.length) : Int))) (Need (decide ((Zbl xs i qs).int.toNat < ms.length)) (Ar .i64 (i + 1) fun z_1 => A [.ro _ xs, .i z_1, .ro _ qs, .ro _ ws, .i lo, .i hi, .l (List.set ms (Zbl xs i qs).int.toNat [Cl.i z])]))))))))
def Xc9 [W : InW] (xs : Ro Jb) (i : Int) (qs : Ro Ja) (ws : Ro Jb) (lo hi : Int) (ms : Dt) (A : List Ed -> Prop) (K : Nat -> List Ed -> Prop) : Prop :=
 Vif (decide (i < (↑(xs.xs.length) : Int))) (Need (Zbm xs i) (Need (decide (i.toNat < xs.xs.length)) (Ar .i64 ((↑(qs.xs.length) : Int) - 1) fun z => Pre True (Vif (!Sp.inr (cel xs.xs i.toNat Zbc).int Zk z) (K (0+1) []) (Vif (decide (0 < i)) (Need (Zbm xs i) (Need (decide (i.toNat < xs.xs.length)) (Ar .i64 (i - 1) fun z => Need (decide (0 <= z) && decide (z < (↑(xs.xs.length) : Int))) (Need (decide (z.toNat < xs.xs.length)) (Vif (decide ((cel xs.xs i.toNat Zbc).int <= (cel xs.xs z.toNat Zbc).int)) (K (0+1) []) (Zbk xs i qs ws lo hi ms A)))))) (Zbk xs i qs ws lo hi ms A)))))) (K 0 [.ro _ xs, .ro _ qs, .ro _ ws, .i lo, .i hi, .l ms])
theorem Xih (W : InW) (xs i qs ws lo hi ms A K) : Yff { cxT Try.prog TT (⟨[Xfa], [], []⟩) 1000 50 with fn := 37 } 1000 (Yob Try.prog 37 4) (Yd6 86 [(1, .rs _ xs), (2, .ptr 4 0), (5, .rw 13), (6, .si .i64 i)] ([4, 7] ++ rg 13 47)) [(4, .blk 27 [.rs _ qs, .rs _ ws, .si .i64 lo, .si .i64 hi]), (13, .arr 3 Jb ms)] (Yut Xe6 A K) = Xc9 xs i qs ws lo hi ms A K := by kernel_rfl
def Xep : Prop := ∀ (W : InW) (body a : Code), (Try.prog.funcs[37]?).bind (·.body) = some body -> a ∈ Yy body -> Yf0 a = 4 -> @Yms W Try.prog a (@Ytz W Xe6)
theorem Xjr (meas : [InW] -> List Ed -> Nat) (hyp_ : ∀ (W : InW) xs i qs ws lo hi ms K, Xd2 [.ro _ xs, .i i, .ro _ qs, .ro _ ws, .i lo, .i hi, .l ms] K -> ∀ A : List Ed -> Prop, (∀ e, meas e < meas [.ro _ xs, .i i, .ro _ qs, .ro _ ws, .i lo, .i hi, .l ms] -> Xd2 e K -> A e) -> Xc9 xs i qs ws lo hi ms A K) : Xep :=
 LE.okOf' (fun W => @TT W) (fun W => @Xc W) Xa (⟨[Xfa], [], []⟩) 1000 50 (by kernel_rfl) Xe6 (fun W => @meas W) fun W xs i qs ws lo hi ms K hs =>
  (Xih W xs i qs ws lo hi ms (fun e => meas e < meas [.ro _ xs, .i i, .ro _ qs, .ro _ ws, .i lo, .i hi, .l ms] /\ Xd2 e K) K).mpr (hyp_ W xs i qs ws lo hi ms K hs _ fun e h1 h2 => ⟨h1, h2⟩)
def Xd1 [InW] (e : List Ed) (K : Nat -> List Ed -> Prop) : Prop := match e with
 | [.ro _ xs, .i p, .ro _ qs, .ro _ ws, .i lo, .i hi, .l ms] => Pre (Sp.BankV qs.xs ws.xs lo hi /\ 0 <= p /\ p <= ws.xs.length /\ Sp.MOk (Sp.px qs.xs xs.xs) ws.xs.length xs.xs.length ms) (Vif (Sp.allF (Sp.isM qs.xs ws.xs xs.xs) p.toNat (ws.xs.length - p.toNat)) (K 0 [.ro _ xs, .ro _ qs, .ro _ ws, .i lo, .i hi]) (K 1 []))
 | _ => False
noncomputable def Xe5 : LC where
 len := 86
 T := [(1, .rs Jb), (2, (.ptr 4 0)), (5, (.row 13)), (8, .int .i64)]
 H := [(4, .blk 27 [.rs Ja, .rs Jb, .int .i64, .int .i64]), (13, .arr 3 Jb)]
 W := ([4] ++ rg 60 16)
 outs := [⟨.exit 2, [(1, .rs Jb), (2, (.ptr 4 0))], [(4, .blk 27 [.rs Ja, .rs Jb, .int .i64, .int .i64])], ([4, 5, 8] ++ rg 60 16)⟩, ⟨.ret, [(4, (.lit (.bool false)))], [], ([1, 2, 5, 8] ++ rg 60 16)⟩]
 spec := Xd1
def Xc8 [W : InW] (xs : Ro Jb) (p : Int) (qs : Ro Ja) (ws : Ro Jb) (lo hi : Int) (ms : Dt) (A : List Ed -> Prop) (K : Nat -> List Ed -> Prop) : Prop :=
 Vif (decide (p < (↑(ms.length) : Int))) (Need (decide (0 <= p) && decide (p < (↑(ms.length) : Int))) (Need (decide (p.toNat < ms.length)) (Need (decide (0 <= p) && decide (p < (↑(ws.xs.length) : Int))) (Need (decide (p.toNat < ws.xs.length)) (Vif (!decide ((cel ms p.toNat (0 : Nat)).int = (cel ws.xs p.toNat (0 : Nat)).int)) (K (0+1) []) (Ar .i64 (p + 1) fun z => A [.ro _ xs, .i z, .ro _ qs, .ro _ ws, .i lo, .i hi, .l ms])))))) (K 0 [.ro _ xs, .ro _ qs, .ro _ ws, .i lo, .i hi])
theorem Xig (W : InW) (xs p qs ws lo hi ms A K) : Yff { cxT Try.prog TT T0 1000 50 with fn := 37 } 1000 (Yob Try.prog 37 11) (Yd6 86 [(1, .rs _ xs), (2, .ptr 4 0), (5, .rw 13), (8, .si .i64 p)] ([4] ++ rg 60 16)) [(4, .blk 27 [.rs _ qs, .rs _ ws, .si .i64 lo, .si .i64 hi]), (13, .arr 3 Jb ms)] (Yut Xe5 A K) = Xc8 xs p qs ws lo hi ms A K := by kernel_rfl
def Xeo : Prop := ∀ (W : InW) (body a : Code), (Try.prog.funcs[37]?).bind (·.body) = some body -> a ∈ Yy body -> Yf0 a = 11 -> @Yms W Try.prog a (@Ytz W Xe5)
theorem Xjq (meas : [InW] -> List Ed -> Nat) (hyp_ : ∀ (W : InW) xs p qs ws lo hi ms K, Xd1 [.ro _ xs, .i p, .ro _ qs, .ro _ ws, .i lo, .i hi, .l ms] K -> ∀ A : List Ed -> Prop, (∀ e, meas e < meas [.ro _ xs, .i p, .ro _ qs, .ro _ ws, .i lo, .i hi, .l ms] -> Xd1 e K -> A e) -> Xc8 xs p qs ws lo hi ms A K) : Xeo :=
 LE.okOf' (fun W => @TT W) (fun W => @Xc W) Xa T0 1000 50 (by kernel_rfl) Xe5 (fun W => @meas W) fun W xs p qs ws lo hi ms K hs =>
  (Xig W xs p qs ws lo hi ms (fun e => meas e < meas [.ro _ xs, .i p, .ro _ qs, .ro _ ws, .i lo, .i hi, .l ms] /\ Xd1 e K) K).mpr (hyp_ W xs p qs ws lo hi ms K hs _ fun e h1 h2 => ⟨h1, h2⟩)
theorem Xl3 : Xeo := Xjq (fun e => match e with | _ :: .i p :: _ :: .ro _ ws :: _ => ((ws.xs.length : Int) - p).toNat | _ => 0) fun W xs p qs ws lo hi ms K hs A hA => by
 obtain ⟨⟨bv, h0, h1, mo⟩, hk⟩ := hs;have hf := bv.w2;have hl := mo.len;unfold Xc8
 by_cases hi' : p < ws.xs.length
 ·have hmo := mo.ok p.toNat (by omega);rw [show ws.xs.length - p.toNat = (ws.xs.length - (p + 1).toNat) + 1 by omega] at hk;simp only [Sp.allF, show p.toNat + 1 = (p + 1).toNat by omega] at hk;have he : Sp.isM qs.xs ws.xs xs.xs p.toNat = decide ((cel ms p.toNat 0).int = (cel ws.xs p.toNat 0).int) := by unfold Sp.isM; rw [<- hmo]
  rw [he] at hk;refine vifd (fun _ => ?_) (fun h => absurd (by omega) h);refine ned (by simp; omega) (nedd (by omega) (ned (by simp; omega) (nedd (by omega) (vifn (fun e => ?_) (fun e => ?_)))))
  ·exact hk.2 (by rw [decide_eq_false e]; rfl)
  ·rw [decide_eq_true e, Bool.true_and] at hk;exact ar64 (by omega) (hA _ (by show ((ws.xs.length : Int) - (p + 1)).toNat < ((ws.xs.length : Int) - p).toNat; omega) ⟨⟨bv, by omega, by omega, mo⟩, hk⟩)
 ·refine vifd (fun h => absurd h (by omega)) (fun _ => ?_);rw [show ws.xs.length - p.toNat = 0 by omega] at hk;exact hk.1 rfl
theorem Xl4 : Xep := Xjr (fun e => match e with | .ro _ xs :: .i i :: _ => ((xs.xs.length : Int) - i).toNat | _ => 0) fun W xs i qs ws lo hi ms K hs A hA => by
 obtain ⟨⟨bv, h0, h1, mo, up⟩, hk⟩ := hs;unfold Xc9;delta Zbk Zbl Zbc Zk Zbm;have hn := bv.n2;have hw := bv.w2;have hl := mo.len;have hm := xs.len;simp only [maxLen] at hm
 by_cases hi' : i < xs.xs.length
 ·have ez : (i + 1).toNat = i.toNat + 1 := by omega
  have ei : (i - 1).toNat = i.toNat - 1 := by omega
  have hc := Sp.cel_px (qs := qs.xs) (xs := xs.xs) (i := i.toNat) (by omega);rw [show xs.xs.length - i.toNat = (xs.xs.length - (i + 1).toNat) + 1 by omega] at hk;obtain ⟨g1, g2⟩ := Xfh hk;rw [show i.toNat + 1 = (i + 1).toNat by omega] at g1;have hF : Sp.isF qs.xs xs.xs i.toNat = (Sp.inr (cel xs.xs i.toNat 0).int 0 ((qs.xs.length : Int) - 1) && (decide (i.toNat = 0) || decide ((cel xs.xs (i.toNat - 1) 0).int < (cel xs.xs i.toNat 0).int))) := rfl
  by_cases hr : Sp.inr (cel xs.xs i.toNat 0).int 0 ((qs.xs.length : Int) - 1) = true
  ·have hr2 := Sp.inr_iff.1 hr;have hp := bv.part (cel xs.xs i.toNat 0).int.toNat (by omega);have hmb := Sp.many_bound (Sp.px qs.xs xs.xs) ((Sp.qPart qs.xs (cel xs.xs i.toNat 0).int.toNat).toNat : Nat) i.toNat;have hmo := mo.ok (Sp.qPart qs.xs (cel xs.xs i.toNat 0).int.toNat).toNat (by omega);have hst := mo.step hc hp.1 (by omega)
   by_cases hd : i = 0 \/ (cel xs.xs (i.toNat - 1) 0).int < (cel xs.xs i.toNat 0).int
   ·have hd2 : i = 0 \/ (cel xs.xs (i - 1).toNat 0).int < (cel xs.xs i.toNat 0).int := by rw [ei]; exact hd
    have hT : Sp.isF qs.xs xs.xs i.toNat = true := by
     rw [hF, hr, Bool.true_and];rcases hd with h | h
     ·rw [decide_eq_true (by omega)]; rfl
     ·rw [decide_eq_true h, Bool.or_true]
    have go : A [.ro _ xs, .i (i + 1), .ro _ qs, .ro _ ws, .i lo, .i hi, .l (ms.set (Sp.qPart qs.xs (cel xs.xs i.toNat 0).int.toNat).toNat [.i ((cel ms (Sp.qPart qs.xs (cel xs.xs i.toNat 0).int.toNat).toNat 0).int + 1)])] :=
     hA _ (by show ((xs.xs.length : Int) - (i + 1)).toNat < ((xs.xs.length : Int) - i).toNat; omega) ⟨⟨bv, by omega, by omega, by rw [ez]; exact hst, fun k hk => by
      by_cases h : k < i.toNat
      ·exact up k h
      ·rw [show k = i.toNat by omega]; exact hT⟩, g1 hT⟩
    clear g1 g2 hk hA hst hF hT hc;unfold Sp.qPart at hp hmb hmo go;generalize (cel qs.xs (cel xs.xs i.toNat 0).int.toNat 0).int = p at *
    repeat' (first | omega|intro _|with_reducible first|apply vifd|apply vifn|apply vifq|apply X0|apply Xz|apply vifb|apply vif|apply nedd|apply ned2|apply ned|apply ar64|apply Xj|exact True.intro|assumption|rfl|apply And.intro)
    all_goals first | exact go | omega | exact absurd hr (ne_true_of_eq_false (by assumption))
   ·have hd2 : ¬ (i = 0 \/ (cel xs.xs (i - 1).toNat 0).int < (cel xs.xs i.toNat 0).int) := by rw [ei]; exact hd
    have hT : Sp.isF qs.xs xs.xs i.toNat = false := by
     rw [hF, hr, Bool.true_and, decide_eq_false (by omega), decide_eq_false (by omega)]; rfl
    have bad := g2 hT;clear g1 g2 hk hA hst hF hT hc;unfold Sp.qPart at hp hmb hmo;generalize (cel qs.xs (cel xs.xs i.toNat 0).int.toNat 0).int = p at *
    repeat' (first | omega|intro _|with_reducible first|apply vifd|apply vifn|apply vifq|apply X0|apply Xz|apply vifb|apply vif|apply nedd|apply ned2|apply ned|apply ar64|apply Xj|exact True.intro|assumption|rfl|apply And.intro)
    all_goals first | exact bad | omega
  ·have hT : Sp.isF qs.xs xs.xs i.toNat = false := by
    rw [hF, Bool.eq_false_iff.2 hr]; rfl
   have bad := g2 hT;refine vifd (fun _ => ?_) (fun h => absurd hi' h);refine ned (by simp; omega) (nedd (by omega) (ar64 (by omega) ⟨trivial, vif (fun _ => bad) (fun h => absurd (by simpa using h) hr)⟩))
 ·refine vifd (fun h => absurd h hi') (fun _ => ?_);rw [show xs.xs.length - i.toNat = 0 by omega] at hk;obtain ⟨hf⟩ := hk.1 rfl;rw [show i.toNat = xs.xs.length by omega] at mo;exact hf ms mo
noncomputable def Xmq : LE Try.prog := ⟨37, 4, fun W => @Ytz W Xe6, Xl4⟩
noncomputable def Xmp : LE Try.prog := ⟨37, 11, fun W => @Ytz W Xe5, Xl3⟩
noncomputable def T18 : Tab Try.prog := ⟨[Xfa, Xhx], [Xmq, Xmp], []⟩
abbrev Xht (ds : DS) : Prop := match ds with | [[.l qs, .l ws, .i lo, .i hi], [.l xs]] => Sp.BankV qs ws lo hi | _ => False
abbrev Xfo (ds : DS) : DS := match ds with | [[.l qs, .l ws, .i lo, .i hi], [.l xs]] => [[.b (Sp.isP qs ws lo hi xs)]] | _ => []
def Zbn [W : InW] (k_Ws : Ro Jb) := (↑(k_Ws.xs.length) : Int)
def Xkh [W : InW] (kQ : Ro Ja) (k_Ws : Ro Jb) (k_Lo k_Hi : Int) (xs : Ro Jb) (Q : DS -> Prop) : Prop :=
 Need (decide ((Zbn k_Ws) = (Zbn k_Ws)) && decide (Zk <= (Zbn k_Ws)) && decide ((8 : Nat) * (Zbn k_Ws).toNat <= 281474976710656)) (Pre (Sp.BankV kQ.xs k_Ws.xs k_Lo k_Hi /\ Zk <= 0 /\ Zk <= (↑(xs.xs.length) : Int) /\ Sp.MOk (Sp.px kQ.xs xs.xs) (k_Ws.xs.length) Zl (List.replicate (Zbn k_Ws).toNat (Ybp [Ty.int IntKind.i64])) /\ ∀ (k : Nat), k < Int.toNat Zk -> Sp.isF kQ.xs xs.xs k = true) (Vif (Sp.allF (Sp.isF kQ.xs xs.xs) Zl (xs.xs.length - Int.toNat Zk)) (Sp.FaM (Sp.MOk (Sp.px kQ.xs xs.xs) (k_Ws.xs.length) (xs.xs.length)) fun ys => Pre (Sp.BankV kQ.xs k_Ws.xs k_Lo k_Hi /\ Zk <= 0 /\ Zk <= (Zbn k_Ws) /\ Sp.MOk (Sp.px kQ.xs xs.xs) (k_Ws.xs.length) (xs.xs.length) ys) (Vif (Sp.allF (Sp.isM kQ.xs k_Ws.xs xs.xs) Zl (k_Ws.xs.length - Int.toNat Zk)) (Pre (Sp.BankV kQ.xs k_Ws.xs k_Lo k_Hi /\ Sp.In kQ.xs xs.xs) (Pre True (Q [[Cl.b (Sp.inr (Sp.lvl kQ.xs xs.xs) k_Lo k_Hi)]]))) (Q [[Cl.b false]]))) (Q [[Cl.b false]])))
theorem vc_is (W : InW) (kQ k_Ws k_Lo k_Hi xs Q) : Yw5 (cxT Try.prog TT T18 1000 50) 1000 37 [.agg [.rs _ kQ, .rs _ k_Ws, .si .i64 k_Lo, .si .i64 k_Hi], .rs _ xs] [] 0 (Y1i [(false, [.bool])] Q) (fun _ _ _ _ => Stuck 421) = Xkh kQ k_Ws k_Lo k_Hi xs Q := by kernel_rfl
abbrev Xf6 : List AT := [.agg [.sl Ja, .sl Jb, .int .i64, .int .i64], .one (.sl Jb)]
theorem ok_is {pre : DS -> Prop} {res : DS -> DS} (hyp_ : ∀ (W : InW) (kQ : Ro Ja) (k_Ws : Ro Jb) (k_Lo k_Hi : Int) (xs : Ro Jb), pre [[.l kQ.xs, .l k_Ws.xs, .i k_Lo, .i k_Hi], [.l xs.xs]] -> ∀ Q : DS -> Prop, Q (res [[.l kQ.xs, .l k_Ws.xs, .i k_Lo, .i k_Hi], [.l xs.xs]]) -> Xkh kQ k_Ws k_Lo k_Hi xs Q) : PureOk Try.prog 37 Xf6 [(false, [.bool])] pre res :=
 PureOk.of' (fun W => @TT W) (fun W => @Xc W) Xa T18 1000 50 fun W kQ k_Ws k_Lo k_Hi xs hp =>
  (vc_is W kQ k_Ws k_Lo k_Hi xs (fun o => o = res [[.l kQ.xs, .l k_Ws.xs, .i k_Lo, .i k_Hi], [.l xs.xs]])).mpr (hyp_ W kQ k_Ws k_Lo k_Hi xs hp _ rfl)
theorem okis : PureOk Try.prog 37 Xf6 [(false, [.bool])] Xht Xfo :=
 ok_is fun W qs ws lo hi xs hp Q h => by
  unfold Xkh;delta Zl Zk Zbn;have hw := hp.w2;simp only [Xfo, Sp.isP] at h;refine ned (by simp; omega) ⟨⟨hp, by omega, by omega, Sp.MOk.zero, fun k hk => absurd hk (Nat.not_lt_zero _)⟩, ?_⟩;rw [show Int.toNat 0 = 0 from rfl, Nat.sub_zero];refine vif (fun e => ⟨fun ms hm => ⟨⟨hp, by omega, by omega, hm⟩, ?_⟩⟩) (fun e => ?_)
  ·rw [e, Bool.true_and] at h;rw [Nat.sub_zero];refine vif (fun f => ⟨⟨hp, Sp.isF_in hp.n2 e⟩, trivial, ?_⟩) (fun f => ?_)
   ·rw [f, Bool.true_and] at h; exact h
   ·rw [f, Bool.false_and] at h; exact h
  ·rw [e, Bool.false_and] at h; exact h
noncomputable def Xk0 : PC Try.prog := ⟨37, Xf6, [(false, [.bool])], Xht, Xfo, okis⟩
end Go.Proofs.Ytilnbgpogfabaaa
