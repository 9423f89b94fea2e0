/-
  'TopNoted', the tied card: for every input the law returns true, and what is handed in reads as before.
-/
import Derived.Test.YtladoaeefkpdiaaGreatDoorQe
import Derived.IntWalk
import Derived.Test.YtladoaeefkpdiaaGreatDoorProg
set_option linter.unusedVariables false
set_option linter.unusedSectionVars false
set_option linter.unusedSimpArgs false
noncomputable section
namespace Go.Proofs.YtladoaeefkpdiaaGreatDoor
abbrev Ja : List Ty := [.str, .int .i64, .int .i64, .int .i64, .int .i64]
abbrev Jb : List Ty := [.str, .int .i64, .int .i64]
abbrev Jc : List Ty := [.int .i64]
abbrev Jd : List Ty := [.str]
abbrev Iv11 : List Ty := [.int .i64, .int .i64, .int .i64, .int .i64, .int .i64, .int .i64, .int .i64, .int .i64, .int .i64, .int .i64, .int .i64]
abbrev Iv5 : List Ty := [.int .i64, .int .i64, .int .i64, .int .i64, .int .i64]
abbrev Iv4 : List Ty := [.int .i64, .int .i64, .int .i64, .int .i64]
abbrev Ivs : List Ty := [.str, .int .i64, .int .i64, .int .i64]
open Go.RowKit
theorem vif [InW] {b : Bool} {A B : Prop} (h : b = true -> A) (h2 : b = false -> B) : Vif b A B := ⟨h, h2⟩
theorem vifd [InW] {p : Prop} {_ : Decidable p} {A B : Prop} (h : p -> A) (h2 : ¬ p -> B) : Vif (decide p) A B := ⟨fun e => h (of_decide_eq_true e), fun e => h2 (of_decide_eq_false e)⟩
theorem ned [InW] {b : Bool} {A : Prop} (h : b = true) (h2 : A) : Need b A := ⟨h, h2⟩
theorem nedd [InW] {p : Prop} {_ : Decidable p} {A : Prop} (h : p) (h2 : A) : Need (decide p) A := ⟨decide_eq_true h, h2⟩
theorem ar64 [InW] {n : Int} {K : Int -> Prop} (h : -9223372036854775808 <= n /\ n <= 9223372036854775807) (k : K n) : Ar .i64 n K := ⟨by rw [IntWalk.i64_in n h]; exact k⟩
theorem notT {b : Bool} (h : (!b) = true) : b = false := by cases b <;> simp_all
theorem notF {b : Bool} (h : (!b) = false) : b = true := by cases b <;> simp_all
theorem vifn [InW] {p : Prop} {_ : Decidable p} {A B : Prop} (h : ¬ p -> A) (h2 : p -> B) : Vif (!decide p) A B := ⟨fun e => h (of_decide_eq_false (notT e)), fun e => h2 (of_decide_eq_true (notF e))⟩
theorem vifb [InW] {b : Bool} {A B : Prop} (h : b = false -> A) (h2 : b = true -> B) : Vif (!b) A B := ⟨fun e => h (notT e), fun e => h2 (notF e)⟩
theorem Xb {p A : Prop} (h : p) (h2 : A) : Pre p A := ⟨h, h2⟩
theorem ned2 [InW] {p q : Prop} {_ : Decidable p} {_ : Decidable q} {K : Prop} (h : p /\ q) (hK : K) : Need (decide p && decide q) K := ⟨by simp [h], hK⟩
set_option maxRecDepth 100000
def tTac [InW] : TI := ⟨some false, some 1, some [.v (.pointer none)], [], none, none⟩
def tTau [InW] : Tr TI := .node .nil tTac .nil
def tTao [InW] : List AV := [.v (.string ByteArray.empty), .v (.int .i64 0), .v (.int .i64 0), .v (.int .i64 0), .v (.int .i64 0)]
def tTbl [InW] : TI := ⟨some true, some 5, some tTao, [(some (0, 1)), (some (1, 2)), (some (3, 2))], none, none⟩
def tTaa [InW] : TI := ⟨some false, some 1, some [.v (.nilFunc)], [], none, none⟩
def tTab [InW] : Tr TI := .node .nil tTaa .nil
def tTbd [InW] : Tr TI := .node .nil ⟨some false, some 1, (some [.v (.tuple #[.pointer none, .int .i64 0])]), [], none, none⟩ .nil
def tTaf [InW] : List (Option (Nat × Nat)) := [(some (0, 1)), (some (1, 1))]
def tTbp [InW] : TI := ⟨some true, some 2, some [.v (.int .i64 0), .v (.slice none 0 0)], tTaf, none, none⟩
def tTbw [InW] : List AV := [.v (.string ByteArray.empty)]
def tTay [InW] : Tr TI := .node tTab tTaa (.node .nil ⟨some true, some 1, some tTbw, [(some (0, 1))], none, none⟩ .nil)
def tTbv [InW] : List (Option (Nat × Nat)) := [(some (0, 1)), (some (1, 1)), (some (2, 1)), (some (3, 1))]
def tTat [InW] : TI := ⟨some true, some 4, some [.v (.int .i64 0), .v (.int .i64 0), .v (.bool false), .v (.int .u8 0)], tTbv, none, none⟩
def tTai [InW] : List AV := [.v (.string ByteArray.empty), .v (.int .i64 0), .v (.int .i64 0)]
def tTag [InW] : List (Option (Nat × Nat)) := [(some (0, 1)), (some (1, 1)), (some (2, 1))]
def tTbx [InW] : TI := ⟨some true, some 3, some tTai, tTag, none, none⟩
def tTbc [InW] : Tr TI := .node tTab tTaa (.node .nil ⟨some true, some 2, some [.v (.int .u8 0), .v (.int .u8 0)], tTaf, none, none⟩ .nil)
def tTap [InW] : List AV := [.v (.slice none 0 0)]
def tTas [InW] : TI := ⟨some false, some 1, some [.v (.int .u8 0)], [], none, none⟩
def tTar [InW] : TI := ⟨some false, some 1, some [.v (.int .i64 0)], [], none, none⟩
def tTah [InW] : Tr TI := .node (.node .nil ⟨some true, some 4, some [.v (.slice none 0 0), .v (.slice none 0 0), .v (.slice none 0 0), .v (.int .i64 0)], [(some (0, 2)), (some (2, 1)), (some (3, 1))], none, none⟩ .nil) ⟨some true, some 3, some tTai, [(some (0, 1)), (some (1, 2))], none, none⟩ tTab
def tTaw [InW] : TI := ⟨some true, some 4, some [.v (.int .u8 0), .v (.slice none 0 0), .v (.int .u16 0), .v (.int .u8 0)], [(some (0, 3)), (some (3, 1))], none, none⟩
def tTax [InW] : Tr TI := .node .nil ⟨some true, some 3, some [.v (.string ByteArray.empty), .v (.string ByteArray.empty), .v (.nilIface)], tTag, none, none⟩ .nil
def tTbs [InW] : TI := ⟨some true, some 1, some [.v (.pointer none)], [(some (0, 1))], none, none⟩
def tTbr [InW] : Tr TI := .node .nil ⟨some false, some 1, some [.v (.map none)], [], none, none⟩ .nil
def tTbu [InW] : List AV := [.v (.int .i64 0), .v (.int .i64 0)]
def tTbi [InW] : List AV := [.v (.int .i64 0), .v (.int .i64 0), .v (.int .i64 0)]
def tTby [InW] : TI := ⟨some true, some 3, some tTbi, tTag, none, none⟩
def tTam [InW] : Tr TI := .node .nil ⟨some true, some 4, some [.v (.pointer none), .v (.pointer none), .v (.pointer none), .v (.string ByteArray.empty)], tTbv, none, none⟩ .nil
def tTav [InW] : TI := ⟨some false, some 1, some tTbw, [], none, none⟩
def tTbk [InW] : TI := ⟨some false, some 1, (some [.v (.tuple #[.slice none 0 0, .int .i64 0])]), [], none, none⟩
def tTaz [InW] : TI := ⟨some false, some 1, some [.v (.int .u64 0)], [], none, none⟩
def tTbn [InW] : TI := ⟨some false, some 1, (some [.v (.tuple #[.bool false, .int .i64 0])]), [], none, none⟩
def tTbb [InW] : TI := ⟨some false, some 1, some [.v (.nilIface)], [], none, none⟩
def tTba [InW] : TI := ⟨some false, some 1, some [.v (.int .i32 0)], [], none, none⟩
def tTbh [InW] : TI := ⟨some true, some 3, some [.v (.int .u8 0), .v (.slice none 0 0), .v (.int .u16 0)], tTag, none, none⟩
def tTaq [InW] : Tr TI := .node tTab tTaa tTab
def tTaj [InW] : TI := ⟨some true, some 2, some tTbu, tTaf, none, none⟩
def tTad [InW] : List AV := [.v (.int .u8 0), .v (.int .u8 0), .v (.int .u8 0), .v (.int .u8 0), .v (.int .u8 0), .v (.int .u8 0), .v (.int .u8 0), .v (.int .u8 0), .v (.int .u8 0), .v (.int .u8 0), .v (.int .u8 0), .v (.int .u8 0), .v (.int .u8 0), .v (.int .u8 0), .v (.int .u8 0), .v (.int .u8 0), .v (.int .u8 0), .v (.int .u8 0), .v (.int .u8 0), .v (.int .u8 0), .v (.int .u8 0), .v (.int .u8 0), .v (.int .u8 0), .v (.int .u8 0), .v (.int .u8 0), .v (.int .u8 0), .v (.int .u8 0), .v (.int .u8 0), .v (.int .u8 0), .v (.int .u8 0), .v (.int .u8 0), .v (.int .u8 0)]
def tTbm [InW] : TI := ⟨some true, some 2, some [.v (.slice none 0 0), .v (.slice none 0 0)], tTaf, none, none⟩
def tTbf [InW] : Tr TI := .node .nil ⟨some true, some 2, some [.v (.pointer none), .v (.slice none 0 0)], tTaf, none, none⟩ .nil
def tTak [InW] : Tr TI := .node .nil ⟨some true, some 6, some [.v (.slice none 0 0), .v (.slice none 0 0), .v (.int .i64 0), .v (.int .i64 0), .v (.map none), .v (.slice none 0 0)], [(some (0, 3)), (some (3, 1)), (some (4, 1)), (some (5, 1))], none, none⟩ .nil
def tTbq [InW] : TI := ⟨some true, some 2, some [.v (.slice none 0 0), .v (.int .i64 0)], tTaf, none, none⟩
def tTbt [InW] : Tr TI := .node .nil ⟨some true, some 0, some [], [(some (0, 0))], none, none⟩ .nil
def tTbj [InW] : TI := ⟨some true, some 2, some [.v (.string ByteArray.empty), .v (.int .u64 0)], tTaf, none, none⟩
def tTal [InW] : TI := ⟨some true, some 9, some [.v (.int .i64 0), .v (.int .i64 0), .v (.int .i64 0), .v (.int .i64 0), .v (.int .i64 0), .v (.int .i64 0), .v (.int .i64 0), .v (.int .i64 0), .v (.int .i64 0)], [], none, (some (9, 1, false))⟩
def tTbe [InW] : TI := ⟨some true, some 3, some [.v (.slice none 0 0), .v (.slice none 0 0), .v (.int .i64 0)], tTag, none, none⟩
def tTbg [InW] : Tr TI := .node .nil ⟨some false, some 1, (some [.v (.tuple #[.int .i64 0, .nilIface])]), [], none, none⟩ .nil
def tTbo [InW] : List AV := [.v (.int .i64 0), .v (.int .i64 0), .v (.int .i64 0), .v (.int .i64 0), .v (.int .i64 0)]
def tTan [InW] : TI := ⟨some true, some 5, some tTbo, [(some (0, 1)), (some (1, 1)), (some (2, 1)), (some (3, 1)), (some (4, 1))], none, none⟩
def tTae [InW] : Tr TI := .node .nil ⟨some true, some 11, some [.v (.int .u64 0), .v (.int .u64 0), .v (.int .u32 0), .v (.int .u8 0), .v (.int .u8 0), .v (.int .u8 0), .v (.int .u8 0), .v (.nilFunc), .v (.pointer none), .v (.int .i32 0), .v (.int .i32 0)], [(some (0, 1)), (some (1, 1)), (some (2, 1)), (some (3, 1)), (some (4, 1)), (some (5, 1)), (some (6, 1)), (some (7, 1)), (some (8, 1)), (some (9, 1)), (some (10, 1))], none, none⟩ .nil
def TT [InW] : Tr TI :=
 (.node (.node (.node (.node (.node (.node (.node tTau tTbl tTab) ⟨some false, some 1, some [.v (.int .u16 0)], [], none, none⟩ (.node tTab tTaa (.node .nil ⟨some false, some 1, (some [.v (.tuple #[.int .u64 0, .nilIface])]), [], none, none⟩ .nil))) tTac (.node (.node tTbd tTaa tTab) tTbp tTay)) tTat (.node (.node (.node tTab tTbx tTab) tTaa tTbc) ⟨some false, some 1, some tTap, [], (some (68, 3, 32, tTai)), none⟩ (.node (.node tTab ⟨some false, some 1, (some [.v (.tuple #[.bool false, .int .i64 0, .int .i64 0, .int .i64 0])]), [], none, none⟩ tTab) tTaa (.node tTau tTaa (.node .nil tTas .nil))))) tTar (.node (.node (.node tTah tTaw (.node (.node .nil ⟨some false, some 1, (some [.v (.tuple #[.string ByteArray.empty, .bool false])]), [], none, none⟩ .nil) tTaa tTax)) tTbs (.node (.node tTbr ⟨some false, some 1, some tTap, [], (some (137, 2, 16, tTbu)), none⟩ (.node .nil tTar .nil)) tTaa (.node tTab tTby tTam))) tTav (.node (.node (.node tTab tTbk (.node .nil tTaz .nil)) tTaa (.node tTab tTbn tTab)) ⟨some false, some 1, some tTap, [], (some (9, 1, 16, tTbw)), none⟩ (.node (.node (.node .nil tTbb .nil) tTaa (.node .nil ⟨some false, some 1, some [.v (.int .u32 0)], [], none, none⟩ .nil)) tTaa (.node tTau tTaa (.node .nil tTba .nil)))))) tTaa (.node (.node (.node (.node (.node tTab tTaa tTau) tTbh tTaq) tTac (.node (.node tTab ⟨some false, some 1, (some [.v (.tuple #[.int .i64 0, .int .i64 0])]), [], none, none⟩ tTab) ⟨some false, some 1, (some [.v (.tuple #[.agg #[.int .i64 0, .slice none 0 0], .int .i64 0])]), [], none, none⟩ (.node tTau tTaa (.node .nil ⟨some true, some 64, some [.v (.int .u8 0), .v (.int .u8 0), .v (.int .u8 0), .v (.int .u8 0), .v (.int .u8 0), .v (.int .u8 0), .v (.int .u8 0), .v (.int .u8 0), .v (.int .u8 0), .v (.int .u8 0), .v (.int .u8 0), .v (.int .u8 0), .v (.int .u8 0), .v (.int .u8 0), .v (.int .u8 0), .v (.int .u8 0), .v (.int .u8 0), .v (.int .u8 0), .v (.int .u8 0), .v (.int .u8 0), .v (.int .u8 0), .v (.int .u8 0), .v (.int .u8 0), .v (.int .u8 0), .v (.int .u8 0), .v (.int .u8 0), .v (.int .u8 0), .v (.int .u8 0), .v (.int .u8 0), .v (.int .u8 0), .v (.int .u8 0), .v (.int .u8 0), .v (.int .u8 0), .v (.int .u8 0), .v (.int .u8 0), .v (.int .u8 0), .v (.int .u8 0), .v (.int .u8 0), .v (.int .u8 0), .v (.int .u8 0), .v (.int .u8 0), .v (.int .u8 0), .v (.int .u8 0), .v (.int .u8 0), .v (.int .u8 0), .v (.int .u8 0), .v (.int .u8 0), .v (.int .u8 0), .v (.int .u8 0), .v (.int .u8 0), .v (.int .u8 0), .v (.int .u8 0), .v (.int .u8 0), .v (.int .u8 0), .v (.int .u8 0), .v (.int .u8 0), .v (.int .u8 0), .v (.int .u8 0), .v (.int .u8 0), .v (.int .u8 0), .v (.int .u8 0), .v (.int .u8 0), .v (.int .u8 0), .v (.int .u8 0)], [], none, (some (64, 1, false))⟩ .nil)))) tTav (.node (.node (.node (.node .nil tTaj .nil) tTaa tTab) ⟨some false, some 1, some tTap, [], (some (3, 1, 8, [.v (.int .i64 0)])), none⟩ (.node tTab tTaa (.node .nil ⟨some true, some 32, some tTad, [], none, (some (16, 2, true))⟩ .nil))) tTbm (.node (.node tTbf tTbk tTab) tTaj tTaq))) tTas (.node (.node (.node tTaq ⟨some false, some 1, (some [.v (.tuple #[.int .i64 0, .int .i64 0, .int .i64 0])]), [], none, none⟩ tTaq) tTba (.node (.node tTak tTbq tTab) ⟨some false, some 1, some tTap, [], (some (41, 1, 24, tTap)), none⟩ (.node tTab tTaa tTbt))) tTbj (.node (.node tTaq tTaa (.node tTab tTal tTau)) tTbe (.node (.node tTbg tTaa (.node .nil tTaz .nil)) tTaa (.node tTab tTan tTae)))))) ⟨some false, some 1, (some [.v (.tuple #[])]), [], none, none⟩ (.node (.node (.node (.node (.node (.node tTbd tTbl tTau) tTbh tTaq) tTac (.node (.node tTab tTaa (.node .nil ⟨some false, some 1, (some [.v (.tuple #[.int .i32 0, .int .i64 0])]), [], none, none⟩ .nil)) tTbp (.node (.node .nil ⟨some true, some 2, some [.v (.nilFunc), .v (.nilFunc)], [], none, (some (2, 1, false))⟩ .nil) tTaa (.node .nil ⟨some true, some 32, some tTad, [], none, (some (32, 1, false))⟩ .nil)))) tTat (.node (.node (.node (.node .nil tTaj .nil) tTbx tTab) tTaa tTbc) tTbm (.node (.node tTau tTaa tTab) tTaj (.node tTab tTaa (.node .nil tTas .nil))))) ⟨some false, some 1, some [.v (.bool false)], [], none, none⟩ (.node (.node (.node tTah tTar tTaq) tTbb (.node (.node tTak tTbq tTbg) tTaa (.node (.node .nil ⟨some false, some 1, (some [.v (.tuple #[.agg #[.int .i64 0, .int .i64 0, .int .i64 0], .bool false])]), [], none, none⟩ .nil) tTby (.node .nil ⟨some true, some 0, some [], [], none, (some (0, 1, false))⟩ .nil)))) tTaz (.node (.node tTaq ⟨some false, some 1, (some [.v (.tuple #[.int .i64 0, .bool false, .int .i64 0])]), [], none, none⟩ (.node tTab tTal tTab)) tTbe (.node (.node (.node .nil tTbb .nil) tTaa (.node .nil ⟨some true, some 65, some [.v (.int .u8 0), .v (.int .u8 0), .v (.int .u8 0), .v (.int .u8 0), .v (.int .u8 0), .v (.int .u8 0), .v (.int .u8 0), .v (.int .u8 0), .v (.int .u8 0), .v (.int .u8 0), .v (.int .u8 0), .v (.int .u8 0), .v (.int .u8 0), .v (.int .u8 0), .v (.int .u8 0), .v (.int .u8 0), .v (.int .u8 0), .v (.int .u8 0), .v (.int .u8 0), .v (.int .u8 0), .v (.int .u8 0), .v (.int .u8 0), .v (.int .u8 0), .v (.int .u8 0), .v (.int .u8 0), .v (.int .u8 0), .v (.int .u8 0), .v (.int .u8 0), .v (.int .u8 0), .v (.int .u8 0), .v (.int .u8 0), .v (.int .u8 0), .v (.int .u8 0), .v (.int .u8 0), .v (.int .u8 0), .v (.int .u8 0), .v (.int .u8 0), .v (.int .u8 0), .v (.int .u8 0), .v (.int .u8 0), .v (.int .u8 0), .v (.int .u8 0), .v (.int .u8 0), .v (.int .u8 0), .v (.int .u8 0), .v (.int .u8 0), .v (.int .u8 0), .v (.int .u8 0), .v (.int .u8 0), .v (.int .u8 0), .v (.int .u8 0), .v (.int .u8 0), .v (.int .u8 0), .v (.int .u8 0), .v (.int .u8 0), .v (.int .u8 0), .v (.int .u8 0), .v (.int .u8 0), .v (.int .u8 0), .v (.int .u8 0), .v (.int .u8 0), .v (.int .u8 0), .v (.int .u8 0), .v (.int .u8 0), .v (.int .u8 0)], [], none, (some (65, 1, false))⟩ .nil)) tTaa (.node tTab tTaa tTae))))) tTar (.node (.node (.node (.node tTaq tTaw (.node tTab tTbn tTax)) tTbs (.node tTaq tTaa (.node tTab tTaa tTam))) tTav (.node (.node (.node tTab ⟨some false, some 1, some tTap, [], (some (57, 2, 16, tTbu)), none⟩ (.node .nil ⟨some true, some 24, some [.v (.int .u8 0), .v (.int .u8 0), .v (.int .u8 0), .v (.int .u8 0), .v (.int .u8 0), .v (.int .u8 0), .v (.int .u8 0), .v (.int .u8 0), .v (.int .u8 0), .v (.int .u8 0), .v (.int .u8 0), .v (.int .u8 0), .v (.int .u8 0), .v (.int .u8 0), .v (.int .u8 0), .v (.int .u8 0), .v (.int .u8 0), .v (.int .u8 0), .v (.int .u8 0), .v (.int .u8 0), .v (.int .u8 0), .v (.int .u8 0), .v (.int .u8 0), .v (.int .u8 0)], [], none, (some (24, 1, false))⟩ .nil)) ⟨some false, some 1, (some [.v (.tuple #[.slice none 0 0, .slice none 0 0])]), [], none, none⟩ (.node tTab tTaa (.node .nil ⟨some false, some 1, (some [.v (.tuple #[.int .u32 0, .int .u32 0])]), [], none, none⟩ .nil))) ⟨some false, some 1, some tTap, [], (some (72, 3, 32, tTai)), none⟩ (.node (.node tTbf tTaa (.node .nil ⟨some true, some 20, some [.v (.int .u64 0), .v (.int .u64 0), .v (.int .u64 0), .v (.int .u64 0), .v (.int .u64 0), .v (.int .u64 0), .v (.int .u64 0), .v (.int .u64 0), .v (.int .u64 0), .v (.int .u64 0), .v (.int .u64 0), .v (.int .u64 0), .v (.int .u64 0), .v (.int .u64 0), .v (.int .u64 0), .v (.int .u64 0), .v (.int .u64 0), .v (.int .u64 0), .v (.int .u64 0), .v (.int .u64 0)], [], none, (some (20, 1, false))⟩ .nil)) ⟨some false, some 1, (some [.v (.tuple #[.agg #[.int .i64 0, .int .i64 0], .int .i64 0])]), [], none, none⟩ (.node tTab tTaa (.node .nil tTba .nil))))) tTas (.node (.node (.node tTaq tTaa (.node tTab ⟨some false, some 1, (some [.v (.tuple #[.string ByteArray.empty, .int .i64 0])]), [], none, none⟩ (.node .nil ⟨some true, some 256, some [.v (.int .u8 0), .v (.int .u8 0), .v (.int .u8 0), .v (.int .u8 0), .v (.int .u8 0), .v (.int .u8 0), .v (.int .u8 0), .v (.int .u8 0), .v (.int .u8 0), .v (.int .u8 0), .v (.int .u8 0), .v (.int .u8 0), .v (.int .u8 0), .v (.int .u8 0), .v (.int .u8 0), .v (.int .u8 0), .v (.int .u8 0), .v (.int .u8 0), .v (.int .u8 0), .v (.int .u8 0), .v (.int .u8 0), .v (.int .u8 0), .v (.int .u8 0), .v (.int .u8 0), .v (.int .u8 0), .v (.int .u8 0), .v (.int .u8 0), .v (.int .u8 0), .v (.int .u8 0), .v (.int .u8 0), .v (.int .u8 0), .v (.int .u8 0), .v (.int .u8 0), .v (.int .u8 0), .v (.int .u8 0), .v (.int .u8 0), .v (.int .u8 0), .v (.int .u8 0), .v (.int .u8 0), .v (.int .u8 0), .v (.int .u8 0), .v (.int .u8 0), .v (.int .u8 0), .v (.int .u8 0), .v (.int .u8 0), .v (.int .u8 0), .v (.int .u8 0), .v (.int .u8 0), .v (.int .u8 0), .v (.int .u8 0), .v (.int .u8 0), .v (.int .u8 0), .v (.int .u8 0), .v (.int .u8 0), .v (.int .u8 0), .v (.int .u8 0), .v (.int .u8 0), .v (.int .u8 0), .v (.int .u8 0), .v (.int .u8 0), .v (.int .u8 0), .v (.int .u8 0), .v (.int .u8 0), .v (.int .u8 0), .v (.int .u8 0), .v (.int .u8 0), .v (.int .u8 0), .v (.int .u8 0), .v (.int .u8 0), .v (.int .u8 0), .v (.int .u8 0), .v (.int .u8 0), .v (.int .u8 0), .v (.int .u8 0), .v (.int .u8 0), .v (.int .u8 0), .v (.int .u8 0), .v (.int .u8 0), .v (.int .u8 0), .v (.int .u8 0), .v (.int .u8 0), .v (.int .u8 0), .v (.int .u8 0), .v (.int .u8 0), .v (.int .u8 0), .v (.int .u8 0), .v (.int .u8 0), .v (.int .u8 0), .v (.int .u8 0), .v (.int .u8 0), .v (.int .u8 0), .v (.int .u8 0), .v (.int .u8 0), .v (.int .u8 0), .v (.int .u8 0), .v (.int .u8 0), .v (.int .u8 0), .v (.int .u8 0), .v (.int .u8 0), .v (.int .u8 0), .v (.int .u8 0), .v (.int .u8 0), .v (.int .u8 0), .v (.int .u8 0), .v (.int .u8 0), .v (.int .u8 0), .v (.int .u8 0), .v (.int .u8 0), .v (.int .u8 0), .v (.int .u8 0), .v (.int .u8 0), .v (.int .u8 0), .v (.int .u8 0), .v (.int .u8 0), .v (.int .u8 0), .v (.int .u8 0), .v (.int .u8 0), .v (.int .u8 0), .v (.int .u8 0), .v (.int .u8 0), .v (.int .u8 0), .v (.int .u8 0), .v (.int .u8 0), .v (.int .u8 0), .v (.int .u8 0), .v (.int .u8 0), .v (.int .u8 0), .v (.int .u8 0), .v (.int .u8 0), .v (.int .u8 0), .v (.int .u8 0), .v (.int .u8 0), .v (.int .u8 0), .v (.int .u8 0), .v (.int .u8 0), .v (.int .u8 0), .v (.int .u8 0), .v (.int .u8 0), .v (.int .u8 0), .v (.int .u8 0), .v (.int .u8 0), .v (.int .u8 0), .v (.int .u8 0), .v (.int .u8 0), .v (.int .u8 0), .v (.int .u8 0), .v (.int .u8 0), .v (.int .u8 0), .v (.int .u8 0), .v (.int .u8 0), .v (.int .u8 0), .v (.int .u8 0), .v (.int .u8 0), .v (.int .u8 0), .v (.int .u8 0), .v (.int .u8 0), .v (.int .u8 0), .v (.int .u8 0), .v (.int .u8 0), .v (.int .u8 0), .v (.int .u8 0), .v (.int .u8 0), .v (.int .u8 0), .v (.int .u8 0), .v (.int .u8 0), .v (.int .u8 0), .v (.int .u8 0), .v (.int .u8 0), .v (.int .u8 0), .v (.int .u8 0), .v (.int .u8 0), .v (.int .u8 0), .v (.int .u8 0), .v (.int .u8 0), .v (.int .u8 0), .v (.int .u8 0), .v (.int .u8 0), .v (.int .u8 0), .v (.int .u8 0), .v (.int .u8 0), .v (.int .u8 0), .v (.int .u8 0), .v (.int .u8 0), .v (.int .u8 0), .v (.int .u8 0), .v (.int .u8 0), .v (.int .u8 0), .v (.int .u8 0), .v (.int .u8 0), .v (.int .u8 0), .v (.int .u8 0), .v (.int .u8 0), .v (.int .u8 0), .v (.int .u8 0), .v (.int .u8 0), .v (.int .u8 0), .v (.int .u8 0), .v (.int .u8 0), .v (.int .u8 0), .v (.int .u8 0), .v (.int .u8 0), .v (.int .u8 0), .v (.int .u8 0), .v (.int .u8 0), .v (.int .u8 0), .v (.int .u8 0), .v (.int .u8 0), .v (.int .u8 0), .v (.int .u8 0), .v (.int .u8 0), .v (.int .u8 0), .v (.int .u8 0), .v (.int .u8 0), .v (.int .u8 0), .v (.int .u8 0), .v (.int .u8 0), .v (.int .u8 0), .v (.int .u8 0), .v (.int .u8 0), .v (.int .u8 0), .v (.int .u8 0), .v (.int .u8 0), .v (.int .u8 0), .v (.int .u8 0), .v (.int .u8 0), .v (.int .u8 0), .v (.int .u8 0), .v (.int .u8 0), .v (.int .u8 0), .v (.int .u8 0), .v (.int .u8 0), .v (.int .u8 0), .v (.int .u8 0), .v (.int .u8 0), .v (.int .u8 0), .v (.int .u8 0), .v (.int .u8 0), .v (.int .u8 0), .v (.int .u8 0), .v (.int .u8 0), .v (.int .u8 0), .v (.int .u8 0), .v (.int .u8 0), .v (.int .u8 0), .v (.int .u8 0), .v (.int .u8 0), .v (.int .u8 0), .v (.int .u8 0), .v (.int .u8 0), .v (.int .u8 0), .v (.int .u8 0), .v (.int .u8 0), .v (.int .u8 0), .v (.int .u8 0), .v (.int .u8 0), .v (.int .u8 0)], [], none, (some (256, 1, false))⟩ .nil))) ⟨some false, some 1, some tTap, [], (some (64, 5, 48, tTao)), none⟩ (.node (.node (.node .nil ⟨some false, some 1, (some [.v (.tuple #[.slice none 0 0, .bool false])]), [], none, none⟩ .nil) tTaa tTau) tTaa (.node tTbr tTaa tTbt))) tTbj (.node (.node (.node tTau ⟨some false, some 1, some tTap, [], (some (126, 5, 40, tTbo)), none⟩ (.node .nil ⟨some false, some 1, (some [.v (.tuple #[.slice none 0 0, .string ByteArray.empty])]), [], none, none⟩ .nil)) ⟨some false, some 1, some tTap, [], (some (116, 3, 24, tTbi)), none⟩ tTay) ⟨some false, some 1, some tTap, [], (some (5, 1, 1, [.v (.int .u8 0)])), none⟩ (.node tTaq tTaa (.node tTab tTan (.node .nil ⟨none, none, none, [], none, none⟩ .nil))))))))
theorem Xc [InW] : TabOk Tryz.prog TT := TabOk.of 8 (by kernel_rfl)
theorem Xa : Tryz.prog.follows .mixedOrders = true := by kernel_rfl
end Go.Proofs.YtladoaeefkpdiaaGreatDoor
namespace Go.Proofs.YtladoaeefkpdiaaGreatDoor.Bk
structure Car where
 name : ByteArray
 km : Int
 every : Int
 never : Int
structure Term where
 before : Int
 fee : Int
structure School where
 learners : List ByteArray
 cars : List Car
 price : Int
 excess : Int
 lo : Int
 hi : Int
 terms : List Term
def oob (lo hi n : Int) : Bool := decide (n < lo) || decide (hi < n)
def alpha (b : UInt8) : Bool := 97 <= b && b <= 122
def digit (b : UInt8) : Bool := 48 <= b && b <= 57
def nameFrom : List UInt8 -> Nat -> Bool
 | [], _ => true
 | b :: l, i => (alpha b || (i != 0 && digit b)) && nameFrom l (i + 1)
def nameOk (s : ByteArray) : Bool := nameFrom s.data.toList 0 && !oob 1 16 s.size
def idxFrom {α : Type} (p : α -> Bool) : List α -> Nat -> Int
 | [], _ => -1
 | x :: xs, i => if p x then (i : Int) else idxFrom p xs (i + 1)
theorem idxFrom_drop {α : Type} (p : α -> Bool) (xs : List α) (k : Nat) (h : k < xs.length) :
  idxFrom p (xs.drop k) k = if p xs[k] then (k : Int) else idxFrom p (xs.drop (k + 1)) (k + 1) := by
 rw [List.drop_eq_getElem_cons h]; rfl
theorem idxFrom_ge {α : Type} (p : α -> Bool) (xs : List α) (k : Nat) : 0 <= idxFrom p xs k ↔ xs.any p = true := by
 induction xs generalizing k with
 | nil => simp [idxFrom]
 | cons x xs ih =>
  simp only [idxFrom, List.any_cons, Bool.or_eq_true]
  by_cases h : p x = true
  ·simp [h]
  ·simp only [Bool.not_eq_true] at h;simp [h, ih]
def namedErr (names : List ByteArray) (i : Nat) : Int :=
 if !nameOk (names.getD i ByteArray.empty) then 6
 else if (names.take i).any (fun x => x.data.toList == (names.getD i ByteArray.empty).data.toList) then 5 else 0
def carErr (s : School) (i : Nat) (c : Car) : Int :=
 let e := namedErr (s.cars.map Car.name) i
 if e ≠ 0 then e
 else if oob 0 1000000 c.km || oob 1 1000000 c.every || oob 0 255 c.never then 7 else 0
def termErr (s : School) (i : Nat) (t : Term) : Int :=
 if oob 0 240 t.before || oob 0 1000 t.fee then 7
 else if decide (0 < i) && (decide ((s.terms.getD (i - 1) ⟨0, 0⟩).before <= t.before) || decide (t.fee < (s.terms.getD (i - 1) ⟨0, 0⟩).fee)) then 2 else 0
def firstErr {α : Type} (f : Nat -> α -> Int) : List α -> Nat -> Option (Int × Int)
 | [], _ => none
 | x :: xs, i => if f i x = 0 then firstErr f xs (i + 1) else some ((i : Int), f i x)
def pre (s : School) : Int :=
 if oob 1 8 (s.learners.length : Int) || oob 1 5 (s.cars.length : Int) || decide (4 < (s.terms.length : Int)) then 3
 else if oob 1 10000 s.price || oob 0 10000000 s.excess || oob 0 24 s.lo || oob 0 24 s.hi then 7
 else if decide (s.hi <= s.lo) then 2 else 0
def checkTerms (s : School) : Int × Int × Int :=
 match firstErr (termErr s) s.terms 0 with
 | some (i, e) => (4, i, e)
 | none => (0, 0, 0)
def checkCars (s : School) : Int × Int × Int :=
 match firstErr (carErr s) s.cars 0 with
 | some (i, e) => (3, i, e)
 | none => checkTerms s
def checkNames (s : School) : Int × Int × Int :=
 match firstErr (fun i _ => namedErr s.learners i) s.learners 0 with
 | some (i, e) => (2, i, e)
 | none => checkCars s
def check (s : School) : Int × Int × Int := if pre s ≠ 0 then (1, 0, pre s) else checkNames s
def part (s : School) (before : Int) : Int :=
 match s.terms.find? (fun t => decide (t.before <= before)) with
 | some t => t.fee
 | none => 1000
end Go.Proofs.YtladoaeefkpdiaaGreatDoor.Bk
namespace Go.Proofs.YtladoaeefkpdiaaGreatDoor
open Go.RowKit Bk
theorem Xkz (n lo hi : Int) (b c : Nat) (w : World) (hb : w.cell? ⟨b, 0, none⟩ = some (.int .i64 lo)) (hc : w.cell? ⟨c, 0, none⟩ = some (.int .i64 hi)) :
  Calls Tryz.prog 147 #[.int .i64 n, .pointer (some ⟨b, 0, none⟩), .pointer (some ⟨c, 0, none⟩)] w fun e w' => e = .returned (.bool (oob lo hi n)) /\ w = w' := by
 go_enter Tryz.func147, Tryz.ntmps147
 go_wp2
 all_goals go_ret
 all_goals exact ⟨by simp [oob, *], rfl⟩
theorem Xco (g : Nat) (lb : Array Value) (p : Int -> Bool) (xs : List Int) (B : Nat) (v : Value) (w : World)
  (eg : ∀ args w, (callFunc g args).run Tryz.prog w = .ok (.enter g args) w)
  (hv : Ones w B v (xs.map (Value.int .i64)))
  (hp : ∀ x, Calls Tryz.prog g (#[.int .i64 x] ++ lb) w fun e w' => e = .returned (.bool (p x)) /\ w = w') :
  Calls Tryz.prog 126 #[v, .func (.func g) #[] lb] w fun e w' => e = .returned (.int .i64 (idxFrom p xs 0)) /\ w = w' := by
 obtain ⟨A, c, rfl, hcap, hbig⟩ := hv.form;simp only [List.length_map] at hbig hcap hv ⊢
 go_enter Tryz.func126, Tryz.ntmps126
 go_wp2
 go_loopg [5, 8] xs.length (fun gg _ s8 wr => ∃ kk : Nat, kk <= xs.length /\ xs.length - kk <= gg /\ s8 = .int .i64 kk /\ w = wr /\ Hid (idxFrom p (xs.drop kk) kk = idxFrom p xs 0))
 case atStart => exact ⟨0, Nat.zero_le _, by omega, rfl, rfl, rfl⟩
 case round =>
  obtain ⟨kk, hkk, hg, rfl, rfl, A⟩ := hrel
  by_cases hlt : kk < xs.length
  ·have hltz : (kk : Int) < (xs.length : Int) := by omega
   obtain ⟨b, off, c', e, hcap', hb, hcell⟩ := hv.at_ (k := kk) (by simpa using hlt);rw [List.length_map] at e; cases e;simp only [List.getElem_map] at hcell;have hcall := hp xs[kk];have B := Lib.hid (idxFrom_drop p xs kk hlt);clear hp hv;generalize xs[kk] = y at hcell hcall B;cases hq : p y with
   | true =>
    rw [hq] at hcall;have Hq := Lib.hid hq;clear hq
    go_wp2_with (go_at_fn g; refine hcall.mono ?_; rintro e w' ⟨rfl, rfl⟩)
    go_ret
    refine ⟨?_, rfl⟩;rw [<- A.out, B.out, Hq.out]; rfl
   | false =>
    rw [hq] at hcall;have Hq := Lib.hid hq;clear hq
    go_wp2_with (go_at_fn g; refine hcall.mono ?_; rintro e w' ⟨rfl, rfl⟩)
    go_roundg (xs.length - (kk + 1))
    case measure => omega
    case rel =>
     refine ⟨kk + 1, by omega, by omega, by go_num, rfl, ?_⟩;rw [<- A.out, B.out, Hq.out]; rfl
  ·have hltz : ¬ (kk : Int) < (xs.length : Int) := by omega
   have : kk = xs.length := by omega
   subst this
   go_wp2
   go_ret
   refine ⟨?_, rfl⟩;rw [<- A.out]; simp [idxFrom]
theorem Xbx (g : Nat) (lb : Array Value) (p : Int -> Bool) (xs : List Int) (B : Nat) (v : Value) (w : World)
  (eg : ∀ args w, (callFunc g args).run Tryz.prog w = .ok (.enter g args) w)
  (hv : Ones w B v (xs.map (Value.int .i64)))
  (hp : ∀ x, Calls Tryz.prog g (#[.int .i64 x] ++ lb) w fun e w' => e = .returned (.bool (p x)) /\ w = w') :
  Calls Tryz.prog 97 #[v, .func (.func g) #[] lb] w fun e w' => e = .returned (.bool (xs.any p)) /\ w = w' := by
 have hi := Xco g lb p xs B v w eg hv hp;have he := idxFrom_ge p xs 0;clear hp hv eg;have He := Lib.hid he;clear he
 go_enter Tryz.func97, Tryz.ntmps97
 go_wp2_with (go_at_call 126; refine hi.mono ?_; rintro e w' ⟨rfl, rfl⟩)
 go_ret
 refine ⟨ret_bool ?_, rfl⟩;rw [Bool.eq_iff_iff, <- He.out]; simp
end Go.Proofs.YtladoaeefkpdiaaGreatDoor
namespace Go.Proofs.YtladoaeefkpdiaaGreatDoor
open Go.RowKit Bk
theorem Ones.mk1 {w : World} {B b : Nat} {x : Value} (hb : b < B) (h : w.cell? ⟨b, 0, none⟩ = some x) : Ones w B (.slice (some ⟨b, 0, none⟩) 1 1) [x] := by
 refine ⟨_, 1, rfl, by simp, by simp, fun _ => ⟨b, 0, rfl, hb, fun k r hk j u hj => ?_⟩⟩
 match k, hk with
 | 0, hk =>
  simp at hk; subst hk
  match j, hj with
  | 0, hj => simp at hj; subst hj; simpa using h
theorem Xq7 (lo hi x : Int) (b : Nat) (w : World) (hb : b = w.heap.size) :
  Calls Tryz.prog 134 #[.int .i64 lo, .int .i64 hi, .slice (some ⟨b, 0, none⟩) 1 1] (w.alloc (.cells #[.int .i64 x] 3)) fun e w' => e = .returned (.bool (oob lo hi x)) /\ Below w.heap.size w w' := by
 subst hb;have hv : Ones (w.alloc (.cells #[.int .i64 x] 3)) (w.heap.size + 1) (.slice (some ⟨w.heap.size, 0, none⟩) 1 1) (([x] : List Int).map (Value.int .i64)) := Ones.mk1 (by omega) (by simp [go_sem]);have hbl : Below (w.heap.size + 1) (w.alloc (.cells #[.int .i64 x] 3)) (((w.alloc (.cells #[.int .i64 x] 3)).alloc (.cells #[.int .i64 lo] 3)).alloc (.cells #[.int .i64 hi] 3)) := ((Below.refl _ _).alloc (by simp) _).alloc (by simp) _;have hcall := Xbx 147 #[.pointer (some ⟨w.heap.size + 1, 0, none⟩), .pointer (some ⟨w.heap.size + 2, 0, none⟩)] (oob lo hi) [x] _ _ _ (enters_of Tryz.func147 (by kernel_rfl) rfl) (hv.below hbl)
  (fun x => Xkz x lo hi (w.heap.size + 1) (w.heap.size + 2) _ (by simp [go_sem]) (by simp [go_sem]))
 clear hv;simp only [List.any_cons, List.any_nil, Bool.or_false] at hcall
 go_enter Tryz.func134, Tryz.ntmps134
 go_wp2_with (go_at_call 97; refine hcall.mono ?_; rintro e w' ⟨rfl, rfl⟩)
 go_ret
 exact ⟨rfl, ((Below.refl _ _).alloc (Nat.le_refl _) _).trans (hbl.mono (by omega))⟩
theorem Xz (l : List UInt8) (k : Nat) (h : k < l.length) : nameFrom (l.drop k) k = ((alpha l[k] || (k != 0 && digit l[k])) && nameFrom (l.drop (k + 1)) (k + 1)) := by
 rw [List.drop_eq_getElem_cons h]; rfl
theorem Xkq (b : UInt8) (k : Nat) : (alpha b || (k != 0 && digit b)) = true ↔ ((97 <= (b.toNat : Int) /\ (b.toNat : Int) <= 122) \/ (k ≠ 0 /\ 48 <= (b.toNat : Int) /\ (b.toNat : Int) <= 57)) := by
 simp only [alpha, digit, Bool.or_eq_true, Bool.and_eq_true, decide_eq_true_eq, bne_iff_ne, UInt8.le_iff_toNat_le];have : (97 : UInt8).toNat = 97 := rfl;have : (122 : UInt8).toNat = 122 := rfl;have : (48 : UInt8).toNat = 48 := rfl;have : (57 : UInt8).toNat = 57 := rfl;omega
theorem Xdy (w : World) (s : ByteArray) (pos : Nat) : Below w.heap.size w (w.iter s pos) := (Below.refl _ _).alloc (Nat.le_refl _) _
theorem Xje (s : ByteArray) (pos : Nat) (h : pos < s.size) :
  (∃ b : UInt8, s.data.toList[pos]? = some b /\ (Utf8.decode s pos).1 = b.toNat /\ (Utf8.decode s pos).2 = 1 /\ b.toNat < 128) \/
  (∃ b : UInt8, s.data.toList[pos]? = some b /\ 128 <= b.toNat /\ 128 <= (Utf8.decode s pos).1) := by
 have hl : pos < s.data.toList.length := by simpa using h
 have hg : s.data.toList[pos]? = some (s[pos]'h) := by rw [List.getElem?_eq_getElem hl]; simp; rfl
 by_cases ha : (s[pos]'h).toNat < 128
 ·exact .inl ⟨_, hg, by rw [decode_ascii s pos h ha], by rw [decode_ascii s pos h ha], ha⟩
 ·exact .inr ⟨_, hg, by omega, (decode_high s pos h (by omega)).1⟩
theorem Xb3 (l : List UInt8) (k : Nat) (b : UInt8) (h : l[k]? = some b) : nameFrom (l.drop k) k = ((alpha b || (k != 0 && digit b)) && nameFrom (l.drop (k + 1)) (k + 1)) := by
 obtain ⟨hk, rfl⟩ := List.getElem?_eq_some_iff.1 h;exact Xz l k hk
def Xu (c : Int) (k : Nat) : Bool := decide (97 <= c /\ c <= 122) || (decide (k ≠ 0) && decide (48 <= c /\ c <= 57))
theorem Xjp (s : ByteArray) (pos : Nat) (h : pos < s.size) :
  (Xu (Utf8.decode s pos).1 pos = true /\ (Utf8.decode s pos).2 = 1 /\ nameFrom (s.data.toList.drop pos) pos = nameFrom (s.data.toList.drop (pos + 1)) (pos + 1)) \/
  (Xu (Utf8.decode s pos).1 pos = false /\ nameFrom (s.data.toList.drop pos) pos = false) := by
 have hn := fun b => Xkq b pos;rcases Xje s pos h with ⟨b, hb, e1, e2, hlt⟩ | ⟨b, hb, hlt, hge⟩
 ·rw [Xb3 _ _ _ hb, e1];have hb' := hn b
  by_cases hg : Xu b.toNat pos = true
  ·refine .inl ⟨hg, e2, ?_⟩;have : (alpha b || (pos != 0 && digit b)) = true := by rw [hb']; simpa [Xu] using hg
   rw [this]; rfl
  ·refine .inr ⟨by simpa using hg, ?_⟩;have : (alpha b || (pos != 0 && digit b)) = false := by rw [Bool.eq_false_iff, Ne, hb']; simpa [Xu] using hg
   rw [this]; rfl
 ·refine .inr ⟨?_, ?_⟩
  ·simp only [Xu, Bool.or_eq_false_iff, Bool.and_eq_false_iff, decide_eq_false_iff_not]; omega
  ·rw [Xb3 _ _ _ hb];have : (alpha b || (pos != 0 && digit b)) = false := by
    rw [Bool.eq_false_iff, Ne, hn b]; omega
   rw [this]; rfl
theorem Xk3 (s : ByteArray) (w : World) :
  Calls Tryz.prog 121 #[.string s] w fun e w' => e = .returned (.bool (nameOk s)) /\ Below w.heap.size w w' := by
 go_enter Tryz.func121, Tryz.ntmps121
 go_wp2
 go_loopw [3, 4] (fun _ _ w' => ∃ pos : Nat, w' = w.iter s pos /\ Hid (nameFrom (s.data.toList.drop pos) pos = nameFrom s.data.toList 0)) (fun _ _ w' => s.size - w'.iterPos w.heap.size)
 case atStart => exact ⟨0, rfl, rfl⟩
 case round =>
  obtain ⟨pos, rfl, A⟩ := hrel
  by_cases hp : pos < s.size
  ·have hnx : ∀ ty, (Instr.next (.pointer (some ⟨w.heap.size, 0, none⟩)) true ty).run Tryz.prog (w.iter s pos) = _ := fun ty => run_next_any w s pos ty hp;rcases Xjp s pos hp with ⟨hg, h1, hn⟩ | ⟨hg, hn⟩
   ·rw [h1] at hnx;generalize (Utf8.decode s pos).1 = c at hg hnx;have N := Lib.hid hn;clear hn h1;have hg' : (97 <= (c : Int) /\ (c : Int) <= 122) \/ (pos ≠ 0 /\ 48 <= (c : Int) /\ (c : Int) <= 57) := by simpa [Xu] using hg
    clear hg
    by_cases h1 : 97 <= (c : Int) /\ (c : Int) <= 122
    ·obtain ⟨ha, hb⟩ := h1;clear hg'
     go_wp2
     go_roundw
     case rel => exact ⟨pos + 1, rfl, (N.out.symm.trans A.out)⟩
     case measure => simp; omega
    ·have hg2 : pos ≠ 0 /\ 48 <= (c : Int) /\ (c : Int) <= 57 := by omega
     obtain ⟨hp0, ha, hb⟩ := hg2;have hp1 : ((pos : Int) == 0) = false := by rw [beq_eq_false_iff_ne]; omega
     have hp2 : 0 < (pos : Int) := by omega
     clear hg' h1 hp0
     go_wp2
     all_goals go_roundw
     case rel => exact ⟨pos + 1, rfl, (N.out.symm.trans A.out)⟩
     case measure => simp; omega
   ·generalize (Utf8.decode s pos).1 = c at hg hnx;have N := Lib.hid hn;clear hn;have hg' : ¬ ((97 <= (c : Int) /\ (c : Int) <= 122) \/ (pos ≠ 0 /\ 48 <= (c : Int) /\ (c : Int) <= 57)) := by simpa [Xu] using hg
    clear hg;have hfin : nameOk s = false := by unfold nameOk; rw [<- A.out, N.out]; rfl
    have F := Lib.hid hfin;clear hfin A N;rcases (by omega : (c : Int) < 97 \/ 122 < (c : Int)) with h1 | h1
    all_goals
     by_cases hp0 : pos = 0
     ·subst hp0;clear hg'
      go_wp2
      go_ret
      exact ⟨ret_bool F.out.symm, Xdy _ _ _⟩
     ·have hp1 : ((pos : Int) == 0) = false := by rw [beq_eq_false_iff_ne]; omega
      have hp2 : 0 < (pos : Int) := by omega
      rcases (by omega : (c : Int) < 48 \/ 57 < (c : Int)) with h2 | h2
      all_goals
       clear hg' hp0
       go_wp2
       all_goals go_ret
       all_goals exact ⟨ret_bool F.out.symm, Xdy _ _ _⟩
  ·have hnx : ∀ ty, (Instr.next (.pointer (some ⟨w.heap.size, 0, none⟩)) true ty).run Tryz.prog (w.iter s pos) = _ := fun ty => run_next_end w s pos ty hp;have hfin : nameFrom s.data.toList 0 = true := by
    rw [<- A.out, List.drop_eq_nil_of_le (by simp; omega)]; rfl
   have F := Lib.hid hfin;clear hfin A
   go_wp2_with (go_at_call 134; refine (Xq7 _ _ _ _ _ rfl).mono ?_; rintro e w' ⟨rfl, hb⟩)
   go_ret
   refine ⟨ret_bool ?_, ((Xdy _ _ _).trans (hb.mono (by simp [World.iter])))⟩;unfold nameOk;rw [F.out]; simp
end Go.Proofs.YtladoaeefkpdiaaGreatDoor
namespace Go.Proofs.YtladoaeefkpdiaaGreatDoor
open Go.RowKit Bk
theorem Xlb (b : UInt8) : alpha b = true ↔ (97 <= (b.toNat : Int) /\ (b.toNat : Int) <= 122) := by
 have := Xkq b 0;simp at this;exact this
theorem Xky (b : UInt8) : digit b = true ↔ (48 <= (b.toNat : Int) /\ (b.toNat : Int) <= 57) := by
 simp only [digit, Bool.and_eq_true, decide_eq_true_eq, UInt8.le_iff_toNat_le];have : (48 : UInt8).toNat = 48 := rfl;have : (57 : UInt8).toNat = 57 := rfl;omega
theorem Xki (b : UInt8) : oob 97 122 b.toNat = !alpha b := by
 rw [Bool.eq_iff_iff]; simp only [oob, Bool.or_eq_true, decide_eq_true_eq, Bool.not_eq_true', Bool.eq_false_iff, Ne, Xlb]; omega
theorem Xkh (b : UInt8) : oob 48 57 b.toNat = !digit b := by
 rw [Bool.eq_iff_iff]; simp only [oob, Bool.or_eq_true, decide_eq_true_eq, Bool.not_eq_true', Bool.eq_false_iff, Ne, Xky]; omega
theorem Xdr (n lo hi : Int) (w : World) : Calls Tryz.prog 103 #[.int .i64 n, .int .i64 lo, .int .i64 hi] w fun e w' => e = .returned (.bool (!oob lo hi n)) /\ w = w' := by
 go_enter Tryz.func103, Tryz.ntmps103
 go_wp2
 all_goals go_ret
 all_goals exact ⟨ret_bool (by simp only [oob]; rw [Bool.eq_iff_iff]; simp; omega), rfl⟩
theorem Xda (b : UInt8) (w : World) : Calls Tryz.prog 103 #[.int .i64 (b.toNat : Int), .int .i64 97, .int .i64 122] w fun e w' => e = .returned (.bool (alpha b)) /\ w = w' := by
 have h := Xdr b.toNat 97 122 w;rw [Xki, Bool.not_not] at h; exact h
theorem Xkt (b : UInt8) (w : World) : Calls Tryz.prog 103 #[.int .i64 (b.toNat : Int), .int .i64 48, .int .i64 57] w fun e w' => e = .returned (.bool (digit b)) /\ w = w' := by
 have h := Xdr b.toNat 48 57 w;rw [Xkh, Bool.not_not] at h; exact h
set_option maxHeartbeats 1000000 in
theorem Xjr (s : ByteArray) (w : World) (hs : s.size <= 9223372036854775807) :
  Calls Tryz.prog 60 #[.string s] w fun e w' => e = .returned (.bool (nameOk s)) /\ w = w' := by
 have h16 := Xdr s.size 1 16 w
 by_cases hl : oob 1 16 s.size = true
 ·have hfin : nameOk s = false := by simp only [nameOk, hl]; simp
  rw [hl] at h16;have F := Lib.hid hfin;clear hfin hl
  go_enter Tryz.func60, Tryz.ntmps60
  go_wp2_with (go_at_call 103; refine h16.mono ?_; rintro e w' ⟨rfl, rfl⟩)
  go_ret
  exact ⟨ret_bool F.out.symm, rfl⟩
 ·simp only [Bool.not_eq_true] at hl;rw [hl] at h16;have hb : 1 <= s.size /\ s.size <= 16 := by simp only [oob, Bool.or_eq_false_iff, decide_eq_false_iff_not] at hl; omega
  obtain ⟨hb1, hb2⟩ := hb;have hpos : 0 < s.size := by omega
  have hN : nameOk s = nameFrom s.data.toList 0 := by simp [nameOk, hl]
  have HN := Lib.hid hN;clear hN hl;have h0 : nameFrom s.data.toList 0 = (alpha s[0] && nameFrom (s.data.toList.drop 1) 1) := by
   have := Xz s.data.toList 0 (by simpa using hpos);simp only [List.drop_zero] at this;rw [this];have e : s.data.toList[0]'(by simpa using hpos) = s[0] := by simp; rfl
   rw [e]; simp
  have hget : ∀ k (h : k < s.size), s.data.toList[k]'(by simpa using h) = s[k] := fun k h => by simp; rfl
  have hc0 := Xda s[0] w;have hby : (s[0].toNat : Int) <= 255 := by have := s[0].toNat_lt; omega
  cases ha : alpha s[0] with
  | false =>
   rw [ha] at h0 hc0;have F := Lib.hid (HN.out.trans h0);clear h0 hget;have Ha := Lib.hid ha;clear ha
   go_enter Tryz.func60, Tryz.ntmps60
   go_wp2_with (first | (go_at_call 103; ((with_reducible refine h16.mono ?_); rintro e w' ⟨rfl, rfl⟩)) | (go_at_call 103; ((with_reducible refine hc0.mono ?_); rintro e w' ⟨rfl, rfl⟩)))
   go_ret
   exact ⟨ret_bool F.out.symm, rfl⟩
  | true =>
   rw [ha] at h0 hc0;have H0 := Lib.hid ha;have HG := Lib.hid hget;clear h0 hget ha
   go_enter Tryz.func60, Tryz.ntmps60
   go_wp2_with (first | (go_at_call 103; ((with_reducible refine h16.mono ?_); rintro e w' ⟨rfl, rfl⟩)) | (go_at_call 103; ((with_reducible refine hc0.mono ?_); rintro e w' ⟨rfl, rfl⟩)))
   clear hc0 h16 hby
   go_loop [3] (fun i => ∃ k : Nat, k <= s.size /\ i = .int .i64 k /\ Hid (nameFrom (s.data.toList.drop k) k = nameFrom s.data.toList 0)) (fun i => s.size - (intOf i).toNat)
   case atStart => exact ⟨0, Nat.zero_le _, rfl, rfl⟩
   case round =>
    obtain ⟨k, hk, rfl, A⟩ := hrel
    by_cases hlt : k < s.size
    ·have hltz : (k : Int) < (s.size : Int) := by omega
     have hd := Xz s.data.toList k (by simpa using hlt);rw [HG.out k hlt] at hd;have h1 := Xda s[k] w;have h2 := Xkt s[k] w;have hby : (s[k].toNat : Int) <= 255 := by have := s[k].toNat_lt; omega
     have H00 : Hid (k = 0 -> alpha s[k] = true) := fun e => by subst e; exact H0.out
     cases ha : alpha s[k] with
     | true =>
      rw [ha] at hd h1;simp only [Bool.true_or, Bool.true_and] at hd;have D := Lib.hid hd;clear hd ha h2 H00
      go_wp2_with (go_at_call 103; ((with_reducible refine h1.mono ?_); rintro e w' ⟨rfl, rfl⟩))
      go_round
      case rel => exact ⟨k + 1, by omega, by go_num, D.out.symm.trans A.out⟩
      case measure => simp [intOf]; omega
     | false =>
      rw [ha] at hd h1;have hk0 : k ≠ 0 := fun e => by have := H00.out e; rw [ha] at this; cases this
      clear H00;cases hg : digit s[k] with
      | true =>
       rw [hg] at hd h2;simp only [Bool.false_or, Bool.and_true, bne_iff_ne.2 hk0, Bool.true_and] at hd;have D := Lib.hid hd;clear hd ha hg hk0
       go_wp2_with (first | (go_at_call 103; ((with_reducible refine h1.mono ?_); rintro e w' ⟨rfl, rfl⟩)) | (go_at_call 103; ((with_reducible refine h2.mono ?_); rintro e w' ⟨rfl, rfl⟩)))
       go_round
       case rel => exact ⟨k + 1, by omega, by go_num, D.out.symm.trans A.out⟩
       case measure => simp [intOf]; omega
      | false =>
       rw [hg] at hd h2;simp only [Bool.false_or, Bool.and_false, Bool.false_and] at hd;have D := Lib.hid hd;clear hd ha hg hk0
       go_wp2_with (first | (go_at_call 103; ((with_reducible refine h1.mono ?_); rintro e w' ⟨rfl, rfl⟩)) | (go_at_call 103; ((with_reducible refine h2.mono ?_); rintro e w' ⟨rfl, rfl⟩)))
       go_ret
       exact ⟨ret_bool (by rw [HN.out, <- A.out, D.out]), rfl⟩
    ·go_wp2
     go_ret
     refine ⟨ret_bool ?_, rfl⟩;rw [HN.out, <- A.out, List.drop_eq_nil_of_le (by simp; omega)]; rfl
end Go.Proofs.YtladoaeefkpdiaaGreatDoor
namespace Go.Proofs.YtladoaeefkpdiaaGreatDoor
open Go.RowKit
abbrev Xbj (f : ByteArray -> Bool) (ds : DS) : DS := match ds with | [[.s s]] => [[.b (f s)]] | _ => []
abbrev Xbr (f : ByteArray -> Prop) (ds : DS) : Prop := match ds with | [[.s s]] => f s | _ => False
theorem Xjz {P : Program} {g : Nat} {pre : ByteArray -> Prop} {f : ByteArray -> Bool} (h : ∀ s w, pre s -> Calls P g #[.string s] w fun e w' => e = .returned (.bool (f s)) /\ Below w.heap.size w w') : PureOk P g [.one .str] [(false, [.bool])] (Xbr pre) (Xbj f) := by
 intro W args ds ha hpre d hd;refine @Yqn W [.one .str] (fun args ds => Xbr pre ds -> @ACall W P g args [] false (@Y0p W d [(false, [.bool])] (Xbj f ds)) [] (@Ydu W d 0 [(false, [.bool])] (Xbj f ds))) _ _ (fun s hp => ?_) ha hpre;intro φ w0 M R w hnew hS;refine (h s w hp).mono fun e w' ⟨he, hb⟩ => ⟨φ, fun i _ => rfl, he, ?_⟩;simpa [Yh, Ydu, Ybn, RTy.hp] using hS.ext hb
theorem Xqq : PureOk Tryz.prog 121 [.one .str] [(false, [.bool])] (Xbr fun _ => True) (Xbj Bk.nameOk) := Xjz fun s w _ => Xk3 s w
theorem Xpq : PureOk Tryz.prog 60 [.one .str] [(false, [.bool])] (Xbr fun s => s.size <= 9223372036854775807) (Xbj Bk.nameOk) := Xjz fun s w hs => (Xjr s w hs).mono fun e w' ⟨he, hw⟩ => ⟨he, hw ▸ Below.refl _ _⟩
def Xgv : PC Tryz.prog := ⟨121, [.one .str], [(false, [.bool])], Xbr fun _ => True, Xbj Bk.nameOk, Xqq⟩
def Xcl : PC Tryz.prog := ⟨60, [.one .str], [(false, [.bool])], Xbr fun s => s.size <= 9223372036854775807, Xbj Bk.nameOk, Xpq⟩
set_option maxRecDepth 100000
namespace Sp
def inr (n lo hi : Int) : Bool := decide (lo <= n) && decide (n <= hi)
def Small (n : Int) : Prop := -1000000000000000 <= n /\ n <= 1000000000000000
def outs (lo hi : Int) (xs : Dt) : Nat -> Nat -> Bool
 | _, 0 => false
 | i, n + 1 => !inr (cel xs i 0).int lo hi || outs lo hi xs (i + 1) n
def out (lo hi : Int) (xs : Dt) : Bool := outs lo hi xs 0 xs.length
def outI (lo hi : Int) (xs : Dt) : Nat -> Nat -> Nat
 | i, 0 => i
 | i, n + 1 => if inr (cel xs i 0).int lo hi = true then outI lo hi xs (i + 1) n else i
def lev (n : Int) : Int := max 0 (min 1000 n)
def spanE (lo hi low high : Int) : Int := if inr lo low high && inr hi low high then (if hi < lo then 2 else 0) else 7
def bhLo (hi mark : Int) : Int := if mark = 0 then 0 else max 0 (mark - hi)
def bhHi (lo mark : Int) : Int := if mark = 1000 then 1000 else min 1000 (mark - lo)
end Sp
def T0 : Tab Tryz.prog := ⟨[], [], []⟩
def Xvc [W : InW] (n lo hi : Int) (Q : DS -> Prop) : Prop :=
 Vif (decide (lo <= n)) (Q [[Cl.b (decide (n <= hi))]]) (Q [[Cl.b false]])
theorem vc_in (W : InW) (n lo hi Q) : Yzs (cxT Tryz.prog TT T0 1000 50) 1000 17 [.si .i64 n, .si .i64 lo, .si .i64 hi] [] 0 (Y4g [(false, [.bool])] Q) (fun _ _ _ _ => Stuck 421) = Xvc n lo hi Q := by kernel_rfl
abbrev Xla : List AT := [.one (.int .i64), .one (.int .i64), .one (.int .i64)]
theorem ok_in {pre : DS -> Prop} {res : DS -> DS} (hyp_ : ∀ (W : InW) (n lo hi : Int), pre [[.i n], [.i lo], [.i hi]] -> ∀ Q : DS -> Prop, Q (res [[.i n], [.i lo], [.i hi]]) -> Xvc n lo hi Q) : PureOk Tryz.prog 17 Xla [(false, [.bool])] pre res :=
 PureOk.of' (fun W => @TT W) (fun W => @Xc W) Xa T0 1000 50 fun W n lo hi hp =>
  (vc_in W n lo hi (fun o => o = res [[.i n], [.i lo], [.i hi]])).mpr (hyp_ W n lo hi hp _ rfl)
abbrev Xgq (ds : DS) : DS := match ds with | [[.i n], [.i lo], [.i hi]] => [[.b (Sp.inr n lo hi)]] | _ => []
theorem okin : PureOk Tryz.prog 17 Xla [(false, [.bool])] (fun _ => True) Xgq :=
 ok_in fun W n lo hi _ Q h => vif (fun e => by simpa [Xgq, Sp.inr, e] using h) fun e => by simpa [Xgq, Sp.inr, e] using h
def Xmu : PC Tryz.prog := ⟨17, Xla, [(false, [.bool])], fun _ => True, Xgq, okin⟩
def Xf3 [InW] (e : List Ed) (K : Nat -> List Ed -> Prop) : Prop := match e with
 | [.ro _ xs, .i n, .i i, .i lo, .i hi] => Pre (n = xs.xs.length /\ 0 <= i /\ i <= n) (Vif (Sp.outs lo hi xs.xs i.toNat (xs.xs.length - i.toNat)) (K 1 [.i (Sp.outI lo hi xs.xs i.toNat (xs.xs.length - i.toNat)), .i lo, .i hi]) (K 0 [.i lo, .i hi]))
 | _ => False
def Xid : LC where
 len := 19
 T := [(0, .rs Jc), (1, (.fn (.func 106) [] [(.ptr 1 0), (.ptr 4 0)])), (7, .int .i64), (8, .int .i64)]
 H := [(1, .blk 3 [.int .i64]), (4, .blk 3 [.int .i64])]
 W := ([4, 5] ++ rgg 9 10)
 outs := [⟨.exit 0, [(1, (.fn (.func 106) [] [(.ptr 1 0), (.ptr 4 0)]))], [(1, .blk 3 [.int .i64]), (4, .blk 3 [.int .i64])], ([0, 4, 5] ++ rgg 7 12)⟩, ⟨.ret, [(1, (.fn (.func 106) [] [(.ptr 1 0), (.ptr 4 0)])), (4, .int .i64)], [(1, .blk 3 [.int .i64]), (4, .blk 3 [.int .i64])], ([0, 5] ++ rgg 7 12)⟩]
 spec := Xf3
def Xe3 [W : InW] (xs : Ro Jc) (n i lo hi : Int) (A : List Ed -> Prop) (K : Nat -> List Ed -> Prop) : Prop :=
 Vif (decide (i < n)) (Need (decide (0 <= i) && decide (i < (↑(xs.xs.length) : Int))) (Need (decide (i.toNat < xs.xs.length)) (Vif (decide ((cel xs.xs i.toNat (0 : Nat)).int < lo)) (K (0+1) [.i i, .i lo, .i hi]) (Vif (decide (hi < (cel xs.xs i.toNat (0 : Nat)).int)) (K (0+1) [.i i, .i lo, .i hi]) (Ar .i64 (i + 1) fun z => A [.ro _ xs, .i n, .i z, .i lo, .i hi]))))) (K 0 [.i lo, .i hi])
theorem Xon (W : InW) (xs n i lo hi A K) : Ygb { cxT Tryz.prog TT T0 1000 50 with fn := 126 } 1000 (Ypx Tryz.prog 126 3) (Yeo 19 [(0, .rs _ xs), (1, .fn (.func 106) [] [.ptr 1 0, .ptr 4 0]), (7, .si .i64 n), (8, .si .i64 i)] ([4, 5] ++ rgg 9 10)) [(1, .blk 3 [.si .i64 lo]), (4, .blk 3 [.si .i64 hi])] (Yw5 Xid A K) = Xe3 xs n i lo hi A K := by kernel_rfl
def Xhe : Prop := ∀ (W : InW) (body a : Code), (Tryz.prog.funcs[126]?).bind (·.body) = some body -> a ∈ Y1 body -> Yg1 a = 3 -> @Yod W Tryz.prog a (@Yv5 W Xid)
theorem Xp8 (meas : [InW] -> List Ed -> Nat) (hyp_ : ∀ (W : InW) xs n i lo hi K, Xf3 [.ro _ xs, .i n, .i i, .i lo, .i hi] K -> ∀ A : List Ed -> Prop, (∀ e, meas e < meas [.ro _ xs, .i n, .i i, .i lo, .i hi] -> Xf3 e K -> A e) -> Xe3 xs n i lo hi A K) : Xhe :=
 LE.okOf' (fun W => @TT W) (fun W => @Xc W) Xa T0 1000 50 (by kernel_rfl) Xid (fun W => @meas W) fun W xs n i lo hi K hs =>
  (Xon W xs n i lo hi (fun e => meas e < meas [.ro _ xs, .i n, .i i, .i lo, .i hi] /\ Xf3 e K) K).mpr (hyp_ W xs n i lo hi K hs _ fun e h1 h2 => ⟨h1, h2⟩)
theorem Xtr : Xhe := Xp8 (fun e => match e with | .ro _ xs :: .i n :: .i i :: _ => (n - i).toNat | _ => 0) fun W xs n i lo hi K hs A hA => by
 obtain ⟨⟨rfl, h0, h1⟩, hk⟩ := hs;unfold Xe3;have hm := xs.len;simp only [maxLen] at hm;refine vifd (fun e => ?_) fun e => ?_
 ·rw [show xs.xs.length - i.toNat = (xs.xs.length - (i.toNat + 1)) + 1 by omega] at hk;have hc : (cel xs.xs i.toNat 0).int < lo \/ hi < (cel xs.xs i.toNat 0).int -> K 1 [.i i, .i lo, .i hi] := fun h => by
   have hf : Sp.inr (cel xs.xs i.toNat 0).int lo hi = false := by simp only [Sp.inr, Bool.and_eq_false_iff, decide_eq_false_iff_not]; omega
   have := hk.1 (by simp [Sp.outs, hf]);unfold Sp.outI at this;rw [if_neg (by simp [hf]), Int.toNat_of_nonneg h0] at this;exact this
  refine ned (by simp; omega) (nedd (by omega) (vifd (fun e2 => hc (.inl e2)) fun e2 => vifd (fun e3 => hc (.inr e3)) fun e3 => ar64 (by omega) (hA _ ?_ ?_)))
  ·show ((xs.xs.length : Int) - (i + 1)).toNat < ((xs.xs.length : Int) - i).toNat
   omega
  ·have hf : Sp.inr (cel xs.xs i.toNat 0).int lo hi = true := by simp only [Sp.inr, Bool.and_eq_true, decide_eq_true_eq]; omega
   refine ⟨⟨rfl, by omega, by omega⟩, ?_⟩;rw [show (i + 1).toNat = i.toNat + 1 by omega];simp only [Sp.outs, hf, Bool.not_true, Bool.false_or, Sp.outI, if_true] at hk;exact hk
 ·rw [show xs.xs.length - i.toNat = 0 by omega] at hk;exact hk.2 rfl
def Xup : LE Tryz.prog := ⟨126, 3, fun W => @Yv5 W Xid, Xtr⟩
def T12 : Tab Tryz.prog := ⟨T0.pcs, [Xup], []⟩
def Xlk [W : InW] (lo hi : Int) (xs : Ro Jc) (Q : DS -> Prop) : Prop :=
 Pre ((↑(xs.xs.length) : Int) = (↑(xs.xs.length) : Int) /\ (0 : Int) <= 0 /\ (0 : Int) <= (↑(xs.xs.length) : Int)) (Vif (Sp.outs lo hi xs.xs (Int.toNat (0 : Int)) (xs.xs.length - Int.toNat (0 : Int))) (Q [[Cl.b (decide ((0 : Int) <= (↑(Sp.outI lo hi xs.xs (Int.toNat (0 : Int)) (xs.xs.length - Int.toNat (0 : Int))) : Int)))]]) (Q [[Cl.b false]]))
theorem Xro (W : InW) (lo hi xs Q) : Yzs (cxT Tryz.prog TT T12 1000 50) 1000 63 [.si .i64 lo, .si .i64 hi, .rs _ xs] [] 0 (Y4g [(false, [.bool])] Q) (fun _ _ _ _ => Stuck 421) = Xlk lo hi xs Q := by kernel_rfl
abbrev Xd8 : List AT := [.one (.int .i64), .one (.int .i64), .one (.sl Jc)]
theorem Xsy {pre : DS -> Prop} {res : DS -> DS} (hyp_ : ∀ (W : InW) (lo hi : Int) (xs : Ro Jc), pre [[.i lo], [.i hi], [.l xs.xs]] -> ∀ Q : DS -> Prop, Q (res [[.i lo], [.i hi], [.l xs.xs]]) -> Xlk lo hi xs Q) : PureOk Tryz.prog 63 Xd8 [(false, [.bool])] pre res :=
 PureOk.of' (fun W => @TT W) (fun W => @Xc W) Xa T12 1000 50 fun W lo hi xs hp =>
  (Xro W lo hi xs (fun o => o = res [[.i lo], [.i hi], [.l xs.xs]])).mpr (hyp_ W lo hi xs hp _ rfl)
abbrev Xdi (ds : DS) : DS := match ds with | [[.i lo], [.i hi], [.l xs]] => [[.b (Sp.out lo hi xs)]] | _ => []
theorem okout : PureOk Tryz.prog 63 Xd8 [(false, [.bool])] (fun _ => True) Xdi :=
 Xsy fun W lo hi xs _ Q h => by
  unfold Xlk;simp only [Xdi, Sp.out] at h;rw [show Int.toNat 0 = 0 from rfl, Nat.sub_zero];refine ⟨⟨rfl, by omega, by omega⟩, vif (fun e => ?_) fun e => ?_⟩
  ·rw [e] at h;rw [decide_eq_true (by omega)];exact h
  ·rw [e] at h;exact h
theorem out1 (lo hi n : Int) : Sp.out lo hi [[Cl.i n]] = !Sp.inr n lo hi := by simp [Sp.out, Sp.outs, cel, Cl.int]
theorem out2 (lo hi n m : Int) : Sp.out lo hi [[Cl.i n], [Cl.i m]] = (!Sp.inr n lo hi || !Sp.inr m lo hi) := by simp [Sp.out, Sp.outs, cel, Cl.int]
theorem out4 (lo hi n m k l : Int) : Sp.out lo hi [[Cl.i n], [Cl.i m], [Cl.i k], [Cl.i l]] = (!Sp.inr n lo hi || (!Sp.inr m lo hi || (!Sp.inr k lo hi || !Sp.inr l lo hi))) := by simp [Sp.out, Sp.outs, cel, Cl.int]
def Xgt : PC Tryz.prog := ⟨63, Xd8, [(false, [.bool])], fun _ => True, Xdi, okout⟩
def T1 : Tab Tryz.prog := ⟨[Xmu, Xgt], [], []⟩
def Xcx [W : InW] (s_Lo s_Hi lo hi : Int) (Q : DS -> Prop) : Prop :=
 Pre True (Vif (!Sp.inr s_Lo lo hi) (Q [[Cl.i 7]]) (Pre True (Vif (!Sp.inr s_Hi lo hi) (Q [[Cl.i 7]]) (Vif (decide (s_Hi < s_Lo)) (Q [[Cl.i 2]]) (Q [[Cl.i 0]])))))
theorem Xl8 (W : InW) (s_Lo s_Hi lo hi Q) : Yzs (cxT Tryz.prog TT T1 1000 50) 1000 19 [.agg [.si .i64 s_Lo, .si .i64 s_Hi], .si .i64 lo, .si .i64 hi] [] 0 (Y4g [(false, [.int .i64])] Q) (fun _ _ _ _ => Stuck 421) = Xcx s_Lo s_Hi lo hi Q := by kernel_rfl
abbrev Xb7 : List AT := [.agg [.int .i64, .int .i64], .one (.int .i64), .one (.int .i64)]
theorem Xmz {pre : DS -> Prop} {res : DS -> DS} (hyp_ : ∀ (W : InW) (s_Lo s_Hi lo hi : Int), pre [[.i s_Lo, .i s_Hi], [.i lo], [.i hi]] -> ∀ Q : DS -> Prop, Q (res [[.i s_Lo, .i s_Hi], [.i lo], [.i hi]]) -> Xcx s_Lo s_Hi lo hi Q) : PureOk Tryz.prog 19 Xb7 [(false, [.int .i64])] pre res :=
 PureOk.of' (fun W => @TT W) (fun W => @Xc W) Xa T1 1000 50 fun W s_Lo s_Hi lo hi hp =>
  (Xl8 W s_Lo s_Hi lo hi (fun o => o = res [[.i s_Lo, .i s_Hi], [.i lo], [.i hi]])).mpr (hyp_ W s_Lo s_Hi lo hi hp _ rfl)
def Xll [W : InW] (s_Lo s_Hi lo hi : Int) (Q : DS -> Prop) : Prop :=
 Pre True (Vif (Sp.out lo hi [[Cl.i s_Lo], [Cl.i s_Hi]]) (Q [[Cl.i 7]]) (Vif (decide (s_Hi < s_Lo)) (Q [[Cl.i 2]]) (Q [[Cl.i 0]])))
theorem Xrp (W : InW) (s_Lo s_Hi lo hi Q) : Yzs (cxT Tryz.prog TT T1 1000 50) 1000 131 [.agg [.si .i64 s_Lo, .si .i64 s_Hi], .si .i64 lo, .si .i64 hi] [] 0 (Y4g [(false, [.int .i64])] Q) (fun _ _ _ _ => Stuck 421) = Xll s_Lo s_Hi lo hi Q := by kernel_rfl
abbrev Xd9 : List AT := [.agg [.int .i64, .int .i64], .one (.int .i64), .one (.int .i64)]
theorem Xsz {pre : DS -> Prop} {res : DS -> DS} (hyp_ : ∀ (W : InW) (s_Lo s_Hi lo hi : Int), pre [[.i s_Lo, .i s_Hi], [.i lo], [.i hi]] -> ∀ Q : DS -> Prop, Q (res [[.i s_Lo, .i s_Hi], [.i lo], [.i hi]]) -> Xll s_Lo s_Hi lo hi Q) : PureOk Tryz.prog 131 Xd9 [(false, [.int .i64])] pre res :=
 PureOk.of' (fun W => @TT W) (fun W => @Xc W) Xa T1 1000 50 fun W s_Lo s_Hi lo hi hp =>
  (Xrp W s_Lo s_Hi lo hi (fun o => o = res [[.i s_Lo, .i s_Hi], [.i lo], [.i hi]])).mpr (hyp_ W s_Lo s_Hi lo hi hp _ rfl)
abbrev Xbd (ds : DS) : DS := match ds with | [[.i a, .i b], [.i lo], [.i hi]] => [[.i (Sp.spanE a b lo hi)]] | _ => []
theorem Xpp : PureOk Tryz.prog 19 Xb7 [(false, [.int .i64])] (fun _ => True) Xbd :=
 Xmz fun W a b lo hi _ Q h => by
  unfold Xcx;simp only [Xbd, Sp.spanE] at h;refine ⟨trivial, vif (fun e => ?_) fun e => ⟨trivial, vif (fun e2 => ?_) fun e2 => vif (fun e3 => ?_) fun e3 => ?_⟩⟩
  all_goals ((repeat' split at h) <;> first | exact h | omega | (simp_all; done) | (simp_all; omega))
theorem okodd : PureOk Tryz.prog 131 Xd9 [(false, [.int .i64])] (fun _ => True) Xbd :=
 Xsz fun W a b lo hi _ Q h => by
  unfold Xll;simp only [Xbd, Sp.spanE] at h;simp only [out2];refine ⟨trivial, vif (fun e => ?_) fun e => vif (fun e2 => ?_) fun e2 => ?_⟩
  all_goals ((repeat' split at h) <;> first | exact h | omega | (simp_all; done) | (simp_all; omega))
def Xmr : PC Tryz.prog := ⟨19, Xb7, [(false, [.int .i64])], fun _ => True, Xbd, Xpp⟩
def Xsc : PC Tryz.prog := ⟨131, Xd9, [(false, [.int .i64])], fun _ => True, Xbd, okodd⟩
def Xlo [W : InW] (n : Int) (Q : DS -> Prop) : Prop :=
 Q [[Cl.i (max (0 : Int) (min n (1000 : Int)))]]
theorem Xrs (W : InW) (n Q) : Yzs (cxT Tryz.prog TT T1 1000 50) 1000 61 [.si .i64 n] [] 0 (Y4g [(false, [.int .i64])] Q) (fun _ _ _ _ => Stuck 421) = Xlo n Q := by kernel_rfl
abbrev Xec : List AT := [.one (.int .i64)]
theorem Xs2 {pre : DS -> Prop} {res : DS -> DS} (hyp_ : ∀ (W : InW) (n : Int), pre [[.i n]] -> ∀ Q : DS -> Prop, Q (res [[.i n]]) -> Xlo n Q) : PureOk Tryz.prog 61 Xec [(false, [.int .i64])] pre res :=
 PureOk.of' (fun W => @TT W) (fun W => @Xc W) Xa T1 1000 50 fun W n hp =>
  (Xrs W n (fun o => o = res [[.i n]])).mpr (hyp_ W n hp _ rfl)
abbrev Xdl (ds : DS) : DS := match ds with | [[.i n]] => [[.i (Sp.lev n)]] | _ => []
theorem oklev : PureOk Tryz.prog 61 Xec [(false, [.int .i64])] (fun _ => True) Xdl :=
 Xs2 fun W n _ Q h => by
  unfold Xlo;have e : max 0 (min n 1000) = Sp.lev n := by unfold Sp.lev; omega
  simpa [Xdl, e] using h
def Xkd : PC Tryz.prog := ⟨61, Xec, [(false, [.int .i64])], fun _ => True, Xdl, oklev⟩
def T2 : Tab Tryz.prog := ⟨[Xmu, Xgt, Xkd], [], []⟩
abbrev Xcd (ds : DS) : Prop := match ds with | [[.i a, .i b], [.i n]] => Sp.Small a /\ Sp.Small b /\ Sp.Small n | _ => False
def Xca [W : InW] (s_Lo s_Hi n : Int) (Q : DS -> Prop) : Prop :=
 Ar .i64 (n - s_Hi) fun z => Ar .i64 (n - s_Lo) fun z_1 => Vif (decide (n = 0)) (Vif (decide (n = 1000)) (Q [[Cl.i 0, Cl.i 1000]]) (Q [[Cl.i 0, Cl.i (min (1000 : Int) z_1)]])) (Vif (decide (n = 1000)) (Q [[Cl.i (max (0 : Int) z), Cl.i 1000]]) (Q [[Cl.i (max (0 : Int) z), Cl.i (min (1000 : Int) z_1)]]))
theorem Xjj (W : InW) (s_Lo s_Hi n Q) : Yzs (cxT Tryz.prog TT T2 1000 50) 1000 59 [.agg [.si .i64 s_Lo, .si .i64 s_Hi], .si .i64 n] [] 0 (Y4g [(true, [.int .i64, .int .i64])] Q) (fun _ _ _ _ => Stuck 421) = Xca s_Lo s_Hi n Q := by kernel_rfl
abbrev Xbu : List AT := [.agg [.int .i64, .int .i64], .one (.int .i64)]
theorem Xkk {pre : DS -> Prop} {res : DS -> DS} (hyp_ : ∀ (W : InW) (s_Lo s_Hi n : Int), pre [[.i s_Lo, .i s_Hi], [.i n]] -> ∀ Q : DS -> Prop, Q (res [[.i s_Lo, .i s_Hi], [.i n]]) -> Xca s_Lo s_Hi n Q) : PureOk Tryz.prog 59 Xbu [(true, [.int .i64, .int .i64])] pre res :=
 PureOk.of' (fun W => @TT W) (fun W => @Xc W) Xa T2 1000 50 fun W s_Lo s_Hi n hp =>
  (Xjj W s_Lo s_Hi n (fun o => o = res [[.i s_Lo, .i s_Hi], [.i n]])).mpr (hyp_ W s_Lo s_Hi n hp _ rfl)
abbrev Xbp (ds : DS) : DS := match ds with | [[.i a, .i b], [.i n]] => [[.i (Sp.bhLo b n), .i (Sp.bhHi a n)]] | _ => []
theorem Xmw : PureOk Tryz.prog 59 Xbu [(true, [.int .i64, .int .i64])] Xcd Xbp :=
 Xkk fun W a b n hp Q h => by
  obtain ⟨h1, h2, h3⟩ := hp;simp only [Sp.Small] at h1 h2 h3;unfold Xca;simp only [Xbp, Sp.bhLo, Sp.bhHi] at h;refine ar64 (by omega) (ar64 (by omega) (vifd (fun e => vifd (fun e2 => ?_) fun e2 => ?_) fun e => vifd (fun e2 => ?_) fun e2 => ?_))
  all_goals ((repeat' split at h) <;> first | exact h | omega | (simp_all; done) | (simp_all; omega))
def Xc8 : PC Tryz.prog := ⟨59, Xbu, [(true, [.int .i64, .int .i64])], Xcd, Xbp, Xmw⟩
set_option maxHeartbeats 1600000
abbrev Xw : List Ty := [.str, .int .i64, .int .i64, .int .i64, .int .i64]
abbrev Xx : List Ty := [.str, .int .i64, .int .i64]
namespace Sp
def nm (xs : Dt) (i : Nat) : ByteArray := (cel xs i 0).str
def dup (xs : Dt) (name : ByteArray) : Nat -> Nat -> Bool
 | _, 0 => false
 | k, n + 1 => eqS (nm xs k) name || dup xs name (k + 1) n
def dupI (xs : Dt) (name : ByteArray) : Nat -> Nat -> Nat
 | k, 0 => k
 | k, n + 1 => if eqS (nm xs k) name = true then k else dupI xs name (k + 1) n
def NamesOk (xs : Dt) : Prop := ∀ i : Nat, (nm xs i).size <= 9223372036854775807
def nameErr (xs : Dt) (i : Nat) : Int := if Bk.nameOk (nm xs i) then (if dup xs (nm xs i) 0 i then 5 else 0) else 6
def gLo (sk : Dt) (i : Nat) : Int := (cel sk i 1).int
def gHi (sk : Dt) (i : Nat) : Int := (cel sk i 2).int
def fLo (sk : Dt) (i : Nat) : Int := (cel sk i 3).int
def fHi (sk : Dt) (i : Nat) : Int := (cel sk i 4).int
def bLo (is : Dt) (i : Nat) : Int := (cel is i 1).int
def bHi (is : Dt) (i : Nat) : Int := (cel is i 2).int
def skErr (sk : Dt) (i : Nat) : Int :=
 if nameErr sk i = 0 then
  (if inr (gLo sk i) 0 1000 && (inr (gHi sk i) 0 1000 && (inr (fLo sk i) 0 1000 && inr (fHi sk i) 0 1000)) then (if gHi sk i < gLo sk i \/ fHi sk i < fLo sk i then 2 else 0) else 7)
 else nameErr sk i
def inErr (is : Dt) (i : Nat) : Int := if nameErr is i = 0 then spanE (bLo is i) (bHi is i) (-300) 300 else nameErr is i
def hasE (f : Nat -> Int) : Nat -> Nat -> Bool
 | _, 0 => false
 | i, n + 1 => !decide (f i = 0) || hasE f (i + 1) n
def idxE (f : Nat -> Int) : Nat -> Nat -> Nat
 | i, 0 => i
 | i, n + 1 => if f i = 0 then idxE f (i + 1) n else i
def check (sk is : Dt) : Int × Int × Int :=
 if !(inr sk.length 1 5) || decide (6 < (is.length : Int)) then (1, 0, 3)
 else if hasE (skErr sk) 0 sk.length then (2, idxE (skErr sk) 0 sk.length, skErr sk (idxE (skErr sk) 0 sk.length))
 else if hasE (inErr is) 0 is.length then (3, idxE (inErr is) 0 is.length, inErr is (idxE (inErr is) 0 is.length))
 else (0, 0, 0)
def chkP (sk is : Dt) : Int := (check sk is).1
def chkI (sk is : Dt) : Int := (check sk is).2.1
def chkE (sk is : Dt) : Int := (check sk is).2.2
def names (xs : Dt) (i : Nat) : Dt := (xs.take i).map fun r => [.s (r.getD 0 .z).str]
end Sp
theorem Xjc [InW] {f : Nat -> Int} {i n : Nat} {K1 : Nat -> Int -> Prop} {K0 : Prop} (h : Vif (Sp.hasE f i (n + 1)) (K1 (Sp.idxE f i (n + 1)) (f (Sp.idxE f i (n + 1)))) K0) :
  (f i ≠ 0 -> K1 i (f i)) /\ (f i = 0 -> Vif (Sp.hasE f (i + 1) n) (K1 (Sp.idxE f (i + 1) n) (f (Sp.idxE f (i + 1) n))) K0) := by
 simp only [Sp.hasE, Sp.idxE] at h;refine ⟨fun e => ?_, fun e => ?_⟩
 ·have := h.1 (by simp [e]);simpa [e] using this
 ·simpa [e] using h
theorem Xb0 {xs : Dt} {i k m : Nat} (h : i < m) : cel (xs.take m) i k = cel xs i k := by
 simp [cel, List.getElem?_take, h]
theorem Xbz {xs : Dt} {name : ByteArray} {m : Nat} : ∀ (n k : Nat), k + n <= m -> Sp.dup (xs.take m) name k n = Sp.dup xs name k n
 | 0, _, _ => rfl
 | n + 1, k, h => by
  have h1 := @Xbz xs name m n (k + 1) (by omega);simp only [Sp.dup, Sp.nm, Xb0 (show k < m by omega), h1]
theorem Xe {xs : Dt} {i : Nat} (h : i <= xs.length) : (Sp.names xs i).length = i := by simp [Sp.names]; omega
theorem Xbe {xs : Dt} {i : Nat} (h : i < xs.length) : Sp.names xs i ++ [[.s (Sp.nm xs i)]] = Sp.names xs (i + 1) := by
 unfold Sp.names;rw [List.take_succ_eq_append_getElem h, List.map_append];simp only [List.map_cons, List.map_nil, Sp.nm, cel, List.getD_eq_getElem?_getD, List.getElem?_eq_getElem h, Option.getD_some]
theorem Xhw {xs : Dt} {i k : Nat} (h : k < i) (hi : i <= xs.length) : Sp.nm (Sp.names xs i) k = Sp.nm xs k := by
 have hk : k < xs.length := by omega
 simp [Sp.nm, Sp.names, cel, List.getElem?_take, h, List.getElem?_eq_getElem hk, Cl.str]
theorem Xdb {xs : Dt} {name : ByteArray} {m : Nat} (hm : m <= xs.length) : ∀ (n k : Nat), k + n <= m -> Sp.dup (Sp.names xs m) name k n = Sp.dup xs name k n
 | 0, _, _ => rfl
 | n + 1, k, h => by
  have h1 := @Xdb xs name m hm n (k + 1) (by omega);simp only [Sp.dup, Xhw (show k < m by omega) hm, h1]
def T3 : Tab Tryz.prog := ⟨[Xmu, Xgt, Xmr, Xsc, Xgv, Xcl], [], []⟩
def Xft [InW] (e : List Ed) (K : Nat -> List Ed -> Prop) : Prop := match e with
 | [.s name, .ro _ xs, .i k] => Pre (0 <= k /\ k <= xs.xs.length) (Vif (Sp.dup xs.xs name k.toNat (xs.xs.length - k.toNat)) (K 1 []) (K 0 []))
 | _ => False
def Xh3 : LC where
 len := 21
 T := [(0, .str), (1, .rs Jd), (5, .int .i64)]
 H := []
 W := ([4] ++ rgg 9 12)
 outs := [⟨.exit 0, [], [], ([0, 1, 4, 5] ++ rgg 9 12)⟩, ⟨.ret, [(4, (.lit (.int .i64 5)))], [], ([0, 1, 5] ++ rgg 9 12)⟩]
 spec := Xft
def Xet [W : InW] (name : ByteArray) (xs : Ro Jd) (k : Int) (A : List Ed -> Prop) (K : Nat -> List Ed -> Prop) : Prop :=
 Vif (decide (k < (↑(xs.xs.length) : Int))) (Need (decide (0 <= k) && decide (k < (↑(xs.xs.length) : Int))) (Need (decide (k.toNat < xs.xs.length)) (Vif (eqS (cel xs.xs k.toNat (0 : Nat)).str name) (K (0+1) []) (Ar .i64 (k + 1) fun z => A [.s name, .ro _ xs, .i z])))) (K 0 [])
theorem Xod (W : InW) (name xs k A K) : Ygb { cxT Tryz.prog TT T3 1000 50 with fn := 18 } 1000 (Ypx Tryz.prog 18 5) (Yeo 21 [(0, .ss name), (1, .rs _ xs), (5, .si .i64 k)] ([4] ++ rgg 9 12)) [] (Yw5 Xh3 A K) = Xet name xs k A K := by kernel_rfl
def Xg4 : Prop := ∀ (W : InW) (body a : Code), (Tryz.prog.funcs[18]?).bind (·.body) = some body -> a ∈ Y1 body -> Yg1 a = 5 -> @Yod W Tryz.prog a (@Yv5 W Xh3)
theorem Xpy (meas : [InW] -> List Ed -> Nat) (hyp_ : ∀ (W : InW) name xs k K, Xft [.s name, .ro _ xs, .i k] K -> ∀ A : List Ed -> Prop, (∀ e, meas e < meas [.s name, .ro _ xs, .i k] -> Xft e K -> A e) -> Xet name xs k A K) : Xg4 :=
 LE.okOf' (fun W => @TT W) (fun W => @Xc W) Xa T3 1000 50 (by kernel_rfl) Xh3 (fun W => @meas W) fun W name xs k K hs =>
  (Xod W name xs k (fun e => meas e < meas [.s name, .ro _ xs, .i k] /\ Xft e K) K).mpr (hyp_ W name xs k K hs _ fun e h1 h2 => ⟨h1, h2⟩)
theorem Xth : Xg4 := Xpy (fun e => match e with | [_, .ro _ xs, .i k] => (xs.xs.length - k).toNat | _ => 0) fun W name xs k K hs A hA => by
 obtain ⟨⟨h0, h1⟩, hk⟩ := hs;unfold Xet;have hm := xs.len;simp only [maxLen] at hm;refine vifd (fun e => ned (by simp; omega) (nedd (by omega) (vif (fun e2 => ?_) fun e2 => ar64 (by omega) (hA _ ?_ ?_)))) fun e => ?_
 ·refine hk.1 ?_;rw [show xs.xs.length - k.toNat = (xs.xs.length - (k.toNat + 1)) + 1 by omega];simp only [Sp.dup, Sp.nm, e2, Bool.true_or]
 ·show (xs.xs.length - (k + 1)).toNat < (xs.xs.length - k).toNat
  omega
 ·refine ⟨⟨by omega, by omega⟩, ?_⟩;rw [show xs.xs.length - k.toNat = (xs.xs.length - (k.toNat + 1)) + 1 by omega] at hk;simp only [Sp.dup, Sp.nm, e2, Bool.false_or] at hk;rw [show (k + 1).toNat = k.toNat + 1 by omega];exact hk
 ·refine hk.2 ?_;rw [show xs.xs.length - k.toNat = 0 by omega];rfl
def Xuf : LE Tryz.prog := ⟨18, 5, fun W => @Yv5 W Xh3, Xth⟩
def T4 : Tab Tryz.prog := ⟨T3.pcs, [Xuf], []⟩
def Xcy [W : InW] (s : ByteArray) (xs : Ro Jd) (Q : DS -> Prop) : Prop :=
 Pre (s.size <= 9223372036854775807) (Vif (!Bk.nameOk s) (Q [[Cl.i 6]]) (Pre ((0 : Int) <= 0 /\ (0 : Int) <= (↑(xs.xs.length) : Int)) (Vif (Sp.dup xs.xs s (Int.toNat (0 : Int)) (xs.xs.length - Int.toNat (0 : Int))) (Q [[Cl.i 5]]) (Q [[Cl.i 0]]))))
theorem Xl9 (W : InW) (s xs Q) : Yzs (cxT Tryz.prog TT T4 1000 50) 1000 18 [.ss s, .rs _ xs] [] 0 (Y4g [(false, [.int .i64])] Q) (fun _ _ _ _ => Stuck 421) = Xcy s xs Q := by kernel_rfl
abbrev Xb8 : List AT := [.one (.str), .one (.sl Jd)]
theorem Xm0 {pre : DS -> Prop} {res : DS -> DS} (hyp_ : ∀ (W : InW) (s : ByteArray) (xs : Ro Jd), pre [[.s s], [.l xs.xs]] -> ∀ Q : DS -> Prop, Q (res [[.s s], [.l xs.xs]]) -> Xcy s xs Q) : PureOk Tryz.prog 18 Xb8 [(false, [.int .i64])] pre res :=
 PureOk.of' (fun W => @TT W) (fun W => @Xc W) Xa T4 1000 50 fun W s xs hp =>
  (Xl9 W s xs (fun o => o = res [[.s s], [.l xs.xs]])).mpr (hyp_ W s xs hp _ rfl)
namespace Sp
def namedE (s : ByteArray) (xs : Dt) : Int := if Bk.nameOk s then (if dup xs s 0 xs.length then 5 else 0) else 6
end Sp
abbrev Xb2 (ds : DS) : DS := match ds with | [[.s s], [.l xs]] => [[.i (Sp.namedE s xs)]] | _ => []
abbrev Xc6 (ds : DS) : Prop := match ds with | [[.s s], _] => s.size <= 9223372036854775807 | _ => False
theorem Xpr : PureOk Tryz.prog 18 Xb8 [(false, [.int .i64])] Xc6 Xb2 :=
 Xm0 fun W s xs hp Q h => by
  unfold Xcy;simp only [Xb2, Sp.namedE] at h;refine ⟨hp, vif (fun e => ?_) fun e => ⟨by omega, ?_⟩⟩
  ·simp_all
  rw [show Int.toNat 0 = 0 from rfl, Nat.sub_zero];refine vif (fun e2 => ?_) fun e2 => ?_ <;> simp_all
def Xmt : PC Tryz.prog := ⟨18, Xb8, [(false, [.int .i64])], Xc6, Xb2, Xpr⟩
def T5 : Tab Tryz.prog := ⟨Xmt :: T3.pcs, [], []⟩
def Xfx [InW] (e : List Ed) (K : Nat -> List Ed -> Prop) : Prop := match e with
 | [.i i, .ro _ sk, .ro _ is, .l ns] => Pre (0 <= i /\ i <= sk.xs.length /\ sk.xs.length <= 5 /\ Sp.NamesOk sk.xs /\ ns = Sp.names sk.xs i.toNat) (Vif (Sp.hasE (Sp.skErr sk.xs) i.toNat (sk.xs.length - i.toNat))
   (K 1 [.i (Sp.idxE (Sp.skErr sk.xs) i.toNat (sk.xs.length - i.toNat)), .i (Sp.skErr sk.xs (Sp.idxE (Sp.skErr sk.xs) i.toNat (sk.xs.length - i.toNat)))]) (K 0 [.ro _ sk, .ro _ is]))
 | _ => False
def Xh7 : LC where
 len := 106
 T := [(1, (.ptr 1 0)), (5, (.row 6)), (6, .int .i64)]
 H := [(1, .blk 25 [.rs Xw, .rs Xx]), (6, .arr 9 Jd)]
 W := ([2, 3, 4] ++ rgg 7 4 ++ rgg 25 51)
 outs := [⟨.exit 0, [(1, (.ptr 1 0))], [(1, .blk 25 [.rs Xw, .rs Xx])], (rgg 2 9 ++ rgg 25 51)⟩, ⟨.ret, [(2, (.lit (.int .i64 2))), (3, .int .i64), (4, .int .i64)], [], ([1] ++ rgg 5 6 ++ rgg 25 51)⟩]
 spec := Xfx
def Zb [W : InW] (i : Int) (sk : Ro Xw) := cel sk.xs i.toNat (0 : Nat)
def Za [W : InW] (i : Int) (sk : Ro Xw) (is : Ro Xx) (ns : Dt) (A : List Ed -> Prop) (K : Nat -> List Ed -> Prop) := Vif (decide (Sp.namedE (Zb i sk).str ns = 0)) (Vif (!decide (Sp.spanE (cel sk.xs i.toNat (0+1)).int (cel sk.xs i.toNat ((0 : Nat) + 1 + 1)).int (0 : Int) (1000 : Int) = 0)) (K (0+1) [.i i, .i (2 : Int)]) (Vif (!decide (Sp.spanE (cel sk.xs i.toNat ((0 : Nat) + 1 + 1 + 1)).int (cel sk.xs i.toNat ((0 : Nat) + 1 + 1 + 1 + 1)).int (0 : Int) (1000 : Int) = 0)) (K (0+1) [.i i, .i (2 : Int)]) (Vif (!decide (Sp.namedE (Zb i sk).str ns = 0)) (K (0+1) [.i i, .i (Sp.namedE (Zb i sk).str ns)]) (Ar .i64 (i + 1) fun z => A [.i z, .ro _ sk, .ro _ is, .l (ns ++ [[Cl.s (Zb i sk).str]])])))) (Vif (!decide (Sp.namedE (Zb i sk).str ns = 0)) (K (0+1) [.i i, .i (Sp.namedE (Zb i sk).str ns)]) (Ar .i64 (i + 1) fun z => A [.i z, .ro _ sk, .ro _ is, .l (ns ++ [[Cl.s (Zb i sk).str]])]))
def Xex [W : InW] (i : Int) (sk : Ro Xw) (is : Ro Xx) (ns : Dt) (A : List Ed -> Prop) (K : Nat -> List Ed -> Prop) : Prop :=
 Vif (decide (i < (↑(sk.xs.length) : Int))) (Need (decide (0 <= i) && decide (i < (↑(sk.xs.length) : Int))) (Need (decide (i.toNat < sk.xs.length)) (Pre ((Zb i sk).str.size <= 9223372036854775807) (Need (decide ((ns.length + [[Cl.s (Zb i sk).str]].length) * 16 <= 140737488355328)) (Pre True (Pre True (Vif (decide (Sp.namedE (Zb i sk).str ns = 0)) (Vif (decide (Sp.spanE (cel sk.xs i.toNat (0+1)).int (cel sk.xs i.toNat ((0 : Nat) + 1 + 1)).int (0 : Int) (1000 : Int) = 7)) (K (0+1) [.i i, .i (7 : Int)]) (Vif (decide (Sp.spanE (cel sk.xs i.toNat ((0 : Nat) + 1 + 1 + 1)).int (cel sk.xs i.toNat ((0 : Nat) + 1 + 1 + 1 + 1)).int (0 : Int) (1000 : Int) = 7)) (K (0+1) [.i i, .i (7 : Int)]) (Za i sk is ns A K))) (Za i sk is ns A K)))))))) (K 0 [.ro _ sk, .ro _ is])
theorem Xoh (W : InW) (i sk is ns A K) : Ygb { cxT Tryz.prog TT T5 1000 50 with fn := 4 } 1000 (Ypx Tryz.prog 4 6) (Yeo 106 [(1, .ptr 1 0), (5, .rw 6), (6, .si .i64 i)] ([2, 3, 4] ++ rgg 7 4 ++ rgg 25 51)) [(1, .blk 25 [.rs _ sk, .rs _ is]), (6, .arr 9 Jd ns)] (Yw5 Xh7 A K) = Xex i sk is ns A K := by kernel_rfl
def Xg8 : Prop := ∀ (W : InW) (body a : Code), (Tryz.prog.funcs[4]?).bind (·.body) = some body -> a ∈ Y1 body -> Yg1 a = 6 -> @Yod W Tryz.prog a (@Yv5 W Xh7)
theorem Xp2 (meas : [InW] -> List Ed -> Nat) (hyp_ : ∀ (W : InW) i sk is ns K, Xfx [.i i, .ro _ sk, .ro _ is, .l ns] K -> ∀ A : List Ed -> Prop, (∀ e, meas e < meas [.i i, .ro _ sk, .ro _ is, .l ns] -> Xfx e K -> A e) -> Xex i sk is ns A K) : Xg8 :=
 LE.okOf' (fun W => @TT W) (fun W => @Xc W) Xa T5 1000 50 (by kernel_rfl) Xh7 (fun W => @meas W) fun W i sk is ns K hs =>
  (Xoh W i sk is ns (fun e => meas e < meas [.i i, .ro _ sk, .ro _ is, .l ns] /\ Xfx e K) K).mpr (hyp_ W i sk is ns K hs _ fun e h1 h2 => ⟨h1, h2⟩)
theorem Xce {xs : Dt} {i : Nat} (hi : i < xs.length) : Sp.namedE (Sp.nm xs i) (Sp.names xs i) = Sp.nameErr xs i := by
 unfold Sp.namedE Sp.nameErr;rw [Xe (by omega), Xdb (by omega) _ _ (by omega)]
theorem Xjd (sk : Dt) (i : Nat) : Sp.skErr sk i = if Sp.nameErr sk i = 0 then (if Sp.spanE (cel sk i 1).int (cel sk i 2).int 0 1000 = 7 \/ Sp.spanE (cel sk i 3).int (cel sk i 4).int 0 1000 = 7 then 7 else if Sp.spanE (cel sk i 1).int (cel sk i 2).int 0 1000 ≠ 0 \/ Sp.spanE (cel sk i 3).int (cel sk i 4).int 0 1000 ≠ 0 then 2 else 0) else Sp.nameErr sk i := by
 unfold Sp.skErr Sp.gLo Sp.gHi Sp.fLo Sp.fHi
 by_cases hn : Sp.nameErr sk i = 0
 ·rw [if_pos hn, if_pos hn];unfold Sp.spanE;generalize Sp.inr (cel sk i 1).int 0 1000 = a;generalize Sp.inr (cel sk i 2).int 0 1000 = b;generalize Sp.inr (cel sk i 3).int 0 1000 = c;generalize Sp.inr (cel sk i 4).int 0 1000 = d;cases a <;> cases b <;> cases c <;> cases d <;> simp only [Bool.and_true, Bool.and_false, Bool.false_and, Bool.true_and, if_true, if_false, Bool.false_eq_true, true_or, or_true] <;> (repeat' split) <;> first | rfl | omega
 ·rw [if_neg hn, if_neg hn]
theorem Xtl : Xg8 := Xp2 (fun e => match e with | .i i :: .ro _ sk :: _ => (sk.xs.length - i).toNat | _ => 0) fun W i sk is ns K hs A hA => by
 obtain ⟨⟨h0, h1, h5, hn, rfl⟩, hk⟩ := hs;unfold Xex;delta Za Zb;refine vifd (fun e => ?_) fun e => ?_
 ·rw [show sk.xs.length - i.toNat = (sk.xs.length - (i.toNat + 1)) + 1 by omega] at hk;obtain ⟨g1, g2⟩ := Xjc (K1 := fun j e => K 1 [.i j, .i e]) hk;rw [Int.toNat_of_nonneg h0] at g1;have ez : (i + 1).toNat = i.toNat + 1 := by omega
  have hE := Xce (xs := sk.xs) (i := i.toNat) (by omega);have hA' : Sp.skErr sk.xs i.toNat = 0 -> A [.i (i + 1), .ro _ sk, .ro _ is, .l (Sp.names sk.xs i.toNat ++ [[.s (Sp.nm sk.xs i.toNat)]])] := fun f => hA _ (by show ((sk.xs.length : Int) - (i + 1)).toNat < ((sk.xs.length : Int) - i).toNat; omega) ⟨⟨by omega, by omega, h5, hn, by rw [ez]; exact Xbe (by omega)⟩, by rw [ez]; exact g2 f⟩;have bad : ∀ n, Sp.skErr sk.xs i.toNat = n -> n ≠ 0 -> K 1 [.i i, .i n] := fun n hn h => by rw [<- hn]; exact g1 (by rw [hn]; exact h)
  have hs := hn i.toNat;have eS := Lib.hid (Xjd sk.xs i.toNat);have hlen := Xe (xs := sk.xs) (i := i.toNat) (by omega);clear g1 g2 hk hA hn;simp only [Nat.zero_add, Nat.reduceAdd, List.length_cons, List.length_nil, hlen];simp only [show (cel sk.xs i.toNat 0).str = Sp.nm sk.xs i.toNat from rfl, hE];generalize Sp.spanE (cel sk.xs i.toNat 1).int (cel sk.xs i.toNat 2).int 0 1000 = S at *;generalize Sp.spanE (cel sk.xs i.toNat 3).int (cel sk.xs i.toNat 4).int 0 1000 = T at *;generalize Sp.nameErr sk.xs i.toNat = E at *;generalize Sp.skErr sk.xs i.toNat = F at *
  repeat' (first | omega|intro _|with_reducible first|apply vifd|apply vifn|apply vifq|apply vifq0|apply vifq1|apply vifb|apply vif|apply nedd|apply ned2|apply ned|apply ar64|apply Xb|exact True.intro|assumption|rfl|apply And.intro)
  all_goals first | exact bad _ (by rw [eS.out]; (repeat' split) <;> omega) (by omega) | exact hA' (by rw [eS.out]; (repeat' split) <;> omega)
 ·rw [show sk.xs.length - i.toNat = 0 by omega] at hk;exact hk.2 rfl
def Xuj : LE Tryz.prog := ⟨4, 6, fun W => @Yv5 W Xh7, Xtl⟩
def Xfy [InW] (e : List Ed) (K : Nat -> List Ed -> Prop) : Prop := match e with
 | [.i i, .ro _ sk, .ro _ is, .l ns] => Pre (0 <= i /\ i <= is.xs.length /\ is.xs.length <= 6 /\ Sp.NamesOk is.xs /\ ns = Sp.names is.xs i.toNat) (Vif (Sp.hasE (Sp.inErr is.xs) i.toNat (is.xs.length - i.toNat))
   (K 1 [.i (Sp.idxE (Sp.inErr is.xs) i.toNat (is.xs.length - i.toNat)), .i (Sp.inErr is.xs (Sp.idxE (Sp.inErr is.xs) i.toNat (is.xs.length - i.toNat)))]) (K 0 []))
 | _ => False
def Xh8 : LC where
 len := 106
 T := [(1, (.ptr 1 0)), (5, (.row 6)), (11, .int .i64)]
 H := [(1, .blk 25 [.rs Xw, .rs Xx]), (6, .arr 9 Jd)]
 W := ([2, 3, 4, 12, 13] ++ rgg 76 30)
 outs := [⟨.exit 2, [], [], (rgg 1 5 ++ [11, 12, 13] ++ rgg 76 30)⟩, ⟨.ret, [(2, (.lit (.int .i64 3))), (3, .int .i64), (4, .int .i64)], [], ([1, 5, 11, 12, 13] ++ rgg 76 30)⟩]
 spec := Xfy
def Zc [W : InW] (i : Int) (is : Ro Xx) := cel is.xs i.toNat (0 : Nat)
def Xey [W : InW] (i : Int) (sk : Ro Xw) (is : Ro Xx) (ns : Dt) (A : List Ed -> Prop) (K : Nat -> List Ed -> Prop) : Prop :=
 Vif (decide (i < (↑(is.xs.length) : Int))) (Need (decide (0 <= i) && decide (i < (↑(is.xs.length) : Int))) (Need (decide (i.toNat < is.xs.length)) (Pre ((Zc i is).str.size <= 9223372036854775807) (Need (decide ((ns.length + [[Cl.s (Zc i is).str]].length) * 16 <= 140737488355328)) (Vif (decide (Sp.namedE (Zc i is).str ns = 0)) (Pre True (Vif (!decide (Sp.spanE (cel is.xs i.toNat (0+1)).int (cel is.xs i.toNat ((0 : Nat) + 1 + 1)).int (-300 : Int) (300 : Int) = 0)) (K (0+1) [.i i, .i (Sp.spanE (cel is.xs i.toNat (0+1)).int (cel is.xs i.toNat ((0 : Nat) + 1 + 1)).int (-300 : Int) (300 : Int))]) (Ar .i64 (i + 1) fun z => A [.i z, .ro _ sk, .ro _ is, .l (ns ++ [[Cl.s (Zc i is).str]])]))) (Vif (!decide (Sp.namedE (Zc i is).str ns = 0)) (K (0+1) [.i i, .i (Sp.namedE (Zc i is).str ns)]) (Ar .i64 (i + 1) fun z => A [.i z, .ro _ sk, .ro _ is, .l (ns ++ [[Cl.s (Zc i is).str]])]))))))) (K 0 [])
theorem Xoi (W : InW) (i sk is ns A K) : Ygb { cxT Tryz.prog TT T5 1000 50 with fn := 4 } 1000 (Ypx Tryz.prog 4 20) (Yeo 106 [(1, .ptr 1 0), (5, .rw 6), (11, .si .i64 i)] ([2, 3, 4, 12, 13] ++ rgg 76 30)) [(1, .blk 25 [.rs _ sk, .rs _ is]), (6, .arr 9 Jd ns)] (Yw5 Xh8 A K) = Xey i sk is ns A K := by kernel_rfl
def Xg9 : Prop := ∀ (W : InW) (body a : Code), (Tryz.prog.funcs[4]?).bind (·.body) = some body -> a ∈ Y1 body -> Yg1 a = 20 -> @Yod W Tryz.prog a (@Yv5 W Xh8)
theorem Xp3 (meas : [InW] -> List Ed -> Nat) (hyp_ : ∀ (W : InW) i sk is ns K, Xfy [.i i, .ro _ sk, .ro _ is, .l ns] K -> ∀ A : List Ed -> Prop, (∀ e, meas e < meas [.i i, .ro _ sk, .ro _ is, .l ns] -> Xfy e K -> A e) -> Xey i sk is ns A K) : Xg9 :=
 LE.okOf' (fun W => @TT W) (fun W => @Xc W) Xa T5 1000 50 (by kernel_rfl) Xh8 (fun W => @meas W) fun W i sk is ns K hs =>
  (Xoi W i sk is ns (fun e => meas e < meas [.i i, .ro _ sk, .ro _ is, .l ns] /\ Xfy e K) K).mpr (hyp_ W i sk is ns K hs _ fun e h1 h2 => ⟨h1, h2⟩)
theorem Xtm : Xg9 := Xp3 (fun e => match e with | .i i :: _ :: .ro _ is :: _ => (is.xs.length - i).toNat | _ => 0) fun W i sk is ns K hs A hA => by
 obtain ⟨⟨h0, h1, h5, hn, rfl⟩, hk⟩ := hs;unfold Xey;delta Zc;refine vifd (fun e => ?_) fun e => ?_
 ·rw [show is.xs.length - i.toNat = (is.xs.length - (i.toNat + 1)) + 1 by omega] at hk;obtain ⟨g1, g2⟩ := Xjc (K1 := fun j e => K 1 [.i j, .i e]) hk;rw [Int.toNat_of_nonneg h0] at g1;have ez : (i + 1).toNat = i.toNat + 1 := by omega
  have hE := Xce (xs := is.xs) (i := i.toNat) (by omega);have hA' : Sp.inErr is.xs i.toNat = 0 -> A [.i (i + 1), .ro _ sk, .ro _ is, .l (Sp.names is.xs i.toNat ++ [[.s (Sp.nm is.xs i.toNat)]])] := fun f => hA _ (by show ((is.xs.length : Int) - (i + 1)).toNat < ((is.xs.length : Int) - i).toNat; omega) ⟨⟨by omega, by omega, h5, hn, by rw [ez]; exact Xbe (by omega)⟩, by rw [ez]; exact g2 f⟩;have bad : ∀ n, Sp.inErr is.xs i.toNat = n -> n ≠ 0 -> K 1 [.i i, .i n] := fun n hn h => by rw [<- hn]; exact g1 (by rw [hn]; exact h)
  have hs := hn i.toNat;have eS := Lib.hid (show Sp.inErr is.xs i.toNat = if Sp.nameErr is.xs i.toNat = 0 then Sp.spanE (cel is.xs i.toNat 1).int (cel is.xs i.toNat 2).int (-300) 300 else Sp.nameErr is.xs i.toNat from rfl);have hlen := Xe (xs := is.xs) (i := i.toNat) (by omega);clear g1 g2 hk hA hn;simp only [Nat.zero_add, Nat.reduceAdd, List.length_cons, List.length_nil, hlen];simp only [show (cel is.xs i.toNat 0).str = Sp.nm is.xs i.toNat from rfl, hE];generalize Sp.spanE (cel is.xs i.toNat 1).int (cel is.xs i.toNat 2).int (-300) 300 = S at *;generalize Sp.nameErr is.xs i.toNat = E at *;generalize Sp.inErr is.xs i.toNat = F at *
  repeat' (first | omega|intro _|with_reducible first|apply vifd|apply vifn|apply vifq|apply vifq0|apply vifq1|apply vifb|apply vif|apply nedd|apply ned2|apply ned|apply ar64|apply Xb|exact True.intro|assumption|rfl|apply And.intro)
  all_goals first | exact bad _ (by rw [eS.out]; (repeat' split) <;> omega) (by omega) | exact hA' (by rw [eS.out]; (repeat' split) <;> omega)
 ·rw [show is.xs.length - i.toNat = 0 by omega] at hk;exact hk.2 rfl
def Xuk : LE Tryz.prog := ⟨4, 20, fun W => @Yv5 W Xh8, Xtm⟩
def T6 : Tab Tryz.prog := ⟨T5.pcs, [Xuj, Xuk], []⟩
def Ze := (0 : Int)
def Zd := Int.toNat Ze
def Xcz [W : InW] (s_Skills : Ro Xw) (s_Instrs : Ro Xx) (Q : DS -> Prop) : Prop :=
 Pre True (Vif (!Sp.inr (↑(s_Skills.xs.length) : Int) (1 : Int) (5 : Int)) (Q [[Cl.i 1], [Cl.i 0], [Cl.i 3]]) (Vif (decide ((6 : Int) < (↑(s_Instrs.xs.length) : Int))) (Q [[Cl.i 1], [Cl.i 0], [Cl.i 3]]) (Pre (Ze <= 0 /\ Ze <= (↑(s_Skills.xs.length) : Int) /\ s_Skills.xs.length <= 5 /\ Sp.NamesOk s_Skills.xs /\ [] = Sp.names s_Skills.xs Zd) (Vif (Sp.hasE (Sp.skErr s_Skills.xs) Zd (s_Skills.xs.length - Int.toNat Ze)) (Q [[Cl.i 2], [Cl.i (↑(Sp.idxE (Sp.skErr s_Skills.xs) Zd (s_Skills.xs.length - Int.toNat Ze)) : Int)], [Cl.i (Sp.skErr s_Skills.xs (Sp.idxE (Sp.skErr s_Skills.xs) Zd (s_Skills.xs.length - Int.toNat Ze)))]]) (Pre (Ze <= 0 /\ Ze <= (↑(s_Instrs.xs.length) : Int) /\ s_Instrs.xs.length <= 6 /\ Sp.NamesOk s_Instrs.xs /\ [] = Sp.names s_Instrs.xs Zd) (Vif (Sp.hasE (Sp.inErr s_Instrs.xs) Zd (s_Instrs.xs.length - Int.toNat Ze)) (Q [[Cl.i 3], [Cl.i (↑(Sp.idxE (Sp.inErr s_Instrs.xs) Zd (s_Instrs.xs.length - Int.toNat Ze)) : Int)], [Cl.i (Sp.inErr s_Instrs.xs (Sp.idxE (Sp.inErr s_Instrs.xs) Zd (s_Instrs.xs.length - Int.toNat Ze)))]]) (Q [[Cl.i 0], [Cl.i 0], [Cl.i 0]])))))))
theorem Xml (W : InW) (s_Skills s_Instrs Q) : Yzs (cxT Tryz.prog TT T6 1000 50) 1000 4 [.agg [.rs _ s_Skills, .rs _ s_Instrs]] [] 0 (Y4g [(false, [.int .i64]), (false, [.int .i64]), (false, [.int .i64])] Q) (fun _ _ _ _ => Stuck 421) = Xcz s_Skills s_Instrs Q := by kernel_rfl
abbrev Xb9 : List AT := [.agg [.sl Xw, .sl Xx]]
theorem Xnc {pre : DS -> Prop} {res : DS -> DS} (hyp_ : ∀ (W : InW) (s_Skills : Ro Xw) (s_Instrs : Ro Xx), pre [[.l s_Skills.xs, .l s_Instrs.xs]] -> ∀ Q : DS -> Prop, Q (res [[.l s_Skills.xs, .l s_Instrs.xs]]) -> Xcz s_Skills s_Instrs Q) : PureOk Tryz.prog 4 Xb9 [(false, [.int .i64]), (false, [.int .i64]), (false, [.int .i64])] pre res :=
 PureOk.of' (fun W => @TT W) (fun W => @Xc W) Xa T6 1000 50 fun W s_Skills s_Instrs hp =>
  (Xml W s_Skills s_Instrs (fun o => o = res [[.l s_Skills.xs, .l s_Instrs.xs]])).mpr (hyp_ W s_Skills s_Instrs hp _ rfl)
abbrev Xy (ds : DS) : DS := match ds with | [[.l sk, .l is]] => [[.i (Sp.chkP sk is)], [.i (Sp.chkI sk is)], [.i (Sp.chkE sk is)]] | _ => []
abbrev Xc7 (ds : DS) : Prop := match ds with | [[.l sk, .l is]] => Sp.NamesOk sk /\ Sp.NamesOk is | _ => False
theorem Xd {n lo hi : Int} : Sp.inr n lo hi = true ↔ lo <= n /\ n <= hi := by simp [Sp.inr]
theorem Xu8 {n lo hi : Int} : Sp.inr n lo hi = false ↔ n < lo \/ hi < n := by simp [Sp.inr]; omega
theorem Xq3 : PureOk Tryz.prog 4 Xb9 [(false, [.int .i64]), (false, [.int .i64]), (false, [.int .i64])] Xc7 Xy :=
 Xnc fun W sk is hp Q h => by
  obtain ⟨h1, h2⟩ := hp;unfold Xcz;delta Zd Ze;simp only [Xy, Sp.chkP, Sp.chkI, Sp.chkE, Sp.check] at h;rw [show Int.toNat 0 = 0 from rfl, Nat.sub_zero, Nat.sub_zero];refine ⟨trivial, vifb (fun e1 => ?_) fun e1 => vifd (fun e2 => ?_) fun e2 => ?_⟩
  ·simp_all
  ·simp_all
  ·have i1 := Xd.1 e1;refine ⟨⟨by omega, by omega, by omega, h1, rfl⟩, vif (fun e3 => ?_) fun e3 => ⟨⟨by omega, by omega, by omega, h2, rfl⟩, vif (fun e4 => ?_) fun e4 => ?_⟩⟩ <;> clear h1 h2 <;> simp_all
def Xmv : PC Tryz.prog := ⟨4, Xb9, [(false, [.int .i64]), (false, [.int .i64]), (false, [.int .i64])], Xc7, Xy, Xq3⟩
def Xr2 [InW] (e : List Ed) (K : Nat -> List Ed -> Prop) : Prop := match e with
 | [.ro _ xs, .i n, .i i, .s last] => Pre (n = (xs.xs.length : Int) /\ 0 <= i /\ i <= n) (Vif (Sp.dup xs.xs last i.toNat (xs.xs.length - i.toNat)) (K 1 [.i (Sp.dupI xs.xs last i.toNat (xs.xs.length - i.toNat)), .s last]) (K 0 [.s last]))
 | _ => False
abbrev Xf5 [InW] := Xr2
abbrev Xf6 [InW] := Xr2
def Xif : LC where
 len := 19
 T := [(0, .rs Ja), (1, (.fn (.func 128) [] [(.ptr 4 0)])), (7, .int .i64), (8, .int .i64)]
 H := [(4, .blk 64 [.str, (.opq 7), (.opq 10), (.opq 13), (.opq 16)])]
 W := ([4, 5] ++ rgg 9 10)
 outs := [⟨.exit 0, [(1, (.fn (.func 128) [] [(.ptr 4 0)]))], [(4, .blk 64 [.str, (.opq 7), (.opq 10), (.opq 13), (.opq 16)])], ([0, 4, 5] ++ rgg 7 12)⟩, ⟨.ret, [(1, (.fn (.func 128) [] [(.ptr 4 0)])), (4, .int .i64)], [(4, .blk 64 [.str, (.opq 7), (.opq 10), (.opq 13), (.opq 16)])], ([0, 5] ++ rgg 7 12)⟩]
 spec := Xf5
def Xe5 [W : InW] (xs : Ro Ja) (n i : Int) (last : ByteArray) (A : List Ed -> Prop) (K : Nat -> List Ed -> Prop) : Prop :=
 Vif (decide (i < n)) (Need (decide (0 <= i) && decide (i < (↑(xs.xs.length) : Int))) (Need (decide (i.toNat < xs.xs.length)) (Vif (eqS (cel xs.xs i.toNat (0 : Nat)).str last) (K (0+1) [.i i, .s last]) (Ar .i64 (i + 1) fun z => A [.ro _ xs, .i n, .i z, .s last])))) (K 0 [.s last])
theorem Xop (W : InW) (xs n i last A K) : Ygb { cxT Tryz.prog TT T3 1000 50 with fn := 141 } 1000 (Ypx Tryz.prog 141 3) (Yeo 19 [(0, .rs _ xs), (1, .fn (.func 128) [] [.ptr 4 0]), (7, .si .i64 n), (8, .si .i64 i)] ([4, 5] ++ rgg 9 10)) [(4, .blk 64 [.ss last, .opq 7, .opq 10, .opq 13, .opq 16])] (Yw5 Xif A K) = Xe5 xs n i last A K := by kernel_rfl
def Xhg : Prop := ∀ (W : InW) (body a : Code), (Tryz.prog.funcs[141]?).bind (·.body) = some body -> a ∈ Y1 body -> Yg1 a = 3 -> @Yod W Tryz.prog a (@Yv5 W Xif)
theorem Xqa (meas : [InW] -> List Ed -> Nat) (hyp_ : ∀ (W : InW) xs n i last K, Xf5 [.ro _ xs, .i n, .i i, .s last] K -> ∀ A : List Ed -> Prop, (∀ e, meas e < meas [.ro _ xs, .i n, .i i, .s last] -> Xf5 e K -> A e) -> Xe5 xs n i last A K) : Xhg :=
 LE.okOf' (fun W => @TT W) (fun W => @Xc W) Xa T3 1000 50 (by kernel_rfl) Xif (fun W => @meas W) fun W xs n i last K hs =>
  (Xop W xs n i last (fun e => meas e < meas [.ro _ xs, .i n, .i i, .s last] /\ Xf5 e K) K).mpr (hyp_ W xs n i last K hs _ fun e h1 h2 => ⟨h1, h2⟩)
def Xig : LC where
 len := 19
 T := [(0, .rs Jb), (1, (.fn (.func 130) [] [(.ptr 4 0)])), (7, .int .i64), (8, .int .i64)]
 H := [(4, .blk 68 [.str, (.opq 7), (.opq 10)])]
 W := ([4, 5] ++ rgg 9 10)
 outs := [⟨.exit 0, [(1, (.fn (.func 130) [] [(.ptr 4 0)]))], [(4, .blk 68 [.str, (.opq 7), (.opq 10)])], ([0, 4, 5] ++ rgg 7 12)⟩, ⟨.ret, [(1, (.fn (.func 130) [] [(.ptr 4 0)])), (4, .int .i64)], [(4, .blk 68 [.str, (.opq 7), (.opq 10)])], ([0, 5] ++ rgg 7 12)⟩]
 spec := Xf6
def Xe6 [W : InW] (xs : Ro Jb) (n i : Int) (last : ByteArray) (A : List Ed -> Prop) (K : Nat -> List Ed -> Prop) : Prop :=
 Vif (decide (i < n)) (Need (decide (0 <= i) && decide (i < (↑(xs.xs.length) : Int))) (Need (decide (i.toNat < xs.xs.length)) (Vif (eqS (cel xs.xs i.toNat (0 : Nat)).str last) (K (0+1) [.i i, .s last]) (Ar .i64 (i + 1) fun z => A [.ro _ xs, .i n, .i z, .s last])))) (K 0 [.s last])
theorem Xoq (W : InW) (xs n i last A K) : Ygb { cxT Tryz.prog TT T3 1000 50 with fn := 142 } 1000 (Ypx Tryz.prog 142 3) (Yeo 19 [(0, .rs _ xs), (1, .fn (.func 130) [] [.ptr 4 0]), (7, .si .i64 n), (8, .si .i64 i)] ([4, 5] ++ rgg 9 10)) [(4, .blk 68 [.ss last, .opq 7, .opq 10])] (Yw5 Xig A K) = Xe6 xs n i last A K := by kernel_rfl
def Xhh : Prop := ∀ (W : InW) (body a : Code), (Tryz.prog.funcs[142]?).bind (·.body) = some body -> a ∈ Y1 body -> Yg1 a = 3 -> @Yod W Tryz.prog a (@Yv5 W Xig)
theorem Xqb (meas : [InW] -> List Ed -> Nat) (hyp_ : ∀ (W : InW) xs n i last K, Xf6 [.ro _ xs, .i n, .i i, .s last] K -> ∀ A : List Ed -> Prop, (∀ e, meas e < meas [.ro _ xs, .i n, .i i, .s last] -> Xf6 e K -> A e) -> Xe6 xs n i last A K) : Xhh :=
 LE.okOf' (fun W => @TT W) (fun W => @Xc W) Xa T3 1000 50 (by kernel_rfl) Xig (fun W => @meas W) fun W xs n i last K hs =>
  (Xoq W xs n i last (fun e => meas e < meas [.ro _ xs, .i n, .i i, .s last] /\ Xf6 e K) K).mpr (hyp_ W xs n i last K hs _ fun e h1 h2 => ⟨h1, h2⟩)
theorem Xtt : Xhg := Xqa (fun e => match e with | .ro _ xs :: .i n :: .i i :: _ => (n - i).toNat | _ => 0) fun W xs n i last K hs A hA => by
 obtain ⟨⟨rfl, h0, h1⟩, hk⟩ := hs;unfold Xe5;have hm := xs.len;simp only [maxLen] at hm;refine vifd (fun e => ned (by simp; omega) (nedd (by omega) (vif (fun e2 => ?_) fun e2 => ar64 (by omega) (hA _ ?_ ?_)))) fun e => ?_
 ·rw [show xs.xs.length - i.toNat = (xs.xs.length - (i.toNat + 1)) + 1 by omega] at hk;have := hk.1 (by simp only [Sp.dup, Sp.nm, e2, Bool.true_or]);unfold Sp.dupI at this;rw [if_pos (by exact e2), Int.toNat_of_nonneg h0] at this;exact this
 ·show ((xs.xs.length : Int) - (i + 1)).toNat < ((xs.xs.length : Int) - i).toNat
  omega
 ·refine ⟨⟨rfl, by omega, by omega⟩, ?_⟩;rw [show xs.xs.length - i.toNat = (xs.xs.length - (i.toNat + 1)) + 1 by omega] at hk;simp only [Sp.dup, Sp.nm, e2, Bool.false_or] at hk;unfold Sp.dupI at hk;rw [if_neg (by show ¬ eqS (cel xs.xs i.toNat 0).str last = true; rw [e2]; simp)] at hk;rw [show (i + 1).toNat = i.toNat + 1 by omega];exact hk
 ·rw [show xs.xs.length - i.toNat = 0 by omega] at hk;exact hk.2 rfl
theorem Xtu : Xhh := Xqb (fun e => match e with | .ro _ xs :: .i n :: .i i :: _ => (n - i).toNat | _ => 0) fun W xs n i last K hs A hA => by
 obtain ⟨⟨rfl, h0, h1⟩, hk⟩ := hs;unfold Xe6;have hm := xs.len;simp only [maxLen] at hm;refine vifd (fun e => ned (by simp; omega) (nedd (by omega) (vif (fun e2 => ?_) fun e2 => ar64 (by omega) (hA _ ?_ ?_)))) fun e => ?_
 ·rw [show xs.xs.length - i.toNat = (xs.xs.length - (i.toNat + 1)) + 1 by omega] at hk;have := hk.1 (by simp only [Sp.dup, Sp.nm, e2, Bool.true_or]);unfold Sp.dupI at this;rw [if_pos (by exact e2), Int.toNat_of_nonneg h0] at this;exact this
 ·show ((xs.xs.length : Int) - (i + 1)).toNat < ((xs.xs.length : Int) - i).toNat
  omega
 ·refine ⟨⟨rfl, by omega, by omega⟩, ?_⟩;rw [show xs.xs.length - i.toNat = (xs.xs.length - (i.toNat + 1)) + 1 by omega] at hk;simp only [Sp.dup, Sp.nm, e2, Bool.false_or] at hk;unfold Sp.dupI at hk;rw [if_neg (by show ¬ eqS (cel xs.xs i.toNat 0).str last = true; rw [e2]; simp)] at hk;rw [show (i + 1).toNat = i.toNat + 1 by omega];exact hk
 ·rw [show xs.xs.length - i.toNat = 0 by omega] at hk;exact hk.2 rfl
def Xur : LE Tryz.prog := ⟨141, 3, fun W => @Yv5 W Xif, Xtt⟩
def Xus : LE Tryz.prog := ⟨142, 3, fun W => @Yv5 W Xig, Xtu⟩
def T7 : Tab Tryz.prog := ⟨T3.pcs, [Xur, Xus], []⟩
def Xgj [InW] (e : List Ed) (K : Nat -> List Ed -> Prop) : Prop := match e with
 | [.ro _ xs, .i n, .i i, .ro _ sk, .ro _ is] => Pre (xs.xs = sk.xs /\ n = (sk.xs.length : Int) /\ 0 <= i /\ i <= n) (Vif (Sp.hasE (Sp.skErr sk.xs) i.toNat (sk.xs.length - i.toNat))
   (K 1 [.i (Sp.idxE (Sp.skErr sk.xs) i.toNat (sk.xs.length - i.toNat)), .i (Sp.skErr sk.xs (Sp.idxE (Sp.skErr sk.xs) i.toNat (sk.xs.length - i.toNat)))]) (K 0 [.ro _ sk, .ro _ is]))
 | _ => False
def Xit : LC where
 len := 107
 T := [(1, (.ptr 1 0)), (21, .rs Ja), (22, .int .i64), (23, .int .i64)]
 H := [(1, .blk 25 [.rs Ja, .rs Jb])]
 W := (rgg 2 5 ++ rgg 24 53)
 outs := [⟨.exit 0, [(1, (.ptr 1 0))], [(1, .blk 25 [.rs Ja, .rs Jb])], (rgg 2 5 ++ rgg 21 56)⟩, ⟨.ret, [(2, (.lit (.int .i64 2))), (3, .int .i64), (4, .int .i64)], [], ([1, 5, 6] ++ rgg 21 56)⟩]
 spec := Xgj
def Zh := (0 : Nat)
def Zg [W : InW] (i : Int) (sk : Ro Ja) := List.drop Zh (List.take i.toNat sk.xs)
def Zf [W : InW] (xs : Ro Ja) (n i : Int) (sk : Ro Ja) (is : Ro Jb) (A : List Ed -> Prop) (K : Nat -> List Ed -> Prop) := Pre True (Vif (Sp.out Ze (1000 : Int) [[Cl.i (cel xs.xs i.toNat (0+1)).int], [Cl.i (cel xs.xs i.toNat (Zh + 1 + 1)).int], [Cl.i (cel xs.xs i.toNat (Zh + 1 + 1 + 1)).int], [Cl.i (cel xs.xs i.toNat (Zh + 1 + 1 + 1 + 1)).int]]) (K (0+1) [.i i, .i (7 : Int)]) (Vif (decide ((cel xs.xs i.toNat (Zh + 1 + 1)).int < (cel xs.xs i.toNat (0+1)).int)) (K (0+1) [.i i, .i (2 : Int)]) (Vif (decide ((cel xs.xs i.toNat (Zh + 1 + 1 + 1 + 1)).int < (cel xs.xs i.toNat (Zh + 1 + 1 + 1)).int)) (K (0+1) [.i i, .i (2 : Int)]) (Ar .i64 (i + 1) fun z => A [.ro _ xs, .i n, .i z, .ro _ sk, .ro _ is]))))
def Xfj [W : InW] (xs : Ro Ja) (n i : Int) (sk : Ro Ja) (is : Ro Jb) (A : List Ed -> Prop) (K : Nat -> List Ed -> Prop) : Prop :=
 Vif (decide (i < n)) (Need (decide (0 <= i) && decide (i < (↑(xs.xs.length) : Int))) (Need (decide (i.toNat < xs.xs.length)) (Pre True (Vif (!Bk.nameOk (cel xs.xs i.toNat Zh).str) (K (0+1) [.i i, .i (6 : Int)]) (Need (decide (0 <= i)) (Need (decide (Zh <= i.toNat) && decide (i.toNat <= sk.xs.length)) (Pre ((↑(Zg i sk).length : Int) = (↑(Zg i sk).length : Int) /\ Ze <= 0 /\ Ze <= (↑(Zg i sk).length : Int)) (Vif (Sp.dup (Zg i sk) (cel xs.xs i.toNat Zh).str (Int.toNat Ze) ((Zg i sk).length - Int.toNat Ze)) (Vif (decide (Ze <= (↑(Sp.dupI (Zg i sk) (cel xs.xs i.toNat Zh).str (Int.toNat Ze) ((Zg i sk).length - Int.toNat Ze)) : Int))) (K (0+1) [.i i, .i (5 : Int)]) (Zf xs n i sk is A K)) (Zf xs n i sk is A K))))))))) (K 0 [.ro _ sk, .ro _ is])
theorem Xo3 (W : InW) (xs n i sk is A K) : Ygb { cxT Tryz.prog TT T7 1000 50 with fn := 102 } 1000 (Ypx Tryz.prog 102 5) (Yeo 107 [(1, .ptr 1 0), (21, .rs _ xs), (22, .si .i64 n), (23, .si .i64 i)] (rgg 2 5 ++ rgg 24 53)) [(1, .blk 25 [.rs _ sk, .rs _ is])] (Yw5 Xit A K) = Xfj xs n i sk is A K := by kernel_rfl
def Xhu : Prop := ∀ (W : InW) (body a : Code), (Tryz.prog.funcs[102]?).bind (·.body) = some body -> a ∈ Y1 body -> Yg1 a = 5 -> @Yod W Tryz.prog a (@Yv5 W Xit)
theorem Xqo (meas : [InW] -> List Ed -> Nat) (hyp_ : ∀ (W : InW) xs n i sk is K, Xgj [.ro _ xs, .i n, .i i, .ro _ sk, .ro _ is] K -> ∀ A : List Ed -> Prop, (∀ e, meas e < meas [.ro _ xs, .i n, .i i, .ro _ sk, .ro _ is] -> Xgj e K -> A e) -> Xfj xs n i sk is A K) : Xhu :=
 LE.okOf' (fun W => @TT W) (fun W => @Xc W) Xa T7 1000 50 (by kernel_rfl) Xit (fun W => @meas W) fun W xs n i sk is K hs =>
  (Xo3 W xs n i sk is (fun e => meas e < meas [.ro _ xs, .i n, .i i, .ro _ sk, .ro _ is] /\ Xgj e K) K).mpr (hyp_ W xs n i sk is K hs _ fun e h1 h2 => ⟨h1, h2⟩)
def Xgk [InW] (e : List Ed) (K : Nat -> List Ed -> Prop) : Prop := match e with
 | [.ro _ xs, .i n, .i i, .ro _ sk, .ro _ is] => Pre (xs.xs = is.xs /\ n = (is.xs.length : Int) /\ 0 <= i /\ i <= n) (Vif (Sp.hasE (Sp.inErr is.xs) i.toNat (is.xs.length - i.toNat))
   (K 1 [.i (Sp.idxE (Sp.inErr is.xs) i.toNat (is.xs.length - i.toNat)), .i (Sp.inErr is.xs (Sp.idxE (Sp.inErr is.xs) i.toNat (is.xs.length - i.toNat)))]) (K 0 []))
 | _ => False
def Xiu : LC where
 len := 107
 T := [(1, (.ptr 1 0)), (78, .rs Jb), (79, .int .i64), (80, .int .i64)]
 H := [(1, .blk 25 [.rs Ja, .rs Jb])]
 W := ([2, 3, 4, 7, 8] ++ rgg 81 26)
 outs := [⟨.exit 3, [], [], (rgg 1 4 ++ [7, 8] ++ rgg 78 29)⟩, ⟨.ret, [(2, (.lit (.int .i64 3))), (3, .int .i64), (4, .int .i64)], [], ([1, 7, 8] ++ rgg 78 29)⟩]
 spec := Xgk
def Zi [W : InW] (i : Int) (is : Ro Jb) := List.drop Zh (List.take i.toNat is.xs)
def Zj [W : InW] (xs : Ro Jb) (n i : Int) (sk : Ro Ja) (is : Ro Jb) (A : List Ed -> Prop) (K : Nat -> List Ed -> Prop) := Pre True (Vif (!decide (Sp.spanE (cel xs.xs i.toNat (0+1)).int (cel xs.xs i.toNat (Zh + 1 + 1)).int (-300 : Int) (300 : Int) = 0)) (K (0+1) [.i i, .i (Sp.spanE (cel xs.xs i.toNat (0+1)).int (cel xs.xs i.toNat (Zh + 1 + 1)).int (-300 : Int) (300 : Int))]) (Ar .i64 (i + 1) fun z => A [.ro _ xs, .i n, .i z, .ro _ sk, .ro _ is]))
def Xfk [W : InW] (xs : Ro Jb) (n i : Int) (sk : Ro Ja) (is : Ro Jb) (A : List Ed -> Prop) (K : Nat -> List Ed -> Prop) : Prop :=
 Vif (decide (i < n)) (Need (decide (0 <= i) && decide (i < (↑(xs.xs.length) : Int))) (Need (decide (i.toNat < xs.xs.length)) (Pre True (Vif (!Bk.nameOk (cel xs.xs i.toNat Zh).str) (K (0+1) [.i i, .i (6 : Int)]) (Need (decide (0 <= i)) (Need (decide (Zh <= i.toNat) && decide (i.toNat <= is.xs.length)) (Pre ((↑(Zi i is).length : Int) = (↑(Zi i is).length : Int) /\ Ze <= 0 /\ Ze <= (↑(Zi i is).length : Int)) (Vif (Sp.dup (Zi i is) (cel xs.xs i.toNat Zh).str (Int.toNat Ze) ((Zi i is).length - Int.toNat Ze)) (Vif (decide (Ze <= (↑(Sp.dupI (Zi i is) (cel xs.xs i.toNat Zh).str (Int.toNat Ze) ((Zi i is).length - Int.toNat Ze)) : Int))) (K (0+1) [.i i, .i (5 : Int)]) (Zj xs n i sk is A K)) (Zj xs n i sk is A K))))))))) (K 0 [])
theorem Xo4 (W : InW) (xs n i sk is A K) : Ygb { cxT Tryz.prog TT T7 1000 50 with fn := 102 } 1000 (Ypx Tryz.prog 102 17) (Yeo 107 [(1, .ptr 1 0), (78, .rs _ xs), (79, .si .i64 n), (80, .si .i64 i)] ([2, 3, 4, 7, 8] ++ rgg 81 26)) [(1, .blk 25 [.rs _ sk, .rs _ is])] (Yw5 Xiu A K) = Xfk xs n i sk is A K := by kernel_rfl
def Xhv : Prop := ∀ (W : InW) (body a : Code), (Tryz.prog.funcs[102]?).bind (·.body) = some body -> a ∈ Y1 body -> Yg1 a = 17 -> @Yod W Tryz.prog a (@Yv5 W Xiu)
theorem Xqp (meas : [InW] -> List Ed -> Nat) (hyp_ : ∀ (W : InW) xs n i sk is K, Xgk [.ro _ xs, .i n, .i i, .ro _ sk, .ro _ is] K -> ∀ A : List Ed -> Prop, (∀ e, meas e < meas [.ro _ xs, .i n, .i i, .ro _ sk, .ro _ is] -> Xgk e K -> A e) -> Xfk xs n i sk is A K) : Xhv :=
 LE.okOf' (fun W => @TT W) (fun W => @Xc W) Xa T7 1000 50 (by kernel_rfl) Xiu (fun W => @meas W) fun W xs n i sk is K hs =>
  (Xo4 W xs n i sk is (fun e => meas e < meas [.ro _ xs, .i n, .i i, .ro _ sk, .ro _ is] /\ Xgk e K) K).mpr (hyp_ W xs n i sk is K hs _ fun e h1 h2 => ⟨h1, h2⟩)
theorem Xt7 : Xhu := Xqo (fun e => match e with | _ :: .i n :: .i i :: _ => (n - i).toNat | _ => 0) fun W xs n i sk is K hs A hA => by
 obtain ⟨⟨hcs, rfl, h0, h1⟩, hk⟩ := hs;unfold Xfj;delta Zf Zg Zh Ze;have hm := sk.len;simp only [maxLen] at hm;simp only [List.drop_zero, hcs, Nat.zero_add, Nat.reduceAdd, out4];refine vifd (fun e => ?_) fun e => ?_
 ·rw [show sk.xs.length - i.toNat = (sk.xs.length - (i.toNat + 1)) + 1 by omega] at hk;obtain ⟨g1, g2⟩ := Xjc (K1 := fun j e => K 1 [.i j, .i e]) hk;rw [Int.toNat_of_nonneg h0] at g1;have ez : (i + 1).toNat = i.toNat + 1 := by omega
  have hA' : Sp.skErr sk.xs i.toNat = 0 -> A [.ro _ xs, .i sk.xs.length, .i (i + 1), .ro _ sk, .ro _ is] := fun f => hA _ (by show ((sk.xs.length : Int) - (i + 1)).toNat < ((sk.xs.length : Int) - i).toNat; omega) ⟨⟨hcs, rfl, by omega, by omega⟩, by rw [ez]; exact g2 f⟩;have bad : ∀ n, Sp.skErr sk.xs i.toNat = n -> n ≠ 0 -> K 1 [.i i, .i n] := fun n hn h => by rw [<- hn]; exact g1 (by rw [hn]; exact h)
  have htl : (sk.xs.take i.toNat).length = i.toNat := by rw [List.length_take]; omega
  have hdt := Xbz (xs := sk.xs) (name := (cel sk.xs i.toNat 0).str) (m := i.toNat) i.toNat 0 (by omega);have eN : Sp.nameErr sk.xs i.toNat = if Bk.nameOk (cel sk.xs i.toNat 0).str then (if Sp.dup sk.xs (cel sk.xs i.toNat 0).str 0 i.toNat then 5 else 0) else 6 := rfl
  have eS := Lib.hid (show Sp.skErr sk.xs i.toNat = if Sp.nameErr sk.xs i.toNat = 0 then (if Sp.inr (cel sk.xs i.toNat 1).int 0 1000 && (Sp.inr (cel sk.xs i.toNat 2).int 0 1000 && (Sp.inr (cel sk.xs i.toNat 3).int 0 1000 && Sp.inr (cel sk.xs i.toNat 4).int 0 1000)) then (if (cel sk.xs i.toNat 2).int < (cel sk.xs i.toNat 1).int \/ (cel sk.xs i.toNat 4).int < (cel sk.xs i.toNat 3).int then 2 else 0) else 7) else Sp.nameErr sk.xs i.toNat from rfl);rw [eN] at eS;clear g1 g2 hk hA eN;rw [htl, show Int.toNat 0 = 0 from rfl, Nat.sub_zero, hdt];clear htl hdt;generalize Bk.nameOk (cel sk.xs i.toNat 0).str = a at *;generalize Sp.dup sk.xs (cel sk.xs i.toNat 0).str 0 i.toNat = b at *;generalize Sp.skErr sk.xs i.toNat = F at *;generalize Sp.inr (cel sk.xs i.toNat 1).int 0 1000 = c1 at *;generalize Sp.inr (cel sk.xs i.toNat 2).int 0 1000 = c2 at *;generalize Sp.inr (cel sk.xs i.toNat 3).int 0 1000 = c3 at *;generalize Sp.inr (cel sk.xs i.toNat 4).int 0 1000 = c4 at *;generalize (cel sk.xs i.toNat 1).int = d1 at *;generalize (cel sk.xs i.toNat 2).int = d2 at *;generalize (cel sk.xs i.toNat 3).int = d3 at *;generalize (cel sk.xs i.toNat 4).int = d4 at *
  repeat' (first | omega|intro _|with_reducible first|apply vifd|apply vifn|apply vifq|apply vifq0|apply vifq1|apply vifb|apply vif|apply nedd|apply ned2|apply ned|apply ar64|apply Xb|exact True.intro|assumption|rfl|apply And.intro)
  all_goals first | exact bad _ (by rw [eS.out]; (repeat' split) <;> first | omega | simp_all) (by omega) | exact hA' (by rw [eS.out]; (repeat' split) <;> first | omega | simp_all)
 ·rw [show sk.xs.length - i.toNat = 0 by omega] at hk;exact hk.2 rfl
theorem Xt8 : Xhv := Xqp (fun e => match e with | _ :: .i n :: .i i :: _ => (n - i).toNat | _ => 0) fun W xs n i sk is K hs A hA => by
 obtain ⟨⟨hcs, rfl, h0, h1⟩, hk⟩ := hs;unfold Xfk;delta Zj Zi Zh Ze;have hm := is.len;simp only [maxLen] at hm;simp only [List.drop_zero, hcs, Nat.zero_add, Nat.reduceAdd, out4];refine vifd (fun e => ?_) fun e => ?_
 ·rw [show is.xs.length - i.toNat = (is.xs.length - (i.toNat + 1)) + 1 by omega] at hk;obtain ⟨g1, g2⟩ := Xjc (K1 := fun j e => K 1 [.i j, .i e]) hk;rw [Int.toNat_of_nonneg h0] at g1;have ez : (i + 1).toNat = i.toNat + 1 := by omega
  have hA' : Sp.inErr is.xs i.toNat = 0 -> A [.ro _ xs, .i is.xs.length, .i (i + 1), .ro _ sk, .ro _ is] := fun f => hA _ (by show ((is.xs.length : Int) - (i + 1)).toNat < ((is.xs.length : Int) - i).toNat; omega) ⟨⟨hcs, rfl, by omega, by omega⟩, by rw [ez]; exact g2 f⟩;have bad : ∀ n, Sp.inErr is.xs i.toNat = n -> n ≠ 0 -> K 1 [.i i, .i n] := fun n hn h => by rw [<- hn]; exact g1 (by rw [hn]; exact h)
  have htl : (is.xs.take i.toNat).length = i.toNat := by rw [List.length_take]; omega
  have hdt := Xbz (xs := is.xs) (name := (cel is.xs i.toNat 0).str) (m := i.toNat) i.toNat 0 (by omega);have eN : Sp.nameErr is.xs i.toNat = if Bk.nameOk (cel is.xs i.toNat 0).str then (if Sp.dup is.xs (cel is.xs i.toNat 0).str 0 i.toNat then 5 else 0) else 6 := rfl
  have eS := Lib.hid (show Sp.inErr is.xs i.toNat = if Sp.nameErr is.xs i.toNat = 0 then Sp.spanE (cel is.xs i.toNat 1).int (cel is.xs i.toNat 2).int (-300) 300 else Sp.nameErr is.xs i.toNat from rfl);rw [eN] at eS;clear g1 g2 hk hA eN;rw [htl, show Int.toNat 0 = 0 from rfl, Nat.sub_zero, hdt];clear htl hdt;generalize Bk.nameOk (cel is.xs i.toNat 0).str = a at *;generalize Sp.dup is.xs (cel is.xs i.toNat 0).str 0 i.toNat = b at *;generalize Sp.inErr is.xs i.toNat = F at *;generalize Sp.spanE (cel is.xs i.toNat 1).int (cel is.xs i.toNat 2).int (-300) 300 = S at *
  repeat' (first | omega|intro _|with_reducible first|apply vifd|apply vifn|apply vifq|apply vifq0|apply vifq1|apply vifb|apply vif|apply nedd|apply ned2|apply ned|apply ar64|apply Xb|exact True.intro|assumption|rfl|apply And.intro)
  all_goals first | exact bad _ (by rw [eS.out]; (repeat' split) <;> first | omega | simp_all) (by omega) | exact hA' (by rw [eS.out]; (repeat' split) <;> first | omega | simp_all)
 ·rw [show is.xs.length - i.toNat = 0 by omega] at hk;exact hk.2 rfl
def Xu5 : LE Tryz.prog := ⟨102, 5, fun W => @Yv5 W Xit, Xt7⟩
def Xu6 : LE Tryz.prog := ⟨102, 17, fun W => @Yv5 W Xiu, Xt8⟩
def T8 : Tab Tryz.prog := ⟨T3.pcs, [Xu5, Xu6], []⟩
def Xcb [W : InW] (s_Skills : Ro Ja) (s_Instrs : Ro Jb) (Q : DS -> Prop) : Prop :=
 Pre True (Vif (Sp.out (1 : Int) (5 : Int) [[Cl.i (↑(s_Skills.xs.length) : Int)]]) (Q [[Cl.i 1], [Cl.i 0], [Cl.i 3]]) (Vif (decide ((6 : Int) < (↑(s_Instrs.xs.length) : Int))) (Q [[Cl.i 1], [Cl.i 0], [Cl.i 3]]) (Pre (s_Skills.xs = s_Skills.xs /\ (↑(s_Skills.xs.length) : Int) = (↑(s_Skills.xs.length) : Int) /\ Ze <= 0 /\ Ze <= (↑(s_Skills.xs.length) : Int)) (Vif (Sp.hasE (Sp.skErr s_Skills.xs) Zd (s_Skills.xs.length - Int.toNat Ze)) (Q [[Cl.i 2], [Cl.i (↑(Sp.idxE (Sp.skErr s_Skills.xs) Zd (s_Skills.xs.length - Int.toNat Ze)) : Int)], [Cl.i (Sp.skErr s_Skills.xs (Sp.idxE (Sp.skErr s_Skills.xs) Zd (s_Skills.xs.length - Int.toNat Ze)))]]) (Pre (s_Instrs.xs = s_Instrs.xs /\ (↑(s_Instrs.xs.length) : Int) = (↑(s_Instrs.xs.length) : Int) /\ Ze <= 0 /\ Ze <= (↑(s_Instrs.xs.length) : Int)) (Vif (Sp.hasE (Sp.inErr s_Instrs.xs) Zd (s_Instrs.xs.length - Int.toNat Ze)) (Q [[Cl.i 3], [Cl.i (↑(Sp.idxE (Sp.inErr s_Instrs.xs) Zd (s_Instrs.xs.length - Int.toNat Ze)) : Int)], [Cl.i (Sp.inErr s_Instrs.xs (Sp.idxE (Sp.inErr s_Instrs.xs) Zd (s_Instrs.xs.length - Int.toNat Ze)))]]) (Q [[Cl.i 0], [Cl.i 0], [Cl.i 0]])))))))
theorem Xjk (W : InW) (s_Skills s_Instrs Q) : Yzs (cxT Tryz.prog TT T8 1000 50) 1000 102 [.agg [.rs _ s_Skills, .rs _ s_Instrs]] [] 0 (Y4g [(false, [.int .i64]), (false, [.int .i64]), (false, [.int .i64])] Q) (fun _ _ _ _ => Stuck 421) = Xcb s_Skills s_Instrs Q := by kernel_rfl
abbrev Xbv : List AT := [.agg [.sl Ja, .sl Jb]]
theorem Xkl {pre : DS -> Prop} {res : DS -> DS} (hyp_ : ∀ (W : InW) (s_Skills : Ro Ja) (s_Instrs : Ro Jb), pre [[.l s_Skills.xs, .l s_Instrs.xs]] -> ∀ Q : DS -> Prop, Q (res [[.l s_Skills.xs, .l s_Instrs.xs]]) -> Xcb s_Skills s_Instrs Q) : PureOk Tryz.prog 102 Xbv [(false, [.int .i64]), (false, [.int .i64]), (false, [.int .i64])] pre res :=
 PureOk.of' (fun W => @TT W) (fun W => @Xc W) Xa T8 1000 50 fun W s_Skills s_Instrs hp =>
  (Xjk W s_Skills s_Instrs (fun o => o = res [[.l s_Skills.xs, .l s_Instrs.xs]])).mpr (hyp_ W s_Skills s_Instrs hp _ rfl)
theorem Xmx : PureOk Tryz.prog 102 Xbv [(false, [.int .i64]), (false, [.int .i64]), (false, [.int .i64])] (fun _ => True) Xy :=
 Xkl fun W sk is _ Q h => by
  unfold Xcb;delta Zd Ze;simp only [Xy, Sp.chkP, Sp.chkI, Sp.chkE, Sp.check] at h;simp only [out1];rw [show Int.toNat 0 = 0 from rfl, Nat.sub_zero, Nat.sub_zero];refine ⟨trivial, vifb (fun e1 => ?_) fun e1 => vifd (fun e2 => ?_) fun e2 => ?_⟩
  ·simp_all
  ·simp_all
  ·have i1 := Xd.1 e1;refine ⟨⟨trivial, trivial, by omega, by omega⟩, vif (fun e3 => ?_) fun e3 => ⟨⟨trivial, trivial, by omega, by omega⟩, vif (fun e4 => ?_) fun e4 => ?_⟩⟩ <;> simp_all
def Xke : PC Tryz.prog := ⟨102, Xbv, [(false, [.int .i64]), (false, [.int .i64]), (false, [.int .i64])], fun _ => True, Xy, Xmx⟩
namespace Sp
structure SchOk (sk is : Dt) : Prop where
 n1 : 1 <= sk.length
 n5 : sk.length <= 5
 i6 : is.length <= 6
 skN : ∀ i, i < sk.length -> nameErr sk i = 0
 skG : ∀ i, i < sk.length -> 0 <= gLo sk i /\ gLo sk i <= gHi sk i /\ gHi sk i <= 1000
 skF : ∀ i, i < sk.length -> 0 <= fLo sk i /\ fLo sk i <= fHi sk i /\ fHi sk i <= 1000
 isN : ∀ i, i < is.length -> nameErr is i = 0
 isB : ∀ i, i < is.length -> -300 <= bLo is i /\ bLo is i <= bHi is i /\ bHi is i <= 300
def askE (sk is : Dt) (i n : Int) : Int := if chkE sk is = 0 then (if inr i 0 (is.length - 1) then (if inr n 0 1000 then 0 else 7) else 4) else chkE sk is
def bdE (sk is : Dt) (i n : Int) : Int := if askE sk is i n = 0 then (if bhHi (bLo is i.toNat) n < bhLo (bHi is i.toNat) n then 9 else 0) else askE sk is i n
def bdLo (sk is : Dt) (i n : Int) : Int := if bdE sk is i n = 0 then bhLo (bHi is i.toNat) n else 0
def bdHi (sk is : Dt) (i n : Int) : Int := if bdE sk is i n = 0 then bhHi (bLo is i.toNat) n else 0
end Sp
theorem Xdt {f : Nat -> Int} : ∀ {n i : Nat}, Sp.hasE f i n = false -> ∀ k, i <= k -> k < i + n -> f k = 0
 | 0, i, _, k, h1, h2 => by omega
 | n + 1, i, h, k, h1, h2 => by
  simp only [Sp.hasE, Bool.or_eq_false_iff, Bool.not_eq_false', decide_eq_true_eq] at h;rcases Nat.eq_or_lt_of_le h1 with e | e
  ·rw [<- e]; exact h.1
  ·exact Xdt h.2 k (by omega) (by omega)
theorem Xds {f : Nat -> Int} : ∀ {n i : Nat}, (∀ k, i <= k -> k < i + n -> f k = 0) -> Sp.hasE f i n = false
 | 0, _, _ => rfl
 | n + 1, i, h => by
  simp only [Sp.hasE, Bool.or_eq_false_iff, Bool.not_eq_false', decide_eq_true_eq];exact ⟨h i (by omega) (by omega), Xds fun k h1 h2 => h k (by omega) (by omega)⟩
theorem Xdu {f : Nat -> Int} : ∀ {n i : Nat}, Sp.hasE f i n = true -> f (Sp.idxE f i n) ≠ 0
 | 0, _, h => by simp [Sp.hasE] at h
 | n + 1, i, h => by
  simp only [Sp.hasE, Sp.idxE] at h ⊢
  by_cases e : f i = 0
  ·rw [if_pos e]; exact Xdu (by simpa [e] using h)
  ·rw [if_neg e]; exact e
theorem Xc5 {sk : Dt} {i : Nat} : Sp.skErr sk i = 0 ↔ Sp.nameErr sk i = 0 /\ (0 <= Sp.gLo sk i /\ Sp.gLo sk i <= Sp.gHi sk i /\ Sp.gHi sk i <= 1000) /\ (0 <= Sp.fLo sk i /\ Sp.fLo sk i <= Sp.fHi sk i /\ Sp.fHi sk i <= 1000) := by
 unfold Sp.skErr
 by_cases hn : Sp.nameErr sk i = 0
 ·rw [if_pos hn]
  by_cases hi : (Sp.inr (Sp.gLo sk i) 0 1000 && (Sp.inr (Sp.gHi sk i) 0 1000 && (Sp.inr (Sp.fLo sk i) 0 1000 && Sp.inr (Sp.fHi sk i) 0 1000))) = true
  ·rw [if_pos hi];simp only [Bool.and_eq_true, Xd] at hi
   split <;> omega
  ·rw [if_neg hi];simp only [Bool.and_eq_true, Xd] at hi;omega
 ·rw [if_neg hn]; simp [hn]
theorem Xc9 {is : Dt} {i : Nat} : Sp.inErr is i = 0 ↔ Sp.nameErr is i = 0 /\ (-300 <= Sp.bLo is i /\ Sp.bLo is i <= Sp.bHi is i /\ Sp.bHi is i <= 300) := by
 unfold Sp.inErr Sp.spanE
 by_cases hn : Sp.nameErr is i = 0
 ·rw [if_pos hn]
  by_cases hi : (Sp.inr (Sp.bLo is i) (-300) 300 && Sp.inr (Sp.bHi is i) (-300) 300) = true
  ·rw [if_pos hi];simp only [Bool.and_eq_true, Xd] at hi
   split <;> omega
  ·rw [if_neg hi];simp only [Bool.and_eq_true, Xd] at hi;omega
 ·rw [if_neg hn]; simp [hn]
theorem Xdv {sk is : Dt} : Sp.chkE sk is = 0 ↔ Sp.SchOk sk is := by
 unfold Sp.chkE Sp.check
 by_cases h1 : (!(Sp.inr sk.length 1 5) || decide (6 < (is.length : Int))) = true
 ·rw [if_pos h1];refine ⟨fun h => by simp at h, fun h => ?_⟩;have := h.n1; have := h.n5; have := h.i6;simp [Sp.inr] at h1; omega
 ·rw [if_neg h1];simp only [Bool.or_eq_true, Bool.not_eq_true', decide_eq_true_eq, not_or, Xu8] at h1
  by_cases h2 : Sp.hasE (Sp.skErr sk) 0 sk.length = true
  ·rw [if_pos h2];refine ⟨fun h => absurd h (Xdu h2), fun h => ?_⟩;rw [Xds fun k _ hk => Xc5.2 ⟨h.skN k (by omega), h.skG k (by omega), h.skF k (by omega)⟩] at h2;cases h2
  ·rw [if_neg h2]
   by_cases h3 : Sp.hasE (Sp.inErr is) 0 is.length = true
   ·rw [if_pos h3];refine ⟨fun h => absurd h (Xdu h3), fun h => ?_⟩;rw [Xds fun k _ hk => Xc9.2 ⟨h.isN k (by omega), h.isB k (by omega)⟩] at h3;cases h3
   ·rw [if_neg h3];have a2 := fun k (hk : k < sk.length) => Xc5.1 (Xdt (Bool.not_eq_true _ ▸ h2) k (by omega) (by omega));have a3 := fun k (hk : k < is.length) => Xc9.1 (Xdt (Bool.not_eq_true _ ▸ h3) k (by omega) (by omega));exact ⟨fun _ => ⟨by omega, by omega, by omega, fun k hk => (a2 k hk).1, fun k hk => (a2 k hk).2.1, fun k hk => (a2 k hk).2.2, fun k hk => (a3 k hk).1, fun k hk => (a3 k hk).2⟩, fun _ => rfl⟩
def T9 : Tab Tryz.prog := ⟨[Xmu, Xgt, Xkd, Xc8, Xke], [], []⟩
def Xlt [W : InW] (s_Skills : Ro Ja) (s_Instrs : Ro Jb) (i n : Int) (Q : DS -> Prop) : Prop :=
 Pre True (Vif (!decide (Sp.chkE s_Skills.xs s_Instrs.xs = 0)) (Q [[Cl.i (Sp.chkE s_Skills.xs s_Instrs.xs)]]) (Ar .i64 ((↑(s_Instrs.xs.length) : Int) - 1) fun z => Pre True (Vif (Sp.out (0 : Int) z [[Cl.i i]]) (Q [[Cl.i 4]]) (Pre True (Vif (Sp.out (0 : Int) (1000 : Int) [[Cl.i n]]) (Q [[Cl.i 7]]) (Q [[Cl.i 0]]))))))
theorem Xrz (W : InW) (s_Skills s_Instrs i n Q) : Yzs (cxT Tryz.prog TT T9 1000 50) 1000 58 [.agg [.rs _ s_Skills, .rs _ s_Instrs], .si .i64 i, .si .i64 n] [] 0 (Y4g [(false, [.int .i64])] Q) (fun _ _ _ _ => Stuck 421) = Xlt s_Skills s_Instrs i n Q := by kernel_rfl
abbrev Xej : List AT := [.agg [.sl Ja, .sl Jb], .one (.int .i64), .one (.int .i64)]
theorem Xs9 {pre : DS -> Prop} {res : DS -> DS} (hyp_ : ∀ (W : InW) (s_Skills : Ro Ja) (s_Instrs : Ro Jb) (i n : Int), pre [[.l s_Skills.xs, .l s_Instrs.xs], [.i i], [.i n]] -> ∀ Q : DS -> Prop, Q (res [[.l s_Skills.xs, .l s_Instrs.xs], [.i i], [.i n]]) -> Xlt s_Skills s_Instrs i n Q) : PureOk Tryz.prog 58 Xej [(false, [.int .i64])] pre res :=
 PureOk.of' (fun W => @TT W) (fun W => @Xc W) Xa T9 1000 50 fun W s_Skills s_Instrs i n hp =>
  (Xrz W s_Skills s_Instrs i n (fun o => o = res [[.l s_Skills.xs, .l s_Instrs.xs], [.i i], [.i n]])).mpr (hyp_ W s_Skills s_Instrs i n hp _ rfl)
abbrev Xdp (ds : DS) : DS := match ds with | [[.l sk, .l is], [.i i], [.i n]] => [[.i (Sp.askE sk is i n)]] | _ => []
theorem okask : PureOk Tryz.prog 58 Xej [(false, [.int .i64])] (fun _ => True) Xdp :=
 Xs9 fun W sk is i n _ Q h => by
  unfold Xlt;have hm := is.len;simp only [maxLen] at hm;simp only [Xdp, Sp.askE] at h;simp only [out1]
  repeat' (first | omega|intro _|with_reducible first|apply vifd|apply vifn|apply vifq|apply vifq0|apply vifq1|apply vifb|apply vif|apply nedd|apply ned2|apply ned|apply ar64|apply Xb|exact True.intro|assumption|rfl|apply And.intro)
  all_goals ((repeat' split at h) <;> first | exact h | omega | (simp_all; done) | (simp_all; omega))
def Xsh : PC Tryz.prog := ⟨58, Xej, [(false, [.int .i64])], fun _ => True, Xdp, okask⟩
def Tb : Tab Tryz.prog := ⟨[Xkd, Xc8, Xsh], [], []⟩
def Xcc [W : InW] (s_Skills : Ro Ja) (s_Instrs : Ro Jb) (i n : Int) (Q : DS -> Prop) : Prop :=
 Pre True (Vif (!decide (Sp.askE s_Skills.xs s_Instrs.xs i n = 0)) (Q [[Cl.i 0, Cl.i 0], [Cl.i (Sp.askE s_Skills.xs s_Instrs.xs i n)]]) (Need (decide (0 <= i) && decide (i < (↑(s_Instrs.xs.length) : Int))) (Need (decide (i.toNat < s_Instrs.xs.length)) (Pre (Sp.Small (cel s_Instrs.xs i.toNat (0+1)).int /\ Sp.Small (cel s_Instrs.xs i.toNat (Zh + 1 + 1)).int /\ Sp.Small n) (Vif (decide (Sp.bhHi (cel s_Instrs.xs i.toNat (0+1)).int n < Sp.bhLo (cel s_Instrs.xs i.toNat (Zh + 1 + 1)).int n)) (Q [[Cl.i 0, Cl.i 0], [Cl.i 9]]) (Q [[Cl.i (Sp.bhLo (cel s_Instrs.xs i.toNat (Zh + 1 + 1)).int n), Cl.i (Sp.bhHi (cel s_Instrs.xs i.toNat (0+1)).int n)], [Cl.i 0]]))))))
theorem Xjl (W : InW) (s_Skills s_Instrs i n Q) : Yzs (cxT Tryz.prog TT Tb 1000 50) 1000 15 [.agg [.rs _ s_Skills, .rs _ s_Instrs], .si .i64 i, .si .i64 n] [] 0 (Y4g [(true, [.int .i64, .int .i64]), (false, [.int .i64])] Q) (fun _ _ _ _ => Stuck 421) = Xcc s_Skills s_Instrs i n Q := by kernel_rfl
abbrev Xbw : List AT := [.agg [.sl Ja, .sl Jb], .one (.int .i64), .one (.int .i64)]
theorem Xkm {pre : DS -> Prop} {res : DS -> DS} (hyp_ : ∀ (W : InW) (s_Skills : Ro Ja) (s_Instrs : Ro Jb) (i n : Int), pre [[.l s_Skills.xs, .l s_Instrs.xs], [.i i], [.i n]] -> ∀ Q : DS -> Prop, Q (res [[.l s_Skills.xs, .l s_Instrs.xs], [.i i], [.i n]]) -> Xcc s_Skills s_Instrs i n Q) : PureOk Tryz.prog 15 Xbw [(true, [.int .i64, .int .i64]), (false, [.int .i64])] pre res :=
 PureOk.of' (fun W => @TT W) (fun W => @Xc W) Xa Tb 1000 50 fun W s_Skills s_Instrs i n hp =>
  (Xjl W s_Skills s_Instrs i n (fun o => o = res [[.l s_Skills.xs, .l s_Instrs.xs], [.i i], [.i n]])).mpr (hyp_ W s_Skills s_Instrs i n hp _ rfl)
abbrev Xgo : RTs := [(true, [.int .i64, .int .i64]), (false, [.int .i64])]
abbrev Xbq (ds : DS) : DS := match ds with | [[.l sk, .l is], [.i i], [.i n]] => [[.i (Sp.bdLo sk is i n), .i (Sp.bdHi sk is i n)], [.i (Sp.bdE sk is i n)]] | _ => []
theorem Xn0 {sk is : Dt} {i n : Int} (h : Sp.askE sk is i n = 0) : Sp.SchOk sk is /\ (0 <= i /\ i < is.length) /\ (0 <= n /\ n <= 1000) := by
 unfold Sp.askE at h
 split at h
 ·rename_i h1
  split at h
  ·rename_i h2
   split at h
   ·rename_i h3;rw [Xd] at h2 h3;exact ⟨Xdv.1 h1, by omega, h3⟩
   ·omega
  ·omega
 ·rename_i h1; exact absurd h h1
theorem askB {sk is : Dt} {i n : Int} (h : Sp.askE sk is i n = 0) : -300 <= (cel is i.toNat 1).int /\ (cel is i.toNat 1).int <= (cel is i.toNat 2).int /\ (cel is i.toNat 2).int <= 300 := by
 obtain ⟨h1, h2, _⟩ := Xn0 h;exact h1.isB i.toNat (by omega)
theorem Xnd : PureOk Tryz.prog 15 Xbw Xgo (fun _ => True) Xbq :=
 Xkm fun W sk is i n _ Q h => by
  unfold Xcc;delta Zh;simp only [Nat.zero_add, Nat.reduceAdd];simp only [Xbq, Sp.bdLo, Sp.bdHi] at h;have hb : Sp.bdE sk.xs is.xs i n = if Sp.askE sk.xs is.xs i n = 0 then (if Sp.bhHi (cel is.xs i.toNat 1).int n < Sp.bhLo (cel is.xs i.toNat 2).int n then 9 else 0) else Sp.askE sk.xs is.xs i n := rfl
  have hl : Sp.bLo is.xs i.toNat = (cel is.xs i.toNat 1).int := rfl;have hh : Sp.bHi is.xs i.toNat = (cel is.xs i.toNat 2).int := rfl;rw [hl, hh] at h;refine ⟨trivial, vifn (fun e => ?_) fun e => ?_⟩
  ·rw [if_neg e] at hb;simpa [hb, e] using h
  ·obtain ⟨h1, h2, h3⟩ := Xn0 e;have h4 := askB e;rw [if_pos e] at hb;refine ned (by simp; omega) (nedd (by omega) ⟨⟨by unfold Sp.Small; omega, by unfold Sp.Small; omega, by unfold Sp.Small; omega⟩, vifd (fun e2 => ?_) fun e2 => ?_⟩)
   ·rw [if_pos e2] at hb; simpa [hb] using h
   ·rw [if_neg e2] at hb; simpa [hb] using h
def Xkf : PC Tryz.prog := ⟨15, Xbw, Xgo, fun _ => True, Xbq, Xnd⟩
namespace Tt
def nmL (fs ms : Dt) : Dt := Sp.names fs fs.length ++ ms
def ftE (fs ms : Dt) (i : Nat) : Int := if Sp.nameErr (nmL fs ms) i = 0 then (if Sp.inr (cel fs i 1).int 0 20 && Sp.inr (cel fs i 2).int 0 12 then 0 else 7) else Sp.nameErr (nmL fs ms) i
def mnE (fs ms : Dt) (i : Nat) : Int := Sp.nameErr (nmL fs ms) (fs.length + i)
def chk (fs ms : Dt) (all : Int) : Int × Int × Int :=
 if !(Sp.inr fs.length 1 6) || decide (3 < (ms.length : Int)) then (1, 0, 3)
 else if Sp.hasE (ftE fs ms) 0 fs.length then (2, Sp.idxE (ftE fs ms) 0 fs.length, ftE fs ms (Sp.idxE (ftE fs ms) 0 fs.length))
 else if Sp.hasE (mnE fs ms) 0 ms.length then (3, Sp.idxE (mnE fs ms) 0 ms.length, mnE fs ms (Sp.idxE (mnE fs ms) 0 ms.length))
 else if Sp.inr all 0 240 then (0, 0, 0) else (4, 0, 7)
def chkP (fs ms : Dt) (all : Int) : Int := (chk fs ms all).1
def chkI (fs ms : Dt) (all : Int) : Int := (chk fs ms all).2.1
def chkE (fs ms : Dt) (all : Int) : Int := (chk fs ms all).2.2
end Tt
theorem Xcm (fs ms : Dt) : (Tt.nmL fs ms).length = fs.length + ms.length := by
 unfold Tt.nmL;rw [List.length_append, Xe (Nat.le_refl _)]
theorem Xb4 {a b : Dt} {i : Nat} (h : i < a.length) : (a ++ b).getD i [] = a.getD i [] := by
 rw [List.getD_eq_getElem?_getD, List.getElem?_append_left h, <- List.getD_eq_getElem?_getD]
theorem Xbs {a b : Dt} {i : Nat} (h : a.length <= i) : (a ++ b).getD i [] = b.getD (i - a.length) [] := by
 rw [List.getD_eq_getElem?_getD, List.getElem?_append_right h, <- List.getD_eq_getElem?_getD]
theorem Xq4 {fs ms : Dt} {i : Nat} (hi : i < fs.length) : Sp.nm (Tt.nmL fs ms) i = Sp.nm fs i := by
 have hl := Xe (xs := fs) (i := fs.length) (Nat.le_refl _);rw [<- Xhw (xs := fs) (k := i) hi (Nat.le_refl _)];unfold Sp.nm Tt.nmL cel;rw [Xb4 (by omega)]
theorem Xne {fs ms : Dt} {i : Nat} (hi : fs.length <= i) : Sp.nm (Tt.nmL fs ms) i = Sp.nm ms (i - fs.length) := by
 have hl := Xe (xs := fs) (i := fs.length) (Nat.le_refl _);unfold Sp.nm Tt.nmL cel;rw [Xbs (by omega), hl]
theorem Xnu {fs ms : Dt} (h1 : Sp.NamesOk fs) (h2 : Sp.NamesOk ms) : Sp.NamesOk (Tt.nmL fs ms) := fun i => by
 by_cases hi : i < fs.length
 ·rw [Xq4 hi]; exact h1 i
 ·rw [Xne (by omega)]; exact h2 _
def Tn1 : Tab Tryz.prog := ⟨[Xcl], [], []⟩
def Xf4 [InW] (e : List Ed) (K : Nat -> List Ed -> Prop) : Prop := match e with
 | [.ro _ xs, .i i, .i k] => Pre (0 <= k /\ k <= i /\ i < xs.xs.length) (Vif (Sp.dup xs.xs (Sp.nm xs.xs i.toNat) k.toNat (i.toNat - k.toNat)) (K 1 []) (K 0 []))
 | _ => False
def Xie : LC where
 len := 26
 T := [(0, .rs Jd), (1, .int .i64), (5, .int .i64)]
 H := []
 W := ([4] ++ rgg 12 14)
 outs := [⟨.exit 0, [], [], ([0, 1, 4, 5] ++ rgg 12 14)⟩, ⟨.ret, [(4, (.lit (.int .i64 5)))], [], ([0, 1, 5] ++ rgg 12 14)⟩]
 spec := Xf4
def Xe4 [W : InW] (xs : Ro Jd) (i k : Int) (A : List Ed -> Prop) (K : Nat -> List Ed -> Prop) : Prop :=
 Vif (decide (k < i)) (Need (decide (0 <= k) && decide (k < (↑(xs.xs.length) : Int))) (Need (decide (k.toNat < xs.xs.length)) (Need (decide (0 <= i) && decide (i < (↑(xs.xs.length) : Int))) (Need (decide (i.toNat < xs.xs.length)) (Vif (eqS (cel xs.xs k.toNat (0 : Nat)).str (cel xs.xs i.toNat (0 : Nat)).str) (K (0+1) []) (Ar .i64 (k + 1) fun z => A [.ro _ xs, .i i, .i z])))))) (K 0 [])
theorem Xoo (W : InW) (xs i k A K) : Ygb { cxT Tryz.prog TT Tn1 1000 50 with fn := 22 } 1000 (Ypx Tryz.prog 22 5) (Yeo 26 [(0, .rs _ xs), (1, .si .i64 i), (5, .si .i64 k)] ([4] ++ rgg 12 14)) [] (Yw5 Xie A K) = Xe4 xs i k A K := by kernel_rfl
def Xhf : Prop := ∀ (W : InW) (body a : Code), (Tryz.prog.funcs[22]?).bind (·.body) = some body -> a ∈ Y1 body -> Yg1 a = 5 -> @Yod W Tryz.prog a (@Yv5 W Xie)
theorem Xp9 (meas : [InW] -> List Ed -> Nat) (hyp_ : ∀ (W : InW) xs i k K, Xf4 [.ro _ xs, .i i, .i k] K -> ∀ A : List Ed -> Prop, (∀ e, meas e < meas [.ro _ xs, .i i, .i k] -> Xf4 e K -> A e) -> Xe4 xs i k A K) : Xhf :=
 LE.okOf' (fun W => @TT W) (fun W => @Xc W) Xa Tn1 1000 50 (by kernel_rfl) Xie (fun W => @meas W) fun W xs i k K hs =>
  (Xoo W xs i k (fun e => meas e < meas [.ro _ xs, .i i, .i k] /\ Xf4 e K) K).mpr (hyp_ W xs i k K hs _ fun e h1 h2 => ⟨h1, h2⟩)
theorem Xts : Xhf := Xp9 (fun e => match e with | [_, .i i, .i k] => (i - k).toNat | _ => 0) fun W xs i k K hs A hA => by
 obtain ⟨⟨h0, h1, h2⟩, hk⟩ := hs;unfold Xe4;have hm := xs.len;simp only [maxLen] at hm;have ez : (k + 1).toNat = k.toNat + 1 := by omega
 refine vifd (fun e => ?_) fun e => ?_
 ·rw [show i.toNat - k.toNat = (i.toNat - (k.toNat + 1)) + 1 by omega] at hk;simp only [Sp.dup] at hk;have go : Vif (Sp.dup xs.xs (Sp.nm xs.xs i.toNat) (k.toNat + 1) (i.toNat - (k.toNat + 1))) (K 1 []) (K 0 []) -> A [.ro _ xs, .i i, .i (k + 1)] := fun h => hA _ (by show (i - (k + 1)).toNat < (i - k).toNat; omega) ⟨⟨by omega, by omega, h2⟩, by rw [ez]; exact h⟩;clear hA
  repeat' (first | omega|intro _|with_reducible first|apply vifd|apply vifn|apply vifq|apply vifq0|apply vifq1|apply vifb|apply vif|apply nedd|apply ned2|apply ned|apply ar64|apply Xb|exact True.intro|assumption|rfl|apply And.intro)
  all_goals first | (refine hk.1 ?_; simp [Sp.nm, *]; done) | (refine go ?_; simp only [Sp.nm, *, Bool.false_or] at hk ⊢; exact hk) | skip
 ·rw [show i.toNat - k.toNat = 0 by omega] at hk;exact hk.2 rfl
def Xuq : LE Tryz.prog := ⟨22, 5, fun W => @Yv5 W Xie, Xts⟩
def Tn2 : Tab Tryz.prog := ⟨[Xcl], [Xuq], []⟩
abbrev Xdj (ds : DS) : DS := match ds with | [[.l xs], [.i i]] => [[.i (Sp.nameErr xs i.toNat)]] | _ => []
abbrev Xj7 (ds : DS) : Prop := match ds with | [[.l xs], [.i i]] => (0 <= i /\ i < xs.length) /\ Sp.NamesOk xs | _ => False
def Xlm [W : InW] (xs : Ro Jd) (i : Int) (Q : DS -> Prop) : Prop :=
 Need (decide (0 <= i) && decide (i < (↑(xs.xs.length) : Int))) (Need (decide (i.toNat < xs.xs.length)) (Pre ((cel xs.xs i.toNat (0 : Nat)).str.size <= 9223372036854775807) (Vif (!Bk.nameOk (cel xs.xs i.toNat (0 : Nat)).str) (Q [[Cl.i 6]]) (Pre (Ze <= 0 /\ 0 <= i /\ i < (↑(xs.xs.length) : Int)) (Vif (Sp.dup xs.xs (Sp.nm xs.xs i.toNat) (Int.toNat Ze) (i.toNat - Int.toNat Ze)) (Q [[Cl.i 5]]) (Q [[Cl.i 0]]))))))
theorem Xrq (W : InW) (xs i Q) : Yzs (cxT Tryz.prog TT Tn2 1000 50) 1000 22 [.rs _ xs, .si .i64 i] [] 0 (Y4g [(false, [.int .i64])] Q) (fun _ _ _ _ => Stuck 421) = Xlm xs i Q := by kernel_rfl
abbrev Xea : List AT := [.one (.sl Jd), .one (.int .i64)]
theorem Xs0 {pre : DS -> Prop} {res : DS -> DS} (hyp_ : ∀ (W : InW) (xs : Ro Jd) (i : Int), pre [[.l xs.xs], [.i i]] -> ∀ Q : DS -> Prop, Q (res [[.l xs.xs], [.i i]]) -> Xlm xs i Q) : PureOk Tryz.prog 22 Xea [(false, [.int .i64])] pre res :=
 PureOk.of' (fun W => @TT W) (fun W => @Xc W) Xa Tn2 1000 50 fun W xs i hp =>
  (Xrq W xs i (fun o => o = res [[.l xs.xs], [.i i]])).mpr (hyp_ W xs i hp _ rfl)
theorem oknmd : PureOk Tryz.prog 22 Xea [(false, [.int .i64])] Xj7 Xdj :=
 Xs0 fun W xs i hp Q h => by
  obtain ⟨⟨h0, h1⟩, hn⟩ : (0 <= i /\ i < xs.xs.length) /\ Sp.NamesOk xs.xs := hp;have hs := hn i.toNat;unfold Xlm;delta Ze;simp only [Xdj, Sp.nameErr] at h;have hs' : (cel xs.xs i.toNat 0).str.size <= 9223372036854775807 := hs;refine ned (by simp; omega) (nedd (by omega) (Xb hs' (vif (fun e => ?_) fun e => ?_)))
  ·have e' : Bk.nameOk (cel xs.xs i.toNat 0).str = false := by simpa using e
   rw [show Sp.nm xs.xs i.toNat = (cel xs.xs i.toNat 0).str from rfl] at h;rw [e'] at h; exact h
  ·have e' : Bk.nameOk (cel xs.xs i.toNat 0).str = true := by simpa using e
   rw [show Sp.nm xs.xs i.toNat = (cel xs.xs i.toNat 0).str from rfl] at h;rw [e'] at h;rw [show Int.toNat 0 = 0 from rfl, Nat.sub_zero];refine Xb ⟨by omega, by omega, by omega⟩ (vif (fun e2 => ?_) fun e2 => ?_)
   ·rw [show Sp.dup xs.xs (cel xs.xs i.toNat 0).str 0 i.toNat = true from e2] at h; exact h
   ·rw [show Sp.dup xs.xs (cel xs.xs i.toNat 0).str 0 i.toNat = false from e2] at h; exact h
def Xsd : PC Tryz.prog := ⟨22, Xea, [(false, [.int .i64])], Xj7, Xdj, oknmd⟩
def Xfu [InW] (e : List Ed) (K : Nat -> List Ed -> Prop) : Prop := match e with
 | [.i i, .ro _ fs, .ro _ ms, .i all, .l ns] => Pre (0 <= i /\ i <= fs.xs.length /\ fs.xs.length <= 6 /\ ns = Sp.names fs.xs i.toNat) (K 0 [.ro _ fs, .ro _ ms, .i all, .l (Sp.names fs.xs fs.xs.length)])
 | _ => False
def Xh4 : LC where
 len := 25
 T := [(1, (.ptr 1 0)), (3, (.row 6)), (4, .int .i64)]
 H := [(1, .blk 29 [.rs Jb, .rs Jd, .int .i64]), (6, .arr 9 Jd)]
 W := (rgg 5 16)
 outs := [⟨.exit 0, [(1, (.ptr 1 0)), (3, (.row 9))], [(1, .blk 29 [.rs Jb, .rs Jd, .int .i64]), (9, .arr 9 Jd)], (rgg 4 17)⟩]
 spec := Xfu
def Xeu [W : InW] (i : Int) (fs : Ro Jb) (ms : Ro Jd) (all : Int) (ns : Dt) (A : List Ed -> Prop) (K : Nat -> List Ed -> Prop) : Prop :=
 Vif (decide (i < (↑(fs.xs.length) : Int))) (Need (decide (0 <= i) && decide (i < (↑(fs.xs.length) : Int))) (Need (decide (i.toNat < fs.xs.length)) (Need (decide ((ns.length + [[Cl.s (cel fs.xs i.toNat (0 : Nat)).str]].length) * 16 <= 140737488355328)) (Ar .i64 (i + 1) fun z => A [.i z, .ro _ fs, .ro _ ms, .i all, .l (ns ++ [[Cl.s (cel fs.xs i.toNat (0 : Nat)).str]])])))) (K 0 [.ro _ fs, .ro _ ms, .i all, .l ns])
theorem Xoe (W : InW) (i fs ms all ns A K) : Ygb { cxT Tryz.prog TT T0 1000 50 with fn := 21 } 1000 (Ypx Tryz.prog 21 4) (Yeo 25 [(1, .ptr 1 0), (3, .rw 6), (4, .si .i64 i)] (rgg 5 16)) [(1, .blk 29 [.rs _ fs, .rs _ ms, .si .i64 all]), (6, .arr 9 Jd ns)] (Yw5 Xh4 A K) = Xeu i fs ms all ns A K := by kernel_rfl
def Xg5 : Prop := ∀ (W : InW) (body a : Code), (Tryz.prog.funcs[21]?).bind (·.body) = some body -> a ∈ Y1 body -> Yg1 a = 4 -> @Yod W Tryz.prog a (@Yv5 W Xh4)
theorem Xpz (meas : [InW] -> List Ed -> Nat) (hyp_ : ∀ (W : InW) i fs ms all ns K, Xfu [.i i, .ro _ fs, .ro _ ms, .i all, .l ns] K -> ∀ A : List Ed -> Prop, (∀ e, meas e < meas [.i i, .ro _ fs, .ro _ ms, .i all, .l ns] -> Xfu e K -> A e) -> Xeu i fs ms all ns A K) : Xg5 :=
 LE.okOf' (fun W => @TT W) (fun W => @Xc W) Xa T0 1000 50 (by kernel_rfl) Xh4 (fun W => @meas W) fun W i fs ms all ns K hs =>
  (Xoe W i fs ms all ns (fun e => meas e < meas [.i i, .ro _ fs, .ro _ ms, .i all, .l ns] /\ Xfu e K) K).mpr (hyp_ W i fs ms all ns K hs _ fun e h1 h2 => ⟨h1, h2⟩)
theorem Xti : Xg5 := Xpz (fun e => match e with | .i i :: .ro _ fs :: _ => ((fs.xs.length : Int) - i).toNat | _ => 0) fun W i fs ms all ns K hs A hA => by
 obtain ⟨⟨h0, h1, h6, rfl⟩, hk⟩ := hs;unfold Xeu;refine vifd (fun e => ?_) fun e => ?_
 ·have go := hA [.i (i + 1), .ro _ fs, .ro _ ms, .i all, .l (Sp.names fs.xs (i + 1).toNat)] (by show ((fs.xs.length : Int) - (i + 1)).toNat < ((fs.xs.length : Int) - i).toNat; omega) ⟨⟨by omega, by omega, h6, rfl⟩, hk⟩;rw [show (i + 1).toNat = i.toNat + 1 by omega, <- Xbe (by omega)] at go;have hlen := Xe (xs := fs.xs) (i := i.toNat) (by omega);clear hA hk
  repeat' (first | omega|intro _|with_reducible first|apply vifd|apply vifn|apply vifq|apply vifq0|apply vifq1|apply vifb|apply vif|apply nedd|apply ned2|apply ned|apply ar64|apply Xb|exact True.intro|assumption|rfl|apply And.intro)
  all_goals first | exact go | (simp only [List.length_cons, List.length_nil, hlen]; omega) | skip
 ·rw [show i.toNat = fs.xs.length by omega];exact hk
def Xug : LE Tryz.prog := ⟨21, 4, fun W => @Yv5 W Xh4, Xti⟩
def Tn3 : Tab Tryz.prog := ⟨[], [Xug], []⟩
abbrev Xbo (ds : DS) : DS := match ds with | [[.l fs, .l ms, .i all]] => [[.l (Tt.nmL fs ms)]] | _ => []
abbrev Xcj (ds : DS) : Prop := match ds with | [[.l fs, .l ms, .i all]] => fs.length <= 6 /\ ms.length <= 3 | _ => False
def Xlf [W : InW] (c_Fs : Ro Jb) (c_Ms : Ro Jd) (c_All : Int) (Q : DS -> Prop) : Prop :=
 Pre (Ze <= 0 /\ Ze <= (↑(c_Fs.xs.length) : Int) /\ c_Fs.xs.length <= 6 /\ [] = Sp.names c_Fs.xs (Int.toNat Ze)) (Need (decide ((List.length (Sp.names c_Fs.xs (c_Fs.xs.length)) + c_Ms.xs.length) * 16 <= 140737488355328)) (Q [[Cl.l (Sp.names c_Fs.xs (c_Fs.xs.length) ++ c_Ms.xs)]]))
theorem Xrj (W : InW) (c_Fs c_Ms c_All Q) : Yzs (cxT Tryz.prog TT Tn3 1000 50) 1000 21 [.agg [.rs _ c_Fs, .rs _ c_Ms, .si .i64 c_All]] [] 0 (Y4g [(false, [.row 9 Jd])] Q) (fun _ _ _ _ => Stuck 421) = Xlf c_Fs c_Ms c_All Q := by kernel_rfl
abbrev Xd3 : List AT := [.agg [.sl Jb, .sl Jd, .int .i64]]
theorem Xst {pre : DS -> Prop} {res : DS -> DS} (hyp_ : ∀ (W : InW) (c_Fs : Ro Jb) (c_Ms : Ro Jd) (c_All : Int), pre [[.l c_Fs.xs, .l c_Ms.xs, .i c_All]] -> ∀ Q : DS -> Prop, Q (res [[.l c_Fs.xs, .l c_Ms.xs, .i c_All]]) -> Xlf c_Fs c_Ms c_All Q) : PureOk Tryz.prog 21 Xd3 [(false, [.row 9 Jd])] pre res :=
 PureOk.of' (fun W => @TT W) (fun W => @Xc W) Xa Tn3 1000 50 fun W c_Fs c_Ms c_All hp =>
  (Xrj W c_Fs c_Ms c_All (fun o => o = res [[.l c_Fs.xs, .l c_Ms.xs, .i c_All]])).mpr (hyp_ W c_Fs c_Ms c_All hp _ rfl)
theorem okrnl : PureOk Tryz.prog 21 Xd3 [(false, [.row 9 Jd])] Xcj Xbo :=
 Xst fun W fs ms all hp Q h => by
  obtain ⟨h6, h3⟩ : fs.xs.length <= 6 /\ ms.xs.length <= 3 := hp;unfold Xlf;delta Ze;simp only [Xbo, Tt.nmL] at h;have hlen := Xe (xs := fs.xs) (i := fs.xs.length) (by omega);refine ⟨⟨by omega, by omega, h6, rfl⟩, ?_⟩
  repeat' (first | omega|intro _|with_reducible first|apply vifd|apply vifn|apply vifq|apply vifq0|apply vifq1|apply vifb|apply vif|apply nedd|apply ned2|apply ned|apply ar64|apply Xb|exact True.intro|assumption|rfl|apply And.intro)
  all_goals first | exact h | (simp only [List.length_cons, List.length_nil, hlen]; omega) | skip
def Xr8 : PC Tryz.prog := ⟨21, Xd3, [(false, [.row 9 Jd])], Xcj, Xbo, okrnl⟩
abbrev Xcg (ds : DS) : DS := match ds with | [[.i n], [.i lo], [.i hi]] => [[.b (Sp.inr n lo hi)]] | _ => []
def Xn2 [W : InW] (n lo hi : Int) (Q : DS -> Prop) : Prop :=
 Vif (decide (lo <= n)) (Q [[Cl.b (decide (n <= hi))]]) (Q [[Cl.b false]])
theorem Xru (W : InW) (n lo hi Q) : Yzs (cxT Tryz.prog TT T0 1000 50) 1000 20 [.si .i64 n, .si .i64 lo, .si .i64 hi] [] 0 (Y4g [(false, [.bool])] Q) (fun _ _ _ _ => Stuck 421) = Xn2 n lo hi Q := by kernel_rfl
abbrev Xee : List AT := [.one (.int .i64), .one (.int .i64), .one (.int .i64)]
theorem Xs4 {pre : DS -> Prop} {res : DS -> DS} (hyp_ : ∀ (W : InW) (n lo hi : Int), pre [[.i n], [.i lo], [.i hi]] -> ∀ Q : DS -> Prop, Q (res [[.i n], [.i lo], [.i hi]]) -> Xn2 n lo hi Q) : PureOk Tryz.prog 20 Xee [(false, [.bool])] pre res :=
 PureOk.of' (fun W => @TT W) (fun W => @Xc W) Xa T0 1000 50 fun W n lo hi hp =>
  (Xru W n lo hi (fun o => o = res [[.i n], [.i lo], [.i hi]])).mpr (hyp_ W n lo hi hp _ rfl)
theorem okinx : PureOk Tryz.prog 20 Xee [(false, [.bool])] (fun _ => True) Xcg :=
 Xs4 fun W n lo hi _ Q h => vif (fun e => by simpa [Xcg, Sp.inr, e] using h) fun e => by simpa [Xcg, Sp.inr, e] using h
def Xgu : PC Tryz.prog := ⟨20, Xee, [(false, [.bool])], fun _ => True, Xcg, okinx⟩
def Tn4 : Tab Tryz.prog := ⟨[Xgu, Xsd], [], []⟩
def Xfw [InW] (e : List Ed) (K : Nat -> List Ed -> Prop) : Prop := match e with
 | [.i i, .ro _ fs, .ro _ ms, .i all, .l L] => Pre (0 <= i /\ i <= fs.xs.length /\ fs.xs.length <= 6 /\ ms.xs.length <= 3 /\ Sp.NamesOk fs.xs /\ Sp.NamesOk ms.xs /\ L = Tt.nmL fs.xs ms.xs) (Vif (Sp.hasE (Tt.ftE fs.xs ms.xs) i.toNat (fs.xs.length - i.toNat))
   (K 1 [.i (Sp.idxE (Tt.ftE fs.xs ms.xs) i.toNat (fs.xs.length - i.toNat)), .i (Tt.ftE fs.xs ms.xs (Sp.idxE (Tt.ftE fs.xs ms.xs) i.toNat (fs.xs.length - i.toNat)))]) (K 0 [.ro _ fs, .ro _ ms, .i all, .l L]))
 | _ => False
def Xh6 : LC where
 len := 81
 T := [(1, (.ptr 1 0)), (5, (.row 4)), (6, .int .i64)]
 H := [(1, .blk 29 [.rs Jb, .rs Jd, .int .i64]), (4, .arr 9 Jd)]
 W := ([2, 3, 4, 7] ++ rgg 23 36)
 outs := [⟨.exit 0, [(1, (.ptr 1 0)), (5, (.row 4))], [(1, .blk 29 [.rs Jb, .rs Jd, .int .i64]), (4, .arr 9 Jd)], ([2, 3, 4, 6, 7] ++ rgg 23 36)⟩, ⟨.ret, [(2, (.lit (.int .i64 2))), (3, .int .i64), (4, .int .i64)], [], ([1, 5, 6, 7] ++ rgg 23 36)⟩]
 spec := Xfw
def Xew [W : InW] (i : Int) (fs : Ro Jb) (ms : Ro Jd) (all : Int) (L : Dt) (A : List Ed -> Prop) (K : Nat -> List Ed -> Prop) : Prop :=
 Vif (decide (i < (↑(fs.xs.length) : Int))) (Pre ((0 <= i /\ i < (↑(L.length) : Int)) /\ Sp.NamesOk L) (Vif (decide (Sp.nameErr L i.toNat = 0)) (Need (decide (0 <= i) && decide (i < (↑(fs.xs.length) : Int))) (Need (decide (i.toNat < fs.xs.length)) (Pre True (Vif (!Sp.inr (cel fs.xs i.toNat (0+1)).int (0 : Int) (20 : Int)) (K (0+1) [.i i, .i (7 : Int)]) (Need (decide (0 <= i) && decide (i < (↑(fs.xs.length) : Int))) (Need (decide (i.toNat < fs.xs.length)) (Pre True (Vif (!Sp.inr (cel fs.xs i.toNat (1+1)).int (0 : Int) (12 : Int)) (K (0+1) [.i i, .i (7 : Int)]) (Vif (!decide (Sp.nameErr L i.toNat = 0)) (K (0+1) [.i i, .i (Sp.nameErr L i.toNat)]) (Ar .i64 (i + 1) fun z => A [.i z, .ro _ fs, .ro _ ms, .i all, .l L])))))))))) (Vif (!decide (Sp.nameErr L i.toNat = 0)) (K (0+1) [.i i, .i (Sp.nameErr L i.toNat)]) (Ar .i64 (i + 1) fun z => A [.i z, .ro _ fs, .ro _ ms, .i all, .l L])))) (K 0 [.ro _ fs, .ro _ ms, .i all, .l L])
theorem Xog (W : InW) (i fs ms all L A K) : Ygb { cxT Tryz.prog TT Tn4 1000 50 with fn := 5 } 1000 (Ypx Tryz.prog 5 6) (Yeo 81 [(1, .ptr 1 0), (5, .rw 4), (6, .si .i64 i)] ([2, 3, 4, 7] ++ rgg 23 36)) [(1, .blk 29 [.rs _ fs, .rs _ ms, .si .i64 all]), (4, .arr 9 Jd L)] (Yw5 Xh6 A K) = Xew i fs ms all L A K := by kernel_rfl
def Xg7 : Prop := ∀ (W : InW) (body a : Code), (Tryz.prog.funcs[5]?).bind (·.body) = some body -> a ∈ Y1 body -> Yg1 a = 6 -> @Yod W Tryz.prog a (@Yv5 W Xh6)
theorem Xp1 (meas : [InW] -> List Ed -> Nat) (hyp_ : ∀ (W : InW) i fs ms all L K, Xfw [.i i, .ro _ fs, .ro _ ms, .i all, .l L] K -> ∀ A : List Ed -> Prop, (∀ e, meas e < meas [.i i, .ro _ fs, .ro _ ms, .i all, .l L] -> Xfw e K -> A e) -> Xew i fs ms all L A K) : Xg7 :=
 LE.okOf' (fun W => @TT W) (fun W => @Xc W) Xa Tn4 1000 50 (by kernel_rfl) Xh6 (fun W => @meas W) fun W i fs ms all L K hs =>
  (Xog W i fs ms all L (fun e => meas e < meas [.i i, .ro _ fs, .ro _ ms, .i all, .l L] /\ Xfw e K) K).mpr (hyp_ W i fs ms all L K hs _ fun e h1 h2 => ⟨h1, h2⟩)
theorem Xtk : Xg7 := Xp1 (fun e => match e with | .i i :: .ro _ fs :: _ => ((fs.xs.length : Int) - i).toNat | _ => 0) fun W i fs ms all L K hs A hA => by
 obtain ⟨⟨h0, h1, h6, h3, n1, n2, rfl⟩, hk⟩ := hs;unfold Xew;have hl := Xcm fs.xs ms.xs;refine vifd (fun e => ?_) fun e => ?_
 ·rw [show fs.xs.length - i.toNat = (fs.xs.length - (i.toNat + 1)) + 1 by omega] at hk;obtain ⟨g1, g2⟩ := Xjc (K1 := fun j e => K 1 [.i j, .i e]) hk;rw [Int.toNat_of_nonneg h0] at g1;have ez : (i + 1).toNat = i.toNat + 1 := by omega
  have hA' : Tt.ftE fs.xs ms.xs i.toNat = 0 -> A [.i (i + 1), .ro _ fs, .ro _ ms, .i all, .l (Tt.nmL fs.xs ms.xs)] := fun f => hA _ (by show ((fs.xs.length : Int) - (i + 1)).toNat < ((fs.xs.length : Int) - i).toNat; omega) ⟨⟨by omega, by omega, h6, h3, n1, n2, rfl⟩, by rw [ez]; exact g2 f⟩;have bad : ∀ n, Tt.ftE fs.xs ms.xs i.toNat = n -> n ≠ 0 -> K 1 [.i i, .i n] := fun n hn h => by rw [<- hn]; exact g1 (by rw [hn]; exact h)
  have nok := Xnu n1 n2;have hin : 0 <= i /\ i < ((Tt.nmL fs.xs ms.xs).length : Int) := by omega
  have eS := Lib.hid (show Tt.ftE fs.xs ms.xs i.toNat = if Sp.nameErr (Tt.nmL fs.xs ms.xs) i.toNat = 0 then (if Sp.inr (cel fs.xs i.toNat 1).int 0 20 && Sp.inr (cel fs.xs i.toNat 2).int 0 12 then 0 else 7) else Sp.nameErr (Tt.nmL fs.xs ms.xs) i.toNat from rfl);clear g1 g2 hk hA n1 n2;simp only [Nat.zero_add, Nat.reduceAdd];generalize Tt.nmL fs.xs ms.xs = L at *;generalize Sp.nameErr L i.toNat = E at *;generalize Tt.ftE fs.xs ms.xs i.toNat = F at *;generalize Sp.inr (cel fs.xs i.toNat 1).int 0 20 = a at *;generalize Sp.inr (cel fs.xs i.toNat 2).int 0 12 = b at *
  repeat' (first | (with_reducible refine Xb ⟨hin, nok⟩ ?_) | omega|intro _|with_reducible first|apply vifd|apply vifn|apply vifq|apply vifq0|apply vifq1|apply vifb|apply vif|apply nedd|apply ned2|apply ned|apply ar64|apply Xb|exact True.intro|assumption|rfl|apply And.intro)
  all_goals first | exact bad _ (by rw [eS.out]; (repeat' split) <;> first | omega | simp_all) (by omega) | exact hA' (by rw [eS.out]; (repeat' split) <;> first | omega | simp_all) | skip
 ·rw [show fs.xs.length - i.toNat = 0 by omega] at hk;exact hk.2 rfl
def Xui : LE Tryz.prog := ⟨5, 6, fun W => @Yv5 W Xh6, Xtk⟩
def Xfv [InW] (e : List Ed) (K : Nat -> List Ed -> Prop) : Prop := match e with
 | [.i i, .ro _ fs, .ro _ ms, .i all, .l L] => Pre (0 <= i /\ i <= ms.xs.length /\ fs.xs.length <= 6 /\ ms.xs.length <= 3 /\ Sp.NamesOk fs.xs /\ Sp.NamesOk ms.xs /\ L = Tt.nmL fs.xs ms.xs) (Vif (Sp.hasE (Tt.mnE fs.xs ms.xs) i.toNat (ms.xs.length - i.toNat))
   (K 1 [.i (Sp.idxE (Tt.mnE fs.xs ms.xs) i.toNat (ms.xs.length - i.toNat)), .i (Tt.mnE fs.xs ms.xs (Sp.idxE (Tt.mnE fs.xs ms.xs) i.toNat (ms.xs.length - i.toNat)))]) (K 0 [.ro _ fs, .ro _ ms, .i all]))
 | _ => False
def Xh5 : LC where
 len := 81
 T := [(1, (.ptr 1 0)), (5, (.row 4)), (8, .int .i64)]
 H := [(1, .blk 29 [.rs Jb, .rs Jd, .int .i64]), (4, .arr 9 Jd)]
 W := ([2, 3, 4, 9] ++ rgg 59 18)
 outs := [⟨.exit 2, [(1, (.ptr 1 0))], [(1, .blk 29 [.rs Jb, .rs Jd, .int .i64])], (rgg 2 4 ++ [8, 9] ++ rgg 59 18)⟩, ⟨.ret, [(2, (.lit (.int .i64 3))), (3, .int .i64), (4, .int .i64)], [], ([1, 5, 8, 9] ++ rgg 59 18)⟩]
 spec := Xfv
def Xev [W : InW] (i : Int) (fs : Ro Jb) (ms : Ro Jd) (all : Int) (L : Dt) (A : List Ed -> Prop) (K : Nat -> List Ed -> Prop) : Prop :=
 Vif (decide (i < (↑(ms.xs.length) : Int))) (Ar .i64 ((↑(fs.xs.length) : Int) + i) fun z => Pre ((0 <= z /\ z < (↑(L.length) : Int)) /\ Sp.NamesOk L) (Vif (!decide (Sp.nameErr L z.toNat = 0)) (K (0+1) [.i i, .i (Sp.nameErr L z.toNat)]) (Ar .i64 (i + 1) fun z => A [.i z, .ro _ fs, .ro _ ms, .i all, .l L]))) (K 0 [.ro _ fs, .ro _ ms, .i all])
theorem Xof (W : InW) (i fs ms all L A K) : Ygb { cxT Tryz.prog TT Tn4 1000 50 with fn := 5 } 1000 (Ypx Tryz.prog 5 14) (Yeo 81 [(1, .ptr 1 0), (5, .rw 4), (8, .si .i64 i)] ([2, 3, 4, 9] ++ rgg 59 18)) [(1, .blk 29 [.rs _ fs, .rs _ ms, .si .i64 all]), (4, .arr 9 Jd L)] (Yw5 Xh5 A K) = Xev i fs ms all L A K := by kernel_rfl
def Xg6 : Prop := ∀ (W : InW) (body a : Code), (Tryz.prog.funcs[5]?).bind (·.body) = some body -> a ∈ Y1 body -> Yg1 a = 14 -> @Yod W Tryz.prog a (@Yv5 W Xh5)
theorem Xp0 (meas : [InW] -> List Ed -> Nat) (hyp_ : ∀ (W : InW) i fs ms all L K, Xfv [.i i, .ro _ fs, .ro _ ms, .i all, .l L] K -> ∀ A : List Ed -> Prop, (∀ e, meas e < meas [.i i, .ro _ fs, .ro _ ms, .i all, .l L] -> Xfv e K -> A e) -> Xev i fs ms all L A K) : Xg6 :=
 LE.okOf' (fun W => @TT W) (fun W => @Xc W) Xa Tn4 1000 50 (by kernel_rfl) Xh5 (fun W => @meas W) fun W i fs ms all L K hs =>
  (Xof W i fs ms all L (fun e => meas e < meas [.i i, .ro _ fs, .ro _ ms, .i all, .l L] /\ Xfv e K) K).mpr (hyp_ W i fs ms all L K hs _ fun e h1 h2 => ⟨h1, h2⟩)
theorem Xtj : Xg6 := Xp0 (fun e => match e with | .i i :: _ :: .ro _ ms :: _ => ((ms.xs.length : Int) - i).toNat | _ => 0) fun W i fs ms all L K hs A hA => by
 obtain ⟨⟨h0, h1, h6, h3, n1, n2, rfl⟩, hk⟩ := hs;unfold Xev;have hl := Xcm fs.xs ms.xs;refine vifd (fun e => ?_) fun e => ?_
 ·rw [show ms.xs.length - i.toNat = (ms.xs.length - (i.toNat + 1)) + 1 by omega] at hk;obtain ⟨g1, g2⟩ := Xjc (K1 := fun j e => K 1 [.i j, .i e]) hk;rw [Int.toNat_of_nonneg h0] at g1;have ez : (i + 1).toNat = i.toNat + 1 := by omega
  have hA' : Tt.mnE fs.xs ms.xs i.toNat = 0 -> A [.i (i + 1), .ro _ fs, .ro _ ms, .i all, .l (Tt.nmL fs.xs ms.xs)] := fun f => hA _ (by show ((ms.xs.length : Int) - (i + 1)).toNat < ((ms.xs.length : Int) - i).toNat; omega) ⟨⟨by omega, by omega, h6, h3, n1, n2, rfl⟩, by rw [ez]; exact g2 f⟩;have bad : ∀ n, Tt.mnE fs.xs ms.xs i.toNat = n -> n ≠ 0 -> K 1 [.i i, .i n] := fun n hn h => by rw [<- hn]; exact g1 (by rw [hn]; exact h)
  have nok := Xnu n1 n2;have hin : 0 <= (fs.xs.length : Int) + i /\ (fs.xs.length : Int) + i < ((Tt.nmL fs.xs ms.xs).length : Int) := by omega
  have eS : Tt.mnE fs.xs ms.xs i.toNat = Sp.nameErr (Tt.nmL fs.xs ms.xs) ((fs.xs.length : Int) + i).toNat := by
   rw [show ((fs.xs.length : Int) + i).toNat = fs.xs.length + i.toNat by omega]; rfl
  rw [eS] at hA' bad;clear g1 g2 hk hA n1 n2 eS
  repeat' (first | (with_reducible refine Xb ⟨hin, nok⟩ ?_) | omega|intro _|with_reducible first|apply vifd|apply vifn|apply vifq|apply vifq0|apply vifq1|apply vifb|apply vif|apply nedd|apply ned2|apply ned|apply ar64|apply Xb|exact True.intro|assumption|rfl|apply And.intro)
  all_goals first | exact bad _ rfl (by omega) | exact hA' (by omega) | (refine hA' ?_; assumption) | (refine bad _ rfl ?_; assumption) | skip
 ·rw [show ms.xs.length - i.toNat = 0 by omega] at hk;exact hk.2 rfl
def Xuh : LE Tryz.prog := ⟨5, 14, fun W => @Yv5 W Xh5, Xtj⟩
def Tn5 : Tab Tryz.prog := ⟨[Xgu, Xr8], [Xui, Xuh], []⟩
abbrev Xju (ds : DS) : DS := match ds with | [[.l fs, .l ms, .i all]] => [[.i (Tt.chkP fs ms all)], [.i (Tt.chkI fs ms all)], [.i (Tt.chkE fs ms all)]] | _ => []
abbrev Xnn (ds : DS) : Prop := match ds with | [[.l fs, .l ms, .i all]] => Sp.NamesOk fs /\ Sp.NamesOk ms | _ => False
def Zk := Int.toNat Ze
def Xra [W : InW] (c_Fs : Ro Jb) (c_Ms : Ro Jd) (c_All : Int) (Q : DS -> Prop) : Prop :=
 Pre True (Vif (!Sp.inr (↑(c_Fs.xs.length) : Int) (1 : Int) (6 : Int)) (Q [[Cl.i 1], [Cl.i 0], [Cl.i 3]]) (Vif (decide ((3 : Int) < (↑(c_Ms.xs.length) : Int))) (Q [[Cl.i 1], [Cl.i 0], [Cl.i 3]]) (Pre (c_Fs.xs.length <= 6 /\ c_Ms.xs.length <= 3) (Pre (Ze <= 0 /\ Ze <= (↑(c_Fs.xs.length) : Int) /\ c_Fs.xs.length <= 6 /\ c_Ms.xs.length <= 3 /\ Sp.NamesOk c_Fs.xs /\ Sp.NamesOk c_Ms.xs /\ Tt.nmL c_Fs.xs c_Ms.xs = Tt.nmL c_Fs.xs c_Ms.xs) (Vif (Sp.hasE (Tt.ftE c_Fs.xs c_Ms.xs) Zk (c_Fs.xs.length - Int.toNat Ze)) (Q [[Cl.i 2], [Cl.i (↑(Sp.idxE (Tt.ftE c_Fs.xs c_Ms.xs) Zk (c_Fs.xs.length - Int.toNat Ze)) : Int)], [Cl.i (Tt.ftE c_Fs.xs c_Ms.xs (Sp.idxE (Tt.ftE c_Fs.xs c_Ms.xs) Zk (c_Fs.xs.length - Int.toNat Ze)))]]) (Pre (Ze <= 0 /\ Ze <= (↑(c_Ms.xs.length) : Int) /\ c_Fs.xs.length <= 6 /\ c_Ms.xs.length <= 3 /\ Sp.NamesOk c_Fs.xs /\ Sp.NamesOk c_Ms.xs /\ Tt.nmL c_Fs.xs c_Ms.xs = Tt.nmL c_Fs.xs c_Ms.xs) (Vif (Sp.hasE (Tt.mnE c_Fs.xs c_Ms.xs) Zk (c_Ms.xs.length - Int.toNat Ze)) (Q [[Cl.i 3], [Cl.i (↑(Sp.idxE (Tt.mnE c_Fs.xs c_Ms.xs) Zk (c_Ms.xs.length - Int.toNat Ze)) : Int)], [Cl.i (Tt.mnE c_Fs.xs c_Ms.xs (Sp.idxE (Tt.mnE c_Fs.xs c_Ms.xs) Zk (c_Ms.xs.length - Int.toNat Ze)))]]) (Pre True (Vif (!Sp.inr c_All Ze (240 : Int)) (Q [[Cl.i 4], [Cl.i 0], [Cl.i 7]]) (Q [[Cl.i 0], [Cl.i 0], [Cl.i 0]]))))))))))
theorem vc_rc (W : InW) (c_Fs c_Ms c_All Q) : Yzs (cxT Tryz.prog TT Tn5 1000 50) 1000 5 [.agg [.rs _ c_Fs, .rs _ c_Ms, .si .i64 c_All]] [] 0 (Y4g [(false, [.int .i64]), (false, [.int .i64]), (false, [.int .i64])] Q) (fun _ _ _ _ => Stuck 421) = Xra c_Fs c_Ms c_All Q := by kernel_rfl
abbrev Xk8 : List AT := [.agg [.sl Jb, .sl Jd, .int .i64]]
theorem ok_rc {pre : DS -> Prop} {res : DS -> DS} (hyp_ : ∀ (W : InW) (c_Fs : Ro Jb) (c_Ms : Ro Jd) (c_All : Int), pre [[.l c_Fs.xs, .l c_Ms.xs, .i c_All]] -> ∀ Q : DS -> Prop, Q (res [[.l c_Fs.xs, .l c_Ms.xs, .i c_All]]) -> Xra c_Fs c_Ms c_All Q) : PureOk Tryz.prog 5 Xk8 [(false, [.int .i64]), (false, [.int .i64]), (false, [.int .i64])] pre res :=
 PureOk.of' (fun W => @TT W) (fun W => @Xc W) Xa Tn5 1000 50 fun W c_Fs c_Ms c_All hp =>
  (vc_rc W c_Fs c_Ms c_All (fun o => o = res [[.l c_Fs.xs, .l c_Ms.xs, .i c_All]])).mpr (hyp_ W c_Fs c_Ms c_All hp _ rfl)
theorem okrc : PureOk Tryz.prog 5 Xk8 [(false, [.int .i64]), (false, [.int .i64]), (false, [.int .i64])] Xnn Xju :=
 ok_rc fun W fs ms all hp Q h => by
  obtain ⟨n1, n2⟩ : Sp.NamesOk fs.xs /\ Sp.NamesOk ms.xs := hp;unfold Xra;delta Zk Ze;simp only [Xju, Tt.chkP, Tt.chkI, Tt.chkE, Tt.chk] at h;rw [show Int.toNat 0 = 0 from rfl, Nat.sub_zero, Nat.sub_zero];refine ⟨trivial, vifb (fun e1 => ?_) fun e1 => vifd (fun e2 => ?_) fun e2 => ?_⟩
  ·simp_all
  ·simp_all
  ·have i1 := Xd.1 e1;refine Xb ⟨by omega, by omega⟩ (Xb ⟨by omega, by omega, by omega, by omega, n1, n2, rfl⟩ (vif (fun e3 => ?_) fun e3 => Xb ⟨by omega, by omega, by omega, by omega, n1, n2, rfl⟩ (vif (fun e4 => ?_) fun e4 => Xb trivial (vifb (fun e5 => ?_) fun e5 => ?_)))) <;> clear n1 n2 <;> simp_all
def pc_rc : PC Tryz.prog := ⟨5, Xk8, [(false, [.int .i64]), (false, [.int .i64]), (false, [.int .i64])], Xnn, Xju, okrc⟩
namespace Tt
structure CodeOk (fs ms : Dt) (all : Int) : Prop where
 n1 : 1 <= fs.length
 n6 : fs.length <= 6
 m3 : ms.length <= 3
 a0 : 0 <= all
 a1 : all <= 240
 nm : ∀ i, i < fs.length + ms.length -> Sp.nameErr (nmL fs ms) i = 0
 pt : ∀ i, i < fs.length -> 0 <= (cel fs i 1).int /\ (cel fs i 1).int <= 20
 lim : ∀ i, i < fs.length -> 0 <= (cel fs i 2).int /\ (cel fs i 2).int <= 12
def pt (fs : Dt) (w : Int) : Int := if w < fs.length then (cel fs w.toNat 1).int else 0
def tot (fs l : Dt) : Nat -> Nat -> Int
 | _, 0 => 0
 | i, n + 1 => pt fs (cel l i 0).int + tot fs l (i + 1) n
structure FOk (fs : Dt) : Prop where
 n6 : fs.length <= 6
 pt : ∀ i, i < fs.length -> 0 <= (cel fs i 1).int /\ (cel fs i 1).int <= 20
structure LOk (l : Dt) : Prop where
 n : l.length <= 12
 w : ∀ i, i < l.length -> 0 <= (cel l i 0).int
end Tt
theorem Xku {f : Nat -> Int} : ∀ n i, Sp.hasE f i n = false -> ∀ k, i <= k -> k < i + n -> f k = 0
 | 0, i, _, k, h1, h2 => by omega
 | n + 1, i, h, k, h1, h2 => by
  simp only [Sp.hasE, Bool.or_eq_false_iff, Bool.not_eq_false', decide_eq_true_eq] at h;rcases Nat.eq_or_lt_of_le h1 with e | e
  ·exact e ▸ h.1
  ·exact Xku n (i + 1) h.2 k (by omega) (by omega)
theorem Xq8 {fs ms : Dt} {all : Int} (h : Tt.chkE fs ms all = 0) : Tt.CodeOk fs ms all := by
 unfold Tt.chkE Tt.chk at h
 by_cases c1 : (!(Sp.inr fs.length 1 6) || decide (3 < (ms.length : Int))) = true
 ·rw [if_pos c1] at h; cases h
 rw [if_neg c1] at h
 by_cases c2 : Sp.hasE (Tt.ftE fs ms) 0 fs.length = true
 ·rw [if_pos c2] at h;exfalso;have key : ∀ n i, Sp.hasE (Tt.ftE fs ms) i n = true -> Tt.ftE fs ms (Sp.idxE (Tt.ftE fs ms) i n) ≠ 0 := by
   intro n
   induction n with
   | zero => intro i h; cases h
   | succ n ih =>
    intro i h;simp only [Sp.hasE, Bool.or_eq_true, Bool.not_eq_true', decide_eq_false_iff_not] at h;unfold Sp.idxE
    by_cases e : Tt.ftE fs ms i = 0
    ·rw [if_pos e]; exact ih _ (h.resolve_left (fun x => x e))
    ·rw [if_neg e]; exact e
  exact key _ _ c2 h
 rw [if_neg c2] at h
 by_cases c3 : Sp.hasE (Tt.mnE fs ms) 0 ms.length = true
 ·rw [if_pos c3] at h;exfalso;have key : ∀ n i, Sp.hasE (Tt.mnE fs ms) i n = true -> Tt.mnE fs ms (Sp.idxE (Tt.mnE fs ms) i n) ≠ 0 := by
   intro n
   induction n with
   | zero => intro i h; cases h
   | succ n ih =>
    intro i h;simp only [Sp.hasE, Bool.or_eq_true, Bool.not_eq_true', decide_eq_false_iff_not] at h;unfold Sp.idxE
    by_cases e : Tt.mnE fs ms i = 0
    ·rw [if_pos e]; exact ih _ (h.resolve_left (fun x => x e))
    ·rw [if_neg e]; exact e
  exact key _ _ c3 h
 rw [if_neg c3] at h
 by_cases c4' : ¬ Sp.inr all 0 240 = true
 ·rw [if_neg c4'] at h; cases h
 have c4 : Sp.inr all 0 240 = true := Classical.not_not.1 c4';simp only [Bool.or_eq_true, Bool.not_eq_true', decide_eq_true_eq, not_or, Bool.not_eq_false] at c1;have i1 := Xd.1 c1.1;have i2 := Xd.1 c4;have f0 := Xku _ _ (Bool.not_eq_true _ ▸ c2);have m0 := Xku _ _ (Bool.not_eq_true _ ▸ c3);have fe : ∀ i, i < fs.length -> Sp.nameErr (Tt.nmL fs ms) i = 0 /\ Sp.inr (cel fs i 1).int 0 20 = true /\ Sp.inr (cel fs i 2).int 0 12 = true := fun i hi => by
  have := f0 i (Nat.zero_le _) (by omega);unfold Tt.ftE at this
  by_cases e : Sp.nameErr (Tt.nmL fs ms) i = 0
  ·rw [if_pos e] at this
   by_cases e2 : (Sp.inr (cel fs i 1).int 0 20 && Sp.inr (cel fs i 2).int 0 12) = true
   ·rw [Bool.and_eq_true] at e2;exact ⟨e, e2.1, e2.2⟩
   ·rw [if_neg e2] at this; cases this
  ·rw [if_neg e] at this; exact absurd this e
 refine ⟨by omega, by omega, by omega, i2.1, i2.2, fun i hi => ?_, fun i hi => Xd.1 (fe i hi).2.1, fun i hi => Xd.1 (fe i hi).2.2⟩
 by_cases hi2 : i < fs.length
 ·exact (fe i hi2).1
 ·have := m0 (i - fs.length) (Nat.zero_le _) (by omega);unfold Tt.mnE at this;rw [show fs.length + (i - fs.length) = i by omega] at this;exact this
theorem Xr5 {fs : Dt} (h : Tt.FOk fs) {w : Int} (hw : 0 <= w) : 0 <= Tt.pt fs w /\ Tt.pt fs w <= 20 := by
 unfold Tt.pt
 split
 ·exact h.pt w.toNat (by omega)
 ·omega
theorem Xc2 {fs l : Dt} (h : Tt.FOk fs) : ∀ n i, (∀ k, i <= k -> k < i + n -> 0 <= (cel l k 0).int) -> 0 <= Tt.tot fs l i n /\ Tt.tot fs l i n <= 20 * n
 | 0, _, _ => by simp [Tt.tot]
 | n + 1, i, hk => by
  have h1 := Xc2 h n (i + 1) fun k a b => hk k (by omega) (by omega);have h2 := Xr5 h (hk i (Nat.le_refl _) (by omega));rw [Tt.tot]; omega
theorem Tt.CodeOk.f {fs ms : Dt} {all : Int} (h : Tt.CodeOk fs ms all) : Tt.FOk fs := ⟨h.n6, h.pt⟩
abbrev Xdg (ds : DS) : DS := match ds with | [[.l fs, .l ms, .i all], [.i w]] => [[.i (Tt.pt fs w)]] | _ => []
abbrev Xj4 (ds : DS) : Prop := match ds with | [[.l fs, .l ms, .i all], [.i w]] => 0 <= w | _ => False
def Xlg [W : InW] (c_Fs : Ro Jb) (c_Ms : Ro Jd) (c_All w : Int) (Q : DS -> Prop) : Prop :=
 Vif (decide (w < (↑(c_Fs.xs.length) : Int))) (Need (decide (0 <= w) && decide (w < (↑(c_Fs.xs.length) : Int))) (Need (decide (w.toNat < c_Fs.xs.length)) (Q [[Cl.i (cel c_Fs.xs w.toNat (0+1)).int]]))) (Q [[Cl.i 0]])
theorem Xrk (W : InW) (c_Fs c_Ms c_All w Q) : Yzs (cxT Tryz.prog TT T0 1000 50) 1000 57 [.agg [.rs _ c_Fs, .rs _ c_Ms, .si .i64 c_All], .si .i64 w] [] 0 (Y4g [(false, [.int .i64])] Q) (fun _ _ _ _ => Stuck 421) = Xlg c_Fs c_Ms c_All w Q := by kernel_rfl
abbrev Xd4 : List AT := [.agg [.sl Jb, .sl Jd, .int .i64], .one (.int .i64)]
theorem Xsu {pre : DS -> Prop} {res : DS -> DS} (hyp_ : ∀ (W : InW) (c_Fs : Ro Jb) (c_Ms : Ro Jd) (c_All w : Int), pre [[.l c_Fs.xs, .l c_Ms.xs, .i c_All], [.i w]] -> ∀ Q : DS -> Prop, Q (res [[.l c_Fs.xs, .l c_Ms.xs, .i c_All], [.i w]]) -> Xlg c_Fs c_Ms c_All w Q) : PureOk Tryz.prog 57 Xd4 [(false, [.int .i64])] pre res :=
 PureOk.of' (fun W => @TT W) (fun W => @Xc W) Xa T0 1000 50 fun W c_Fs c_Ms c_All w hp =>
  (Xrk W c_Fs c_Ms c_All w (fun o => o = res [[.l c_Fs.xs, .l c_Ms.xs, .i c_All], [.i w]])).mpr (hyp_ W c_Fs c_Ms c_All w hp _ rfl)
theorem okpts : PureOk Tryz.prog 57 Xd4 [(false, [.int .i64])] Xj4 Xdg :=
 Xsu fun W fs ms all w hp Q h => by
  have hp : 0 <= w := hp;unfold Xlg;simp only [Xdg, Tt.pt] at h;refine vifd (fun e => ?_) fun e => ?_
  ·rw [if_pos e] at h;exact ned (by simp; omega) (nedd (by omega) h)
  ·rw [if_neg e] at h; exact h
def Xr9 : PC Tryz.prog := ⟨57, Xd4, [(false, [.int .i64])], Xj4, Xdg, okpts⟩
def Tn6 : Tab Tryz.prog := ⟨[Xr9], [], []⟩
def Xfo [InW] (e : List Ed) (K : Nat -> List Ed -> Prop) : Prop := match e with
 | [.ro _ l, .i n, .i i, .ro _ fs, .ro _ ms, .i all] => Pre (0 <= i /\ i <= l.xs.length /\ Tt.FOk fs.xs /\ Tt.LOk l.xs /\ 0 <= n /\ n <= 20 * i) (K 0 [.i (n + Tt.tot fs.xs l.xs i.toNat (l.xs.length - i.toNat))])
 | _ => False
def Xhy : LC where
 len := 22
 T := [(1, .rs Jc), (2, (.ptr 1 0)), (5, .int .i64), (6, .int .i64)]
 H := [(1, .blk 29 [.rs Jb, .rs Jd, .int .i64])]
 W := (rgg 7 14)
 outs := [⟨.exit 0, [(5, .int .i64)], [], ([1, 2] ++ rgg 6 15)⟩]
 spec := Xfo
def Xeo [W : InW] (l : Ro Jc) (n i : Int) (fs : Ro Jb) (ms : Ro Jd) (all : Int) (A : List Ed -> Prop) (K : Nat -> List Ed -> Prop) : Prop :=
 Vif (decide (i < (↑(l.xs.length) : Int))) (Need (decide (0 <= i) && decide (i < (↑(l.xs.length) : Int))) (Need (decide (i.toNat < l.xs.length)) (Pre ((0 : Int) <= (cel l.xs i.toNat (0 : Nat)).int) (Ar .i64 (n + Tt.pt fs.xs (cel l.xs i.toNat (0 : Nat)).int) fun z => Ar .i64 (i + 1) fun z_1 => A [.ro _ l, .i z, .i z_1, .ro _ fs, .ro _ ms, .i all])))) (K 0 [.i n])
theorem Xn8 (W : InW) (l n i fs ms all A K) : Ygb { cxT Tryz.prog TT Tn6 1000 50 with fn := 14 } 1000 (Ypx Tryz.prog 14 4) (Yeo 22 [(1, .rs _ l), (2, .ptr 1 0), (5, .si .i64 n), (6, .si .i64 i)] (rgg 7 14)) [(1, .blk 29 [.rs _ fs, .rs _ ms, .si .i64 all])] (Yw5 Xhy A K) = Xeo l n i fs ms all A K := by kernel_rfl
def Xgz : Prop := ∀ (W : InW) (body a : Code), (Tryz.prog.funcs[14]?).bind (·.body) = some body -> a ∈ Y1 body -> Yg1 a = 4 -> @Yod W Tryz.prog a (@Yv5 W Xhy)
theorem Xpt (meas : [InW] -> List Ed -> Nat) (hyp_ : ∀ (W : InW) l n i fs ms all K, Xfo [.ro _ l, .i n, .i i, .ro _ fs, .ro _ ms, .i all] K -> ∀ A : List Ed -> Prop, (∀ e, meas e < meas [.ro _ l, .i n, .i i, .ro _ fs, .ro _ ms, .i all] -> Xfo e K -> A e) -> Xeo l n i fs ms all A K) : Xgz :=
 LE.okOf' (fun W => @TT W) (fun W => @Xc W) Xa Tn6 1000 50 (by kernel_rfl) Xhy (fun W => @meas W) fun W l n i fs ms all K hs =>
  (Xn8 W l n i fs ms all (fun e => meas e < meas [.ro _ l, .i n, .i i, .ro _ fs, .ro _ ms, .i all] /\ Xfo e K) K).mpr (hyp_ W l n i fs ms all K hs _ fun e h1 h2 => ⟨h1, h2⟩)
theorem Xtc : Xgz := Xpt (fun e => match e with | .ro _ l :: _ :: .i i :: _ => ((l.xs.length : Int) - i).toNat | _ => 0) fun W l n i fs ms all K hs A hA => by
 obtain ⟨⟨h0, h1, hf, hl, h2, h3⟩, hk⟩ := hs;unfold Xeo;have h12 := hl.n;refine vifd (fun e => ?_) (fun e => ?_)
 ·have hw := hl.w i.toNat (by omega);have hb := Xr5 hf hw;rw [show l.xs.length - i.toNat = (l.xs.length - (i.toNat + 1)) + 1 by omega] at hk;simp only [Tt.tot] at hk;have go := hA [.ro _ l, .i (n + Tt.pt fs.xs (cel l.xs i.toNat 0).int), .i (i + 1), .ro _ fs, .ro _ ms, .i all] (by show ((l.xs.length : Int) - (i + 1)).toNat < ((l.xs.length : Int) - i).toNat; omega) ⟨⟨by omega, by omega, hf, hl, by omega, by omega⟩, by rw [show (i + 1).toNat = i.toNat + 1 by omega, Int.add_assoc]; exact hk⟩;clear hA hk
  repeat' (first | (with_reducible refine Xb hw ?_) | omega|intro _|with_reducible first|apply vifd|apply vifn|apply vifq|apply vifq0|apply vifq1|apply vifb|apply vif|apply nedd|apply ned2|apply ned|apply ar64|apply Xb|exact True.intro|assumption|rfl|apply And.intro)
  all_goals first | exact go | (simp only [Bool.and_eq_true, decide_eq_true_eq]; omega) | skip
 ·rw [show l.xs.length - i.toNat = 0 by omega] at hk;simp only [Tt.tot, Int.add_zero] at hk;exact hk
def Xua : LE Tryz.prog := ⟨14, 4, fun W => @Yv5 W Xhy, Xtc⟩
def Tn7 : Tab Tryz.prog := ⟨[], [Xua], []⟩
abbrev Xdf (ds : DS) : DS := match ds with | [[.l fs, .l ms, .i all], [.l l]] => [[.i (Tt.tot fs l 0 l.length)]] | _ => []
abbrev Xj1 (ds : DS) : Prop := match ds with | [[.l fs, .l ms, .i all], [.l l]] => Tt.FOk fs /\ Tt.LOk l | _ => False
def Xcw [W : InW] (c_Fs : Ro Jb) (c_Ms : Ro Jd) (c_All : Int) (l : Ro Jc) (Q : DS -> Prop) : Prop :=
 Pre ((0 : Int) <= 0 /\ (0 : Int) <= (↑(l.xs.length) : Int) /\ Tt.FOk c_Fs.xs /\ Tt.LOk l.xs /\ (0 : Int) <= 0 /\ (0 : Int) <= 20 * 0) (Q [[Cl.i ((0 : Int) + Tt.tot c_Fs.xs l.xs (Int.toNat (0 : Int)) (l.xs.length - Int.toNat (0 : Int)))]])
theorem Xl7 (W : InW) (c_Fs c_Ms c_All l Q) : Yzs (cxT Tryz.prog TT Tn7 1000 50) 1000 14 [.agg [.rs _ c_Fs, .rs _ c_Ms, .si .i64 c_All], .rs _ l] [] 0 (Y4g [(false, [.int .i64])] Q) (fun _ _ _ _ => Stuck 421) = Xcw c_Fs c_Ms c_All l Q := by kernel_rfl
abbrev Xb6 : List AT := [.agg [.sl Jb, .sl Jd, .int .i64], .one (.sl Jc)]
theorem Xmy {pre : DS -> Prop} {res : DS -> DS} (hyp_ : ∀ (W : InW) (c_Fs : Ro Jb) (c_Ms : Ro Jd) (c_All : Int) (l : Ro Jc), pre [[.l c_Fs.xs, .l c_Ms.xs, .i c_All], [.l l.xs]] -> ∀ Q : DS -> Prop, Q (res [[.l c_Fs.xs, .l c_Ms.xs, .i c_All], [.l l.xs]]) -> Xcw c_Fs c_Ms c_All l Q) : PureOk Tryz.prog 14 Xb6 [(false, [.int .i64])] pre res :=
 PureOk.of' (fun W => @TT W) (fun W => @Xc W) Xa Tn7 1000 50 fun W c_Fs c_Ms c_All l hp =>
  (Xl7 W c_Fs c_Ms c_All l (fun o => o = res [[.l c_Fs.xs, .l c_Ms.xs, .i c_All], [.l l.xs]])).mpr (hyp_ W c_Fs c_Ms c_All l hp _ rfl)
theorem Xpo : PureOk Tryz.prog 14 Xb6 [(false, [.int .i64])] Xj1 Xdf :=
 Xmy fun W fs ms all l hp Q h => by
  obtain ⟨hf, hl⟩ : Tt.FOk fs.xs /\ Tt.LOk l.xs := hp;unfold Xcw;simp only [Xdf] at h;refine ⟨⟨by omega, by omega, hf, hl, by omega, by omega⟩, ?_⟩;rw [show Int.toNat 0 = 0 from rfl, Nat.sub_zero, Int.zero_add];exact h
def Xck : PC Tryz.prog := ⟨14, Xb6, [(false, [.int .i64])], Xj1, Xdf, Xpo⟩
def Xfz [InW] (e : List Ed) (K : Nat -> List Ed -> Prop) : Prop := match e with
 | [.ro _ f2, .i n, .i i, .ro _ fs, .ro _ ms, .i all, .l ns] => Pre (f2.xs = fs.xs /\ n = fs.xs.length /\ 0 <= i /\ i <= n /\ fs.xs.length <= 6 /\ ns = Sp.names fs.xs i.toNat) (K 0 [.ro _ fs, .ro _ ms, .i all, .l (Sp.names fs.xs fs.xs.length)])
 | _ => False
def Xh9 : LC where
 len := 22
 T := [(1, (.ptr 1 0)), (2, (.row 6)), (6, .rs Jb), (7, .int .i64), (8, .int .i64)]
 H := [(1, .blk 29 [.rs Jb, .rs Jd, .int .i64]), (6, .arr 9 Jd)]
 W := ([4] ++ rgg 9 9)
 outs := [⟨.exit 0, [(1, (.ptr 1 0)), (2, (.row 9))], [(1, .blk 29 [.rs Jb, .rs Jd, .int .i64]), (9, .arr 9 Jd)], ([4] ++ rgg 6 12)⟩]
 spec := Xfz
def Xez [W : InW] (f2 : Ro Jb) (n i : Int) (fs : Ro Jb) (ms : Ro Jd) (all : Int) (ns : Dt) (A : List Ed -> Prop) (K : Nat -> List Ed -> Prop) : Prop :=
 Vif (decide (i < n)) (Need (decide (0 <= i) && decide (i < (↑(f2.xs.length) : Int))) (Need (decide (i.toNat < f2.xs.length)) (Need (decide ((ns.length + [[Cl.s (cel f2.xs i.toNat (0 : Nat)).str]].length) * 16 <= 140737488355328)) (Ar .i64 (i + 1) fun z => A [.ro _ f2, .i n, .i z, .ro _ fs, .ro _ ms, .i all, .l (ns ++ [[Cl.s (cel f2.xs i.toNat (0 : Nat)).str]])])))) (K 0 [.ro _ fs, .ro _ ms, .i all, .l ns])
theorem Xoj (W : InW) (f2 n i fs ms all ns A K) : Ygb { cxT Tryz.prog TT T0 1000 50 with fn := 85 } 1000 (Ypx Tryz.prog 85 3) (Yeo 22 [(1, .ptr 1 0), (2, .rw 6), (6, .rs _ f2), (7, .si .i64 n), (8, .si .i64 i)] ([4] ++ rgg 9 9)) [(1, .blk 29 [.rs _ fs, .rs _ ms, .si .i64 all]), (6, .arr 9 Jd ns)] (Yw5 Xh9 A K) = Xez f2 n i fs ms all ns A K := by kernel_rfl
def Xha : Prop := ∀ (W : InW) (body a : Code), (Tryz.prog.funcs[85]?).bind (·.body) = some body -> a ∈ Y1 body -> Yg1 a = 3 -> @Yod W Tryz.prog a (@Yv5 W Xh9)
theorem Xp4 (meas : [InW] -> List Ed -> Nat) (hyp_ : ∀ (W : InW) f2 n i fs ms all ns K, Xfz [.ro _ f2, .i n, .i i, .ro _ fs, .ro _ ms, .i all, .l ns] K -> ∀ A : List Ed -> Prop, (∀ e, meas e < meas [.ro _ f2, .i n, .i i, .ro _ fs, .ro _ ms, .i all, .l ns] -> Xfz e K -> A e) -> Xez f2 n i fs ms all ns A K) : Xha :=
 LE.okOf' (fun W => @TT W) (fun W => @Xc W) Xa T0 1000 50 (by kernel_rfl) Xh9 (fun W => @meas W) fun W f2 n i fs ms all ns K hs =>
  (Xoj W f2 n i fs ms all ns (fun e => meas e < meas [.ro _ f2, .i n, .i i, .ro _ fs, .ro _ ms, .i all, .l ns] /\ Xfz e K) K).mpr (hyp_ W f2 n i fs ms all ns K hs _ fun e h1 h2 => ⟨h1, h2⟩)
theorem Xtn : Xha := Xp4 (fun e => match e with | _ :: .i n :: .i i :: _ => (n - i).toNat | _ => 0) fun W f2 n i fs ms all ns K hs A hA => by
 obtain ⟨⟨hcs, rfl, h0, h1, h6, rfl⟩, hk⟩ := hs;unfold Xez;simp only [hcs];refine vifd (fun e => ?_) fun e => ?_
 ·have go := hA [.ro _ f2, .i fs.xs.length, .i (i + 1), .ro _ fs, .ro _ ms, .i all, .l (Sp.names fs.xs (i + 1).toNat)] (by show ((fs.xs.length : Int) - (i + 1)).toNat < ((fs.xs.length : Int) - i).toNat; omega) ⟨⟨hcs, rfl, by omega, by omega, h6, rfl⟩, hk⟩;rw [show (i + 1).toNat = i.toNat + 1 by omega, <- Xbe (by omega)] at go;have hlen := Xe (xs := fs.xs) (i := i.toNat) (by omega);clear hA hk
  repeat' (first | omega|intro _|with_reducible first|apply vifd|apply vifn|apply vifq|apply vifq0|apply vifq1|apply vifb|apply vif|apply nedd|apply ned2|apply ned|apply ar64|apply Xb|exact True.intro|assumption|rfl|apply And.intro)
  all_goals first | exact go | (simp only [List.length_cons, List.length_nil, hlen]; omega) | skip
 ·rw [show i.toNat = fs.xs.length by omega];exact hk
def Xul : LE Tryz.prog := ⟨85, 3, fun W => @Yv5 W Xh9, Xtn⟩
def Tp1 : Tab Tryz.prog := ⟨[], [Xul], []⟩
def Xlh [W : InW] (c_Fs : Ro Jb) (c_Ms : Ro Jd) (c_All : Int) (Q : DS -> Prop) : Prop :=
 Pre (c_Fs.xs = c_Fs.xs /\ (↑(c_Fs.xs.length) : Int) = (↑(c_Fs.xs.length) : Int) /\ Ze <= 0 /\ Ze <= (↑(c_Fs.xs.length) : Int) /\ c_Fs.xs.length <= 6 /\ [] = Sp.names c_Fs.xs (Int.toNat Ze)) (Need (decide ((List.length (Sp.names c_Fs.xs (c_Fs.xs.length)) + c_Ms.xs.length) * 16 <= 140737488355328)) (Q [[Cl.l (Sp.names c_Fs.xs (c_Fs.xs.length) ++ c_Ms.xs)]]))
theorem Xrl (W : InW) (c_Fs c_Ms c_All Q) : Yzs (cxT Tryz.prog TT Tp1 1000 50) 1000 85 [.agg [.rs _ c_Fs, .rs _ c_Ms, .si .i64 c_All]] [] 0 (Y4g [(false, [.row 9 Jd])] Q) (fun _ _ _ _ => Stuck 421) = Xlh c_Fs c_Ms c_All Q := by kernel_rfl
abbrev Xd5 : List AT := [.agg [.sl Jb, .sl Jd, .int .i64]]
theorem Xsv {pre : DS -> Prop} {res : DS -> DS} (hyp_ : ∀ (W : InW) (c_Fs : Ro Jb) (c_Ms : Ro Jd) (c_All : Int), pre [[.l c_Fs.xs, .l c_Ms.xs, .i c_All]] -> ∀ Q : DS -> Prop, Q (res [[.l c_Fs.xs, .l c_Ms.xs, .i c_All]]) -> Xlh c_Fs c_Ms c_All Q) : PureOk Tryz.prog 85 Xd5 [(false, [.row 9 Jd])] pre res :=
 PureOk.of' (fun W => @TT W) (fun W => @Xc W) Xa Tp1 1000 50 fun W c_Fs c_Ms c_All hp =>
  (Xrl W c_Fs c_Ms c_All (fun o => o = res [[.l c_Fs.xs, .l c_Ms.xs, .i c_All]])).mpr (hyp_ W c_Fs c_Ms c_All hp _ rfl)
theorem okpnl : PureOk Tryz.prog 85 Xd5 [(false, [.row 9 Jd])] Xcj Xbo :=
 Xsv fun W fs ms all hp Q h => by
  obtain ⟨h6, h3⟩ : fs.xs.length <= 6 /\ ms.xs.length <= 3 := hp;unfold Xlh;delta Ze;simp only [Xbo, Tt.nmL] at h;have hlen := Xe (xs := fs.xs) (i := fs.xs.length) (by omega);refine ⟨⟨rfl, rfl, by omega, by omega, h6, rfl⟩, ?_⟩
  repeat' (first | omega|intro _|with_reducible first|apply vifd|apply vifn|apply vifq|apply vifq0|apply vifq1|apply vifb|apply vif|apply nedd|apply ned2|apply ned|apply ar64|apply Xb|exact True.intro|assumption|rfl|apply And.intro)
  all_goals first | exact h | (simp only [List.length_cons, List.length_nil, hlen]; omega) | skip
def Xsa : PC Tryz.prog := ⟨85, Xd5, [(false, [.row 9 Jd])], Xcj, Xbo, okpnl⟩
def Xgb [InW] (e : List Ed) (K : Nat -> List Ed -> Prop) : Prop := match e with
 | [.ro _ xs, .s s, .i n, .i i] => Pre (n = (xs.xs.length : Int) /\ 0 <= i /\ i <= n) (Vif (Sp.dup xs.xs s i.toNat (xs.xs.length - i.toNat)) (K 1 [.i (Sp.dupI xs.xs s i.toNat (xs.xs.length - i.toNat))]) (K 0 []))
 | _ => False
def Xil : LC where
 len := 19
 T := [(0, .rs Jd), (1, .str), (7, .int .i64), (8, .int .i64)]
 H := []
 W := ([4, 5] ++ rgg 9 10)
 outs := [⟨.exit 0, [], [], ([0, 1, 4, 5] ++ rgg 7 12)⟩, ⟨.ret, [(4, .int .i64)], [], ([0, 1, 5] ++ rgg 7 12)⟩]
 spec := Xgb
def Xfb [W : InW] (xs : Ro Jd) (s : ByteArray) (n i : Int) (A : List Ed -> Prop) (K : Nat -> List Ed -> Prop) : Prop :=
 Vif (decide (i < n)) (Need (decide (0 <= i) && decide (i < (↑(xs.xs.length) : Int))) (Need (decide (i.toNat < xs.xs.length)) (Vif (eqS s (cel xs.xs i.toNat (0 : Nat)).str) (K (0+1) [.i i]) (Ar .i64 (i + 1) fun z => A [.ro _ xs, .s s, .i n, .i z])))) (K 0 [])
theorem Xov (W : InW) (xs s n i A K) : Ygb { cxT Tryz.prog TT T0 1000 50 with fn := 95 } 1000 (Ypx Tryz.prog 95 3) (Yeo 19 [(0, .rs _ xs), (1, .ss s), (7, .si .i64 n), (8, .si .i64 i)] ([4, 5] ++ rgg 9 10)) [] (Yw5 Xil A K) = Xfb xs s n i A K := by kernel_rfl
def Xhm : Prop := ∀ (W : InW) (body a : Code), (Tryz.prog.funcs[95]?).bind (·.body) = some body -> a ∈ Y1 body -> Yg1 a = 3 -> @Yod W Tryz.prog a (@Yv5 W Xil)
theorem Xqg (meas : [InW] -> List Ed -> Nat) (hyp_ : ∀ (W : InW) xs s n i K, Xgb [.ro _ xs, .s s, .i n, .i i] K -> ∀ A : List Ed -> Prop, (∀ e, meas e < meas [.ro _ xs, .s s, .i n, .i i] -> Xgb e K -> A e) -> Xfb xs s n i A K) : Xhm :=
 LE.okOf' (fun W => @TT W) (fun W => @Xc W) Xa T0 1000 50 (by kernel_rfl) Xil (fun W => @meas W) fun W xs s n i K hs =>
  (Xov W xs s n i (fun e => meas e < meas [.ro _ xs, .s s, .i n, .i i] /\ Xgb e K) K).mpr (hyp_ W xs s n i K hs _ fun e h1 h2 => ⟨h1, h2⟩)
theorem Xnj [InW] (a b : ByteArray) : eqS a b = eqS b a := by
 rw [Bool.eq_iff_iff, eqS_iff, eqS_iff];exact ⟨Eq.symm, Eq.symm⟩
theorem Xtz : Xhm := Xqg (fun e => match e with | _ :: _ :: .i n :: .i i :: _ => (n - i).toNat | _ => 0) fun W xs s n i K hs A hA => by
 obtain ⟨⟨rfl, h0, h1⟩, hk⟩ := hs;unfold Xfb;have hm := xs.len;simp only [maxLen] at hm;have ez : (i + 1).toNat = i.toNat + 1 := by omega
 by_cases hi : i < xs.xs.length
 ·rw [show xs.xs.length - i.toNat = (xs.xs.length - (i.toNat + 1)) + 1 by omega] at hk;simp only [Sp.dup, Sp.dupI] at hk;have go : eqS (Sp.nm xs.xs i.toNat) s = false -> A [.ro _ xs, .s s, .i xs.xs.length, .i (i + 1)] := fun f => hA _ (by show ((xs.xs.length : Int) - (i + 1)).toNat < ((xs.xs.length : Int) - i).toNat; omega) ⟨⟨rfl, by omega, by omega⟩, by
   rw [ez];rw [f, Bool.false_or] at hk;simpa using hk⟩
  have got : eqS (Sp.nm xs.xs i.toNat) s = true -> K 1 [.i i] := fun f => by
   rw [f, Bool.true_or] at hk;have := hk.1 rfl;simpa [Int.toNat_of_nonneg h0] using this
  clear hA hk;rw [Xnj] at go got
  repeat' (first | omega|intro _|with_reducible first|apply vifd|apply vifn|apply vifq|apply vifq0|apply vifq1|apply vifb|apply vif|apply nedd|apply ned2|apply ned|apply ar64|apply Xb|exact True.intro|assumption|rfl|apply And.intro)
  all_goals first | (refine got ?_; assumption) | (refine go ?_; assumption) | omega | skip
 ·rw [show xs.xs.length - i.toNat = 0 by omega] at hk;exact vifd (fun e => by omega) fun _ => hk.2 rfl
def Xux : LE Tryz.prog := ⟨95, 3, fun W => @Yv5 W Xil, Xtz⟩
def Tp2 : Tab Tryz.prog := ⟨[], [Xux], []⟩
abbrev Xdm (ds : DS) : DS := match ds with | [[.l xs], [.s s]] => [[.b (Sp.dup xs s 0 xs.length)]] | _ => []
def Xlq [W : InW] (xs : Ro Jd) (s : ByteArray) (Q : DS -> Prop) : Prop :=
 Pre ((↑(xs.xs.length) : Int) = (↑(xs.xs.length) : Int) /\ Ze <= 0 /\ Ze <= (↑(xs.xs.length) : Int)) (Vif (Sp.dup xs.xs s Zk (xs.xs.length - Int.toNat Ze)) (Q [[Cl.b (decide (Ze <= (↑(Sp.dupI xs.xs s Zk (xs.xs.length - Int.toNat Ze)) : Int)))]]) (Q [[Cl.b false]]))
theorem Xrw (W : InW) (xs s Q) : Yzs (cxT Tryz.prog TT Tp2 1000 50) 1000 122 [.rs _ xs, .ss s] [] 0 (Y4g [(false, [.bool])] Q) (fun _ _ _ _ => Stuck 421) = Xlq xs s Q := by kernel_rfl
abbrev Xeg : List AT := [.one (.sl Jd), .one (.str)]
theorem Xs6 {pre : DS -> Prop} {res : DS -> DS} (hyp_ : ∀ (W : InW) (xs : Ro Jd) (s : ByteArray), pre [[.l xs.xs], [.s s]] -> ∀ Q : DS -> Prop, Q (res [[.l xs.xs], [.s s]]) -> Xlq xs s Q) : PureOk Tryz.prog 122 Xeg [(false, [.bool])] pre res :=
 PureOk.of' (fun W => @TT W) (fun W => @Xc W) Xa Tp2 1000 50 fun W xs s hp =>
  (Xrw W xs s (fun o => o = res [[.l xs.xs], [.s s]])).mpr (hyp_ W xs s hp _ rfl)
theorem okcts : PureOk Tryz.prog 122 Xeg [(false, [.bool])] (fun _ => True) Xdm :=
 Xs6 fun W xs s hp Q h => by
  unfold Xlq;delta Zk Ze;simp only [Xdm] at h;rw [show Int.toNat 0 = 0 from rfl, Nat.sub_zero];refine ⟨⟨rfl, by omega, by omega⟩, vif (fun e => ?_) fun e => ?_⟩
  ·rw [e] at h;rw [decide_eq_true (by omega)]; exact h
  ·rw [e] at h; exact h
def Xsf : PC Tryz.prog := ⟨122, Xeg, [(false, [.bool])], fun _ => True, Xdm, okcts⟩
abbrev Xjw (ds : DS) : DS := match ds with | [[.i n], [.i lo], [.i hi]] => [[.b (!Sp.inr n lo hi)]] | _ => []
def Xrb [W : InW] (n lo hi : Int) (Q : DS -> Prop) : Prop :=
 Vif (decide (n < lo)) (Q [[Cl.b true]]) (Q [[Cl.b (decide (hi < n))]])
theorem vc_ox (W : InW) (n lo hi Q) : Yzs (cxT Tryz.prog TT T0 1000 50) 1000 53 [.si .i64 n, .si .i64 lo, .si .i64 hi] [] 0 (Y4g [(false, [.bool])] Q) (fun _ _ _ _ => Stuck 421) = Xrb n lo hi Q := by kernel_rfl
abbrev Xk9 : List AT := [.one (.int .i64), .one (.int .i64), .one (.int .i64)]
theorem ok_ox {pre : DS -> Prop} {res : DS -> DS} (hyp_ : ∀ (W : InW) (n lo hi : Int), pre [[.i n], [.i lo], [.i hi]] -> ∀ Q : DS -> Prop, Q (res [[.i n], [.i lo], [.i hi]]) -> Xrb n lo hi Q) : PureOk Tryz.prog 53 Xk9 [(false, [.bool])] pre res :=
 PureOk.of' (fun W => @TT W) (fun W => @Xc W) Xa T0 1000 50 fun W n lo hi hp =>
  (vc_ox W n lo hi (fun o => o = res [[.i n], [.i lo], [.i hi]])).mpr (hyp_ W n lo hi hp _ rfl)
theorem okox : PureOk Tryz.prog 53 Xk9 [(false, [.bool])] (fun _ => True) Xjw :=
 ok_ox fun W n lo hi _ Q h => by
  have e : (!Sp.inr n lo hi) = (decide (n < lo) || decide (hi < n)) := by
   by_cases a : n < lo
   ·rw [decide_eq_true a]; simp [Sp.inr]; omega
   ·by_cases b : hi < n
    ·rw [decide_eq_true b]; simp [Sp.inr]; omega
    ·rw [decide_eq_false a, decide_eq_false b]; simp [Sp.inr]; omega
  unfold Xrb;simp only [Xjw, e] at h;refine vif (fun e => ?_) fun e => ?_ <;> simpa [e] using h
def Xms : PC Tryz.prog := ⟨53, Xk9, [(false, [.bool])], fun _ => True, Xjw, okox⟩
def Tp3 : Tab Tryz.prog := ⟨[Xgv, Xsf, Xms], [], []⟩
def Xf0 [InW] (e : List Ed) (K : Nat -> List Ed -> Prop) : Prop := match e with
 | [.i nf, .i n, .i i, .ro _ fs, .ro _ ms, .i all, .l L] => Pre (nf = fs.xs.length /\ n = fs.xs.length + ms.xs.length /\ 0 <= i /\ i <= n /\ Tt.CodeOk fs.xs ms.xs all /\ L = Tt.nmL fs.xs ms.xs) (K 0 [.ro _ fs, .ro _ ms, .i all])
 | _ => False
def Xia : LC where
 len := 82
 T := [(1, (.ptr 1 0)), (5, (.row 4)), (6, .int .i64), (26, (.row 4)), (27, .int .i64), (28, .int .i64)]
 H := [(1, .blk 29 [.rs Jb, .rs Jd, .int .i64]), (4, .arr 9 Jd)]
 W := ([2, 3, 4] ++ rgg 7 4 ++ rgg 29 50)
 outs := [⟨.exit 0, [(1, (.ptr 1 0))], [(1, .blk 29 [.rs Jb, .rs Jd, .int .i64])], (rgg 2 9 ++ rgg 26 53)⟩]
 spec := Xf0
def Zm := (472 : Nat) = 472 + 1
def Zl [W : InW] (nf n i : Int) (fs : Ro Jb) (ms : Ro Jd) (all : Int) (L : Dt) (A : List Ed -> Prop) := Vif (!Bk.nameOk (cel L i.toNat Zh).str) Zm (Need (decide (0 <= i)) (Need (decide (Zh <= i.toNat) && decide (i.toNat <= L.length)) (Need (decide (Zh + (i.toNat - 0) <= L.length)) (Pre True (Vif (Sp.dup (List.take (i.toNat - 0) (List.drop Zh L)) (cel L i.toNat Zh).str Zh (List.take (i.toNat - 0) (List.drop Zh L)).length) Zm (Vif (decide (i < nf)) (Need (decide (0 <= i) && decide (i < (↑(fs.xs.length) : Int))) (Need (decide (i.toNat < fs.xs.length)) (Pre True (Vif (!Sp.inr (cel fs.xs i.toNat (0+1)).int (0 : Int) (20 : Int)) Zm (Need (decide (0 <= i) && decide (i < (↑(fs.xs.length) : Int))) (Need (decide (i.toNat < fs.xs.length)) (Pre True (Vif (!Sp.inr (cel fs.xs i.toNat (1+1)).int (0 : Int) (12 : Int)) Zm (Ar .i64 (i + 1) fun z => A [.i nf, .i n, .i z, .ro _ fs, .ro _ ms, .i all, .l L]))))))))) (Ar .i64 (i + 1) fun z => A [.i nf, .i n, .i z, .ro _ fs, .ro _ ms, .i all, .l L])))))))
def Xe0 [W : InW] (nf n i : Int) (fs : Ro Jb) (ms : Ro Jd) (all : Int) (L : Dt) (A : List Ed -> Prop) (K : Nat -> List Ed -> Prop) : Prop :=
 Vif (decide (i < n)) (Need (decide (0 <= i) && decide (i < (↑(L.length) : Int))) (Need (decide (i.toNat < L.length)) (Vif (decide (nf <= i)) (Ar .i64 (i - nf) fun z => Pre True (Zl nf n i fs ms all L A)) (Pre True (Zl nf n i fs ms all L A))))) (K 0 [.ro _ fs, .ro _ ms, .i all])
theorem Xok (W : InW) (nf n i fs ms all L A K) : Ygb { cxT Tryz.prog TT Tp3 1000 50 with fn := 89 } 1000 (Ypx Tryz.prog 89 6) (Yeo 82 [(1, .ptr 1 0), (5, .rw 4), (6, .si .i64 nf), (26, .rw 4), (27, .si .i64 n), (28, .si .i64 i)] ([2, 3, 4] ++ rgg 7 4 ++ rgg 29 50)) [(1, .blk 29 [.rs _ fs, .rs _ ms, .si .i64 all]), (4, .arr 9 Jd L)] (Yw5 Xia A K) = Xe0 nf n i fs ms all L A K := by kernel_rfl
def Xhb : Prop := ∀ (W : InW) (body a : Code), (Tryz.prog.funcs[89]?).bind (·.body) = some body -> a ∈ Y1 body -> Yg1 a = 6 -> @Yod W Tryz.prog a (@Yv5 W Xia)
theorem Xp5 (meas : [InW] -> List Ed -> Nat) (hyp_ : ∀ (W : InW) nf n i fs ms all L K, Xf0 [.i nf, .i n, .i i, .ro _ fs, .ro _ ms, .i all, .l L] K -> ∀ A : List Ed -> Prop, (∀ e, meas e < meas [.i nf, .i n, .i i, .ro _ fs, .ro _ ms, .i all, .l L] -> Xf0 e K -> A e) -> Xe0 nf n i fs ms all L A K) : Xhb :=
 LE.okOf' (fun W => @TT W) (fun W => @Xc W) Xa Tp3 1000 50 (by kernel_rfl) Xia (fun W => @meas W) fun W nf n i fs ms all L K hs =>
  (Xok W nf n i fs ms all L (fun e => meas e < meas [.i nf, .i n, .i i, .ro _ fs, .ro _ ms, .i all, .l L] /\ Xf0 e K) K).mpr (hyp_ W nf n i fs ms all L K hs _ fun e h1 h2 => ⟨h1, h2⟩)
theorem Xto : Xhb := Xp5 (fun e => match e with | _ :: .i n :: .i i :: _ => (n - i).toNat | _ => 0) fun W nf n i fs ms all L K hs A hA => by
 obtain ⟨⟨rfl, rfl, h0, h1, hc, rfl⟩, hk⟩ := hs;unfold Xe0;delta Zl Zm Zh;have hl := Xcm fs.xs ms.xs;have n6 := hc.n6;have m3 := hc.m3;refine vifd (fun e => ?_) fun e => hk;have go := hA [.i fs.xs.length, .i (fs.xs.length + ms.xs.length), .i (i + 1), .ro _ fs, .ro _ ms, .i all, .l (Tt.nmL fs.xs ms.xs)] (by show ((fs.xs.length : Int) + ms.xs.length - (i + 1)).toNat < ((fs.xs.length : Int) + ms.xs.length - i).toNat; omega) ⟨⟨rfl, rfl, by omega, by omega, hc, rfl⟩, hk⟩;have hn := hc.nm i.toNat (by omega);have hN : Bk.nameOk (cel (Tt.nmL fs.xs ms.xs) i.toNat 0).str = true := by
  cases e : Bk.nameOk (cel (Tt.nmL fs.xs ms.xs) i.toNat 0).str with
  | true => rfl
  | false =>
   unfold Sp.nameErr at hn;rw [show Bk.nameOk (Sp.nm (Tt.nmL fs.xs ms.xs) i.toNat) = false from e] at hn;cases hn
 have hD : Sp.dup (Tt.nmL fs.xs ms.xs) (cel (Tt.nmL fs.xs ms.xs) i.toNat 0).str 0 i.toNat = false := by
  cases e : Sp.dup (Tt.nmL fs.xs ms.xs) (cel (Tt.nmL fs.xs ms.xs) i.toNat 0).str 0 i.toNat with
  | false => rfl
  | true =>
   unfold Sp.nameErr at hn;rw [show Bk.nameOk (Sp.nm (Tt.nmL fs.xs ms.xs) i.toNat) = true from hN, show Sp.dup (Tt.nmL fs.xs ms.xs) (Sp.nm (Tt.nmL fs.xs ms.xs) i.toNat) 0 i.toNat = true from e] at hn;cases hn
 have htl : (List.take i.toNat (Tt.nmL fs.xs ms.xs)).length = i.toNat := by rw [List.length_take]; omega
 have hdt := Xbz (xs := Tt.nmL fs.xs ms.xs) (name := (cel (Tt.nmL fs.xs ms.xs) i.toNat 0).str) (m := i.toNat) i.toNat 0 (by omega);rw [hD] at hdt;have hp : ∀ h : i < fs.xs.length, Sp.inr (cel fs.xs i.toNat 1).int 0 20 = true /\ Sp.inr (cel fs.xs i.toNat 2).int 0 12 = true := fun h => ⟨Xd.2 (hc.pt i.toNat (by omega)), Xd.2 (hc.lim i.toNat (by omega))⟩;clear hA hk hn hD;simp only [List.drop_zero, Nat.sub_zero, htl, Nat.zero_add, Nat.reduceAdd, show Int.toNat 0 = 0 from rfl]
 by_cases hi : i < fs.xs.length
 ·obtain ⟨p1, p2⟩ := hp hi;clear hp
  repeat' (first | omega|intro _|with_reducible first|apply vifd|apply vifn|apply vifq|apply vifq0|apply vifq1|apply vifb|apply vif|apply nedd|apply ned2|apply ned|apply ar64|apply Xb|exact True.intro|assumption|rfl|apply And.intro)
  all_goals first | exact go | contradiction | (simp_all; done) | skip
 ·clear hp
  repeat' (first | omega|intro _|with_reducible first|apply vifd|apply vifn|apply vifq|apply vifq0|apply vifq1|apply vifb|apply vif|apply nedd|apply ned2|apply ned|apply ar64|apply Xb|exact True.intro|assumption|rfl|apply And.intro)
  all_goals first | exact go | contradiction | (simp_all; done) | skip
def Xum : LE Tryz.prog := ⟨89, 6, fun W => @Yv5 W Xia, Xto⟩
def Tp4 : Tab Tryz.prog := ⟨[Xsa, Xms], [Xum], []⟩
abbrev Xjv (ds : DS) : DS := [[.i 0], [.i 0], [.i 0]]
abbrev Xj5 (ds : DS) : Prop := match ds with | [[.l fs, .l ms, .i all]] => Tt.CodeOk fs ms all | _ => False
def Xli [W : InW] (c_Fs : Ro Jb) (c_Ms : Ro Jd) (c_All : Int) (Q : DS -> Prop) : Prop :=
 Pre True (Vif (!Sp.inr (↑(c_Fs.xs.length) : Int) (1 : Int) (6 : Int)) (Q [[Cl.i 1], [Cl.i 0], [Cl.i 3]]) (Vif (decide ((3 : Int) < (↑(c_Ms.xs.length) : Int))) (Q [[Cl.i 1], [Cl.i 0], [Cl.i 3]]) (Pre (c_Fs.xs.length <= 6 /\ c_Ms.xs.length <= 3) (Pre ((↑(c_Fs.xs.length) : Int) = (↑(c_Fs.xs.length) : Int) /\ (↑(List.length (Tt.nmL c_Fs.xs c_Ms.xs)) : Int) = (↑(c_Fs.xs.length) : Int) + (↑(c_Ms.xs.length) : Int) /\ Ze <= 0 /\ Ze <= (↑(List.length (Tt.nmL c_Fs.xs c_Ms.xs)) : Int) /\ Tt.CodeOk c_Fs.xs c_Ms.xs c_All /\ Tt.nmL c_Fs.xs c_Ms.xs = Tt.nmL c_Fs.xs c_Ms.xs) (Pre True (Vif (!Sp.inr c_All Ze (240 : Int)) (Q [[Cl.i 4], [Cl.i 0], [Cl.i 7]]) (Q [[Cl.i 0], [Cl.i 0], [Cl.i 0]])))))))
theorem Xrm (W : InW) (c_Fs c_Ms c_All Q) : Yzs (cxT Tryz.prog TT Tp4 1000 50) 1000 89 [.agg [.rs _ c_Fs, .rs _ c_Ms, .si .i64 c_All]] [] 0 (Y4g [(false, [.int .i64]), (false, [.int .i64]), (false, [.int .i64])] Q) (fun _ _ _ _ => Stuck 421) = Xli c_Fs c_Ms c_All Q := by kernel_rfl
abbrev Xd6 : List AT := [.agg [.sl Jb, .sl Jd, .int .i64]]
theorem Xsw {pre : DS -> Prop} {res : DS -> DS} (hyp_ : ∀ (W : InW) (c_Fs : Ro Jb) (c_Ms : Ro Jd) (c_All : Int), pre [[.l c_Fs.xs, .l c_Ms.xs, .i c_All]] -> ∀ Q : DS -> Prop, Q (res [[.l c_Fs.xs, .l c_Ms.xs, .i c_All]]) -> Xli c_Fs c_Ms c_All Q) : PureOk Tryz.prog 89 Xd6 [(false, [.int .i64]), (false, [.int .i64]), (false, [.int .i64])] pre res :=
 PureOk.of' (fun W => @TT W) (fun W => @Xc W) Xa Tp4 1000 50 fun W c_Fs c_Ms c_All hp =>
  (Xrm W c_Fs c_Ms c_All (fun o => o = res [[.l c_Fs.xs, .l c_Ms.xs, .i c_All]])).mpr (hyp_ W c_Fs c_Ms c_All hp _ rfl)
theorem okpck : PureOk Tryz.prog 89 Xd6 [(false, [.int .i64]), (false, [.int .i64]), (false, [.int .i64])] Xj5 Xjv :=
 Xsw fun W fs ms all hp Q h => by
  have hc : Tt.CodeOk fs.xs ms.xs all := hp;unfold Xli;delta Ze;have hl := Xcm fs.xs ms.xs;have n1 := hc.n1;have n6 := hc.n6;have m3 := hc.m3;have i1 : Sp.inr fs.xs.length 1 6 = true := Xd.2 (by omega);have i2 : Sp.inr all 0 240 = true := Xd.2 ⟨hc.a0, hc.a1⟩;rw [i1, i2];refine Xb trivial (vif (fun e => by cases e) fun _ => vifd (fun e => by omega) fun _ => Xb ⟨n6, m3⟩ (Xb ⟨rfl, by omega, by omega, by omega, hc, rfl⟩ (Xb trivial (vif (fun e => by cases e) fun _ => h))))
def Xsb : PC Tryz.prog := ⟨89, Xd6, [(false, [.int .i64]), (false, [.int .i64]), (false, [.int .i64])], Xj5, Xjv, okpck⟩
namespace Tt
structure WnOk (l : Dt) (m : Int) : Prop where
 w : ∀ i, i < l.length -> 0 <= (cel l i 0).int /\ (cel l i 0).int < m
structure TestOk (fs ms l : Dt) : Prop where
 n1 : 1 <= l.length
 n12 : l.length <= 12
 w : ∀ i, i < l.length -> 0 <= (cel l i 0).int /\ (cel l i 0).int < fs.length + ms.length
def cn (xs : Dt) (v : Int) : Nat -> Nat -> Int
 | _, 0 => 0
 | i, n + 1 => (if (cel xs i 0).int = v then 1 else 0) + cn xs v (i + 1) n
structure T9 (a b c d e f g h k i : Int) : Prop where
 a : 0 <= a /\ a <= i
 b : 0 <= b /\ b <= i
 c : 0 <= c /\ c <= i
 d : 0 <= d /\ d <= i
 e : 0 <= e /\ e <= i
 f : 0 <= f /\ f <= i
 g : 0 <= g /\ g <= i
 h : 0 <= h /\ h <= i
 k : 0 <= k /\ k <= i
end Tt
def Tp5 : Tab Tryz.prog := ⟨[Xms], [], []⟩
def Xga [InW] (e : List Ed) (K : Nat -> List Ed -> Prop) : Prop := match e with
 | [.ro _ xs, .i n, .i i, .i m] => Pre (n = (xs.xs.length : Int) /\ 0 <= i /\ i <= n /\ Tt.WnOk xs.xs m /\ 0 <= m /\ m <= 9) (K 0 [.i m])
 | _ => False
def Xik : LC where
 len := 19
 T := [(0, .rs Jc), (1, (.fn (.func 98) [] [(.ptr 1 0)])), (7, .int .i64), (8, .int .i64)]
 H := [(1, .blk 3 [.int .i64])]
 W := ([4, 5] ++ rgg 9 10)
 outs := [⟨.exit 0, [(1, (.fn (.func 98) [] [(.ptr 1 0)]))], [(1, .blk 3 [.int .i64])], ([0, 4, 5] ++ rgg 7 12)⟩]
 spec := Xga
def Xfa [W : InW] (xs : Ro Jc) (n i m : Int) (A : List Ed -> Prop) (K : Nat -> List Ed -> Prop) : Prop :=
 Vif (decide (i < n)) (Need (decide (0 <= i) && decide (i < (↑(xs.xs.length) : Int))) (Need (decide (i.toNat < xs.xs.length)) (Ar .i64 (m - 1) fun z => Pre True (Vif (!Sp.inr (cel xs.xs i.toNat (0 : Nat)).int (0 : Int) z) Zm (Ar .i64 (i + 1) fun z => A [.ro _ xs, .i n, .i z, .i m]))))) (K 0 [.i m])
theorem Xou (W : InW) (xs n i m A K) : Ygb { cxT Tryz.prog TT Tp5 1000 50 with fn := 126 } 1000 (Ypx Tryz.prog 126 3) (Yeo 19 [(0, .rs _ xs), (1, .fn (.func 98) [] [.ptr 1 0]), (7, .si .i64 n), (8, .si .i64 i)] ([4, 5] ++ rgg 9 10)) [(1, .blk 3 [.si .i64 m])] (Yw5 Xik A K) = Xfa xs n i m A K := by kernel_rfl
def Xhl : Prop := ∀ (W : InW) (body a : Code), (Tryz.prog.funcs[126]?).bind (·.body) = some body -> a ∈ Y1 body -> Yg1 a = 3 -> @Yod W Tryz.prog a (@Yv5 W Xik)
theorem Xqf (meas : [InW] -> List Ed -> Nat) (hyp_ : ∀ (W : InW) xs n i m K, Xga [.ro _ xs, .i n, .i i, .i m] K -> ∀ A : List Ed -> Prop, (∀ e, meas e < meas [.ro _ xs, .i n, .i i, .i m] -> Xga e K -> A e) -> Xfa xs n i m A K) : Xhl :=
 LE.okOf' (fun W => @TT W) (fun W => @Xc W) Xa Tp5 1000 50 (by kernel_rfl) Xik (fun W => @meas W) fun W xs n i m K hs =>
  (Xou W xs n i m (fun e => meas e < meas [.ro _ xs, .i n, .i i, .i m] /\ Xga e K) K).mpr (hyp_ W xs n i m K hs _ fun e h1 h2 => ⟨h1, h2⟩)
theorem Xty : Xhl := Xqf (fun e => match e with | _ :: .i n :: .i i :: _ => (n - i).toNat | _ => 0) fun W xs n i m K hs A hA => by
 obtain ⟨⟨rfl, h0, h1, hw, m0, m9⟩, hk⟩ := hs;unfold Xfa;delta Zm;have hm := xs.len;simp only [maxLen] at hm;refine vifd (fun e => ?_) fun e => hk;have hx := hw.w i.toNat (by omega);have hin : Sp.inr (cel xs.xs i.toNat 0).int 0 (m - 1) = true := Xd.2 (by omega);have go := hA [.ro _ xs, .i xs.xs.length, .i (i + 1), .i m] (by show ((xs.xs.length : Int) - (i + 1)).toNat < ((xs.xs.length : Int) - i).toNat; omega) ⟨⟨rfl, by omega, by omega, hw, m0, m9⟩, hk⟩;clear hA hk
 repeat' (first | omega|intro _|with_reducible first|apply vifd|apply vifn|apply vifq|apply vifq0|apply vifq1|apply vifb|apply vif|apply nedd|apply ned2|apply ned|apply ar64|apply Xb|exact True.intro|assumption|rfl|apply And.intro)
 all_goals first | exact go | contradiction | (simp_all; done) | skip
def Xuw : LE Tryz.prog := ⟨126, 3, fun W => @Yv5 W Xik, Xty⟩
def Tp6 : Tab Tryz.prog := ⟨[Xsb, Xms], [Xuw], []⟩
abbrev Xdd (ds : DS) : DS := [[.i 0]]
abbrev Xci (ds : DS) : Prop := match ds with | [[.l fs, .l ms, .i all], [.l l]] => Tt.CodeOk fs ms all /\ Tt.TestOk fs ms l | _ => False
def Xlc [W : InW] (c_Fs : Ro Jb) (c_Ms : Ro Jd) (c_All : Int) (l : Ro Jc) (Q : DS -> Prop) : Prop :=
 Pre (Tt.CodeOk c_Fs.xs c_Ms.xs c_All) (Vif (!decide (Ze = 0)) (Q [[Cl.i 0]]) (Ar .i64 ((↑(c_Fs.xs.length) : Int) + (↑(c_Ms.xs.length) : Int)) fun z => Pre True (Vif (!Sp.inr (↑(l.xs.length) : Int) (1 : Int) (12 : Int)) (Q [[Cl.i 3]]) (Pre ((↑(l.xs.length) : Int) = (↑(l.xs.length) : Int) /\ Ze <= 0 /\ Ze <= (↑(l.xs.length) : Int) /\ Tt.WnOk l.xs z /\ 0 <= z /\ z <= 9) (Q [[Cl.i 0]])))))
theorem Xrf (W : InW) (c_Fs c_Ms c_All l Q) : Yzs (cxT Tryz.prog TT Tp6 1000 50) 1000 48 [.agg [.rs _ c_Fs, .rs _ c_Ms, .si .i64 c_All], .rs _ l] [] 0 (Y4g [(false, [.int .i64])] Q) (fun _ _ _ _ => Stuck 421) = Xlc c_Fs c_Ms c_All l Q := by kernel_rfl
abbrev Xdz : List AT := [.agg [.sl Jb, .sl Jd, .int .i64], .one (.sl Jc)]
theorem Xsp {pre : DS -> Prop} {res : DS -> DS} (hyp_ : ∀ (W : InW) (c_Fs : Ro Jb) (c_Ms : Ro Jd) (c_All : Int) (l : Ro Jc), pre [[.l c_Fs.xs, .l c_Ms.xs, .i c_All], [.l l.xs]] -> ∀ Q : DS -> Prop, Q (res [[.l c_Fs.xs, .l c_Ms.xs, .i c_All], [.l l.xs]]) -> Xlc c_Fs c_Ms c_All l Q) : PureOk Tryz.prog 48 Xdz [(false, [.int .i64])] pre res :=
 PureOk.of' (fun W => @TT W) (fun W => @Xc W) Xa Tp6 1000 50 fun W c_Fs c_Ms c_All l hp =>
  (Xrf W c_Fs c_Ms c_All l (fun o => o = res [[.l c_Fs.xs, .l c_Ms.xs, .i c_All], [.l l.xs]])).mpr (hyp_ W c_Fs c_Ms c_All l hp _ rfl)
theorem okwhl : PureOk Tryz.prog 48 Xdz [(false, [.int .i64])] Xci Xdd :=
 Xsp fun W fs ms all l hp Q h => by
  obtain ⟨hc, ht⟩ : Tt.CodeOk fs.xs ms.xs all /\ Tt.TestOk fs.xs ms.xs l.xs := hp;unfold Xlc;delta Ze;have n1 := hc.n1;have n6 := hc.n6;have m3 := hc.m3;have t1 := ht.n1;have t2 := ht.n12;have i1 : Sp.inr l.xs.length 1 12 = true := Xd.2 (by omega);have hw : Tt.WnOk l.xs (fs.xs.length + ms.xs.length) := ⟨ht.w⟩;rw [i1];simp only [Xdd] at h
  repeat' (first | (with_reducible refine Xb hc ?_) | (with_reducible refine Xb ⟨rfl, by omega, by omega, hw, by omega, by omega⟩ ?_) | omega|intro _|with_reducible first|apply vifd|apply vifn|apply vifq|apply vifq0|apply vifq1|apply vifb|apply vif|apply nedd|apply ned2|apply ned|apply ar64|apply Xb|exact True.intro|assumption|rfl|apply And.intro)
  all_goals first | exact h | contradiction | (simp_all; done) | skip
def Xno : PC Tryz.prog := ⟨48, Xdz, [(false, [.int .i64])], Xci, Xdd, okwhl⟩
def Xgg [InW] (e : List Ed) (K : Nat -> List Ed -> Prop) : Prop := match e with
 | [.ro _ xs, .i n, .i i, .i a, .i b, .i c, .i d, .i e, .i f, .i g, .i h, .i k] => Pre (n = (xs.xs.length : Int) /\ 0 <= i /\ i <= n /\ n <= 12 /\ Tt.WnOk xs.xs 9 /\ Tt.T9 a b c d e f g h k i)
   (K 0 [.i (a + Tt.cn xs.xs 0 i.toNat (xs.xs.length - i.toNat)), .i (b + Tt.cn xs.xs 1 i.toNat (xs.xs.length - i.toNat)), .i (c + Tt.cn xs.xs 2 i.toNat (xs.xs.length - i.toNat)), .i (d + Tt.cn xs.xs 3 i.toNat (xs.xs.length - i.toNat)), .i (e + Tt.cn xs.xs 4 i.toNat (xs.xs.length - i.toNat)), .i (f + Tt.cn xs.xs 5 i.toNat (xs.xs.length - i.toNat)), .i (g + Tt.cn xs.xs 6 i.toNat (xs.xs.length - i.toNat)), .i (h + Tt.cn xs.xs 7 i.toNat (xs.xs.length - i.toNat)), .i (k + Tt.cn xs.xs 8 i.toNat (xs.xs.length - i.toNat))])
 | _ => False
def Xiq : LC where
 len := 16
 T := [(1, (.fn (.func 100) [(.ptr 1 0)] [])), (6, .rs Jc), (7, .int .i64), (8, .int .i64)]
 H := [(1, .blk 109 [.int .i64, .int .i64, .int .i64, .int .i64, .int .i64, .int .i64, .int .i64, .int .i64, .int .i64])]
 W := ([5] ++ rgg 9 7)
 outs := [⟨.exit 0, [], [(1, .blk 109 [.int .i64, .int .i64, .int .i64, .int .i64, .int .i64, .int .i64, .int .i64, .int .i64, .int .i64])], ([1] ++ rgg 5 11)⟩]
 spec := Xgg
def Zn [W : InW] (xs : Ro Jc) (i : Int) := cel xs.xs i.toNat (0 : Nat)
def Xfg [W : InW] (xs : Ro Jc) (n i a b c d e_ f g h_ k : Int) (A : List Ed -> Prop) (K : Nat -> List Ed -> Prop) : Prop :=
 Vif (decide (i < n)) (Need (decide (0 <= i) && decide (i < (↑(xs.xs.length) : Int))) (Need (decide (i.toNat < xs.xs.length)) (Need (decide (Ze <= (Zn xs i).int) && decide ((Zn xs i).int < (↑(9 : Nat) : Int))) (Need (decide ((Zn xs i).int.toNat < [a, b, c, d, e_, f, g, h_, k].length)) (Ar .i64 ([a, b, c, d, e_, f, g, h_, k].getD (Zn xs i).int.toNat Ze + 1) fun z => Need (decide (Ze <= (Zn xs i).int) && decide ((Zn xs i).int < (↑(9 : Nat) : Int))) (Need (decide ((Zn xs i).int.toNat < [a, b, c, d, e_, f, g, h_, k].length)) (Ar .i64 (i + 1) fun z_1 => A [.ro _ xs, .i n, .i z_1, .i (Decidable.rec (fun h => (fun x => a) h) (fun h => (fun x => z) h) (instDecidableEqNat (Zn xs i).int.toNat (0 : Nat))), .i (Decidable.rec (fun h => (fun x => b) h) (fun h => (fun x => z) h) (instDecidableEqNat (Zn xs i).int.toNat (0+1))), .i (Decidable.rec (fun h => (fun x => c) h) (fun h => (fun x => z) h) (instDecidableEqNat (Zn xs i).int.toNat (1+1))), .i (Decidable.rec (fun h => (fun x => d) h) (fun h => (fun x => z) h) (instDecidableEqNat (Zn xs i).int.toNat (2+1))), .i (Decidable.rec (fun h => (fun x => e_) h) (fun h => (fun x => z) h) (instDecidableEqNat (Zn xs i).int.toNat (3+1))), .i (Decidable.rec (fun h => (fun x => f) h) (fun h => (fun x => z) h) (instDecidableEqNat (Zn xs i).int.toNat (4+1))), .i (Decidable.rec (fun h => (fun x => g) h) (fun h => (fun x => z) h) (instDecidableEqNat (Zn xs i).int.toNat (5+1))), .i (Decidable.rec (fun h => (fun x => h_) h) (fun h => (fun x => z) h) (instDecidableEqNat (Zn xs i).int.toNat (6+1))), .i (Decidable.rec (fun h => (fun x => k) h) (fun h => (fun x => z) h) (instDecidableEqNat (Zn xs i).int.toNat (7+1)))]))))))) (K 0 [.i a, .i b, .i c, .i d, .i e_, .i f, .i g, .i h_, .i k])
theorem Xo0 (W : InW) (xs n i a b c d e_ f g h_ k A K) : Ygb { cxT Tryz.prog TT T0 1000 50 with fn := 99 } 1000 (Ypx Tryz.prog 99 2) (Yeo 16 [(1, .fn (.func 100) [.ptr 1 0] []), (6, .rs _ xs), (7, .si .i64 n), (8, .si .i64 i)] ([5] ++ rgg 9 7)) [(1, .blk 109 [.si .i64 a, .si .i64 b, .si .i64 c, .si .i64 d, .si .i64 e_, .si .i64 f, .si .i64 g, .si .i64 h_, .si .i64 k])] (Yw5 Xiq A K) = Xfg xs n i a b c d e_ f g h_ k A K := by kernel_rfl
def Xhr : Prop := ∀ (W : InW) (body a : Code), (Tryz.prog.funcs[99]?).bind (·.body) = some body -> a ∈ Y1 body -> Yg1 a = 2 -> @Yod W Tryz.prog a (@Yv5 W Xiq)
theorem Xql (meas : [InW] -> List Ed -> Nat) (hyp_ : ∀ (W : InW) xs n i a b c d e_ f g h_ k K, Xgg [.ro _ xs, .i n, .i i, .i a, .i b, .i c, .i d, .i e_, .i f, .i g, .i h_, .i k] K -> ∀ A : List Ed -> Prop, (∀ e, meas e < meas [.ro _ xs, .i n, .i i, .i a, .i b, .i c, .i d, .i e_, .i f, .i g, .i h_, .i k] -> Xgg e K -> A e) -> Xfg xs n i a b c d e_ f g h_ k A K) : Xhr :=
 LE.okOf' (fun W => @TT W) (fun W => @Xc W) Xa T0 1000 50 (by kernel_rfl) Xiq (fun W => @meas W) fun W xs n i a b c d e_ f g h_ k K hs =>
  (Xo0 W xs n i a b c d e_ f g h_ k (fun e => meas e < meas [.ro _ xs, .i n, .i i, .i a, .i b, .i c, .i d, .i e_, .i f, .i g, .i h_, .i k] /\ Xgg e K) K).mpr (hyp_ W xs n i a b c d e_ f g h_ k K hs _ fun e h1 h2 => ⟨h1, h2⟩)
theorem Xt4 : Xhr := Xql (fun e => match e with | _ :: .i n :: .i i :: _ => (n - i).toNat | _ => 0) fun W xs n i a b c d e_ f g h_ k K hs A hA => by
 obtain ⟨⟨rfl, h0, h1, h12, hw, h9⟩, hk⟩ := hs;unfold Xfg;delta Zn Ze;have ez : (i + 1).toNat = i.toNat + 1 := by omega
 refine vifd (fun e => ?_) fun e => ?_
 ·have hv := hw.w i.toNat (by omega);rw [show xs.xs.length - i.toNat = (xs.xs.length - (i.toNat + 1)) + 1 by omega] at hk;simp only [Tt.cn] at hk;have hlt : i.toNat < xs.xs.length := by omega
  generalize (cel xs.xs i.toNat 0).int = v at *;have go : ∀ a' b' c' d' e' f' g' h' k' : Int, a' = a + (if v = 0 then 1 else 0) -> b' = b + (if v = 1 then 1 else 0) -> c' = c + (if v = 2 then 1 else 0) -> d' = d + (if v = 3 then 1 else 0) -> e' = e_ + (if v = 4 then 1 else 0) -> f' = f + (if v = 5 then 1 else 0) -> g' = g + (if v = 6 then 1 else 0) -> h' = h_ + (if v = 7 then 1 else 0) -> k' = k + (if v = 8 then 1 else 0) -> A [.ro _ xs, .i xs.xs.length, .i (i + 1), .i a', .i b', .i c', .i d', .i e', .i f', .i g', .i h', .i k'] := fun a' b' c' d' e' f' g' h' k' qa qb qc qd qe qf qg qh qk => hA _ (show ((xs.xs.length : Int) - (i + 1)).toNat < ((xs.xs.length : Int) - i).toNat by omega) ⟨⟨rfl, by omega, by omega, h12, hw, ⟨by rw [qa]; have := h9.a; split <;> omega, by rw [qb]; have := h9.b; split <;> omega, by rw [qc]; have := h9.c; split <;> omega, by rw [qd]; have := h9.d; split <;> omega, by rw [qe]; have := h9.e; split <;> omega, by rw [qf]; have := h9.f; split <;> omega, by rw [qg]; have := h9.g; split <;> omega, by rw [qh]; have := h9.h; split <;> omega, by rw [qk]; have := h9.k; split <;> omega⟩⟩, by
   rw [ez, qa, qb, qc, qd, qe, qf, qg, qh, qk];simp only [Int.add_assoc];exact hk⟩
  clear hA hk;have hb := h9;obtain ⟨ba, bb, bc, bd, be, bf, bg, bh, bk⟩ := h9;have hc : v = 0 \/ v = 1 \/ v = 2 \/ v = 3 \/ v = 4 \/ v = 5 \/ v = 6 \/ v = 7 \/ v = 8 := by omega
  have ex : ∀ z : Int, ∀ y : Int, 0 <= z -> z <= i -> y = z -> -9223372036854775808 <= y + 1 /\ y + 1 <= 9223372036854775807 := fun z y a b c => by omega
  refine ned2 (by omega) (nedd (by omega) (ned2 (by omega) (nedd (by show v.toNat < 9; omega) ?_)));rcases hc with rfl | rfl | rfl | rfl | rfl | rfl | rfl | rfl | rfl
  ·exact ar64 (ex a _ ba.1 ba.2 rfl) (ned2 (by omega) (nedd (by show Int.toNat _ < 9; omega) (ar64 (by omega) (go _ _ _ _ _ _ _ _ _ (by rw [if_pos rfl]; rfl) (by rw [if_neg (by decide), Int.add_zero]; rfl) (by rw [if_neg (by decide), Int.add_zero]; rfl) (by rw [if_neg (by decide), Int.add_zero]; rfl) (by rw [if_neg (by decide), Int.add_zero]; rfl) (by rw [if_neg (by decide), Int.add_zero]; rfl) (by rw [if_neg (by decide), Int.add_zero]; rfl) (by rw [if_neg (by decide), Int.add_zero]; rfl) (by rw [if_neg (by decide), Int.add_zero]; rfl)))))
  ·exact ar64 (ex b _ bb.1 bb.2 rfl) (ned2 (by omega) (nedd (by show Int.toNat _ < 9; omega) (ar64 (by omega) (go _ _ _ _ _ _ _ _ _ (by rw [if_neg (by decide), Int.add_zero]; rfl) (by rw [if_pos rfl]; rfl) (by rw [if_neg (by decide), Int.add_zero]; rfl) (by rw [if_neg (by decide), Int.add_zero]; rfl) (by rw [if_neg (by decide), Int.add_zero]; rfl) (by rw [if_neg (by decide), Int.add_zero]; rfl) (by rw [if_neg (by decide), Int.add_zero]; rfl) (by rw [if_neg (by decide), Int.add_zero]; rfl) (by rw [if_neg (by decide), Int.add_zero]; rfl)))))
  ·exact ar64 (ex c _ bc.1 bc.2 rfl) (ned2 (by omega) (nedd (by show Int.toNat _ < 9; omega) (ar64 (by omega) (go _ _ _ _ _ _ _ _ _ (by rw [if_neg (by decide), Int.add_zero]; rfl) (by rw [if_neg (by decide), Int.add_zero]; rfl) (by rw [if_pos rfl]; rfl) (by rw [if_neg (by decide), Int.add_zero]; rfl) (by rw [if_neg (by decide), Int.add_zero]; rfl) (by rw [if_neg (by decide), Int.add_zero]; rfl) (by rw [if_neg (by decide), Int.add_zero]; rfl) (by rw [if_neg (by decide), Int.add_zero]; rfl) (by rw [if_neg (by decide), Int.add_zero]; rfl)))))
  ·exact ar64 (ex d _ bd.1 bd.2 rfl) (ned2 (by omega) (nedd (by show Int.toNat _ < 9; omega) (ar64 (by omega) (go _ _ _ _ _ _ _ _ _ (by rw [if_neg (by decide), Int.add_zero]; rfl) (by rw [if_neg (by decide), Int.add_zero]; rfl) (by rw [if_neg (by decide), Int.add_zero]; rfl) (by rw [if_pos rfl]; rfl) (by rw [if_neg (by decide), Int.add_zero]; rfl) (by rw [if_neg (by decide), Int.add_zero]; rfl) (by rw [if_neg (by decide), Int.add_zero]; rfl) (by rw [if_neg (by decide), Int.add_zero]; rfl) (by rw [if_neg (by decide), Int.add_zero]; rfl)))))
  ·exact ar64 (ex e_ _ be.1 be.2 rfl) (ned2 (by omega) (nedd (by show Int.toNat _ < 9; omega) (ar64 (by omega) (go _ _ _ _ _ _ _ _ _ (by rw [if_neg (by decide), Int.add_zero]; rfl) (by rw [if_neg (by decide), Int.add_zero]; rfl) (by rw [if_neg (by decide), Int.add_zero]; rfl) (by rw [if_neg (by decide), Int.add_zero]; rfl) (by rw [if_pos rfl]; rfl) (by rw [if_neg (by decide), Int.add_zero]; rfl) (by rw [if_neg (by decide), Int.add_zero]; rfl) (by rw [if_neg (by decide), Int.add_zero]; rfl) (by rw [if_neg (by decide), Int.add_zero]; rfl)))))
  ·exact ar64 (ex f _ bf.1 bf.2 rfl) (ned2 (by omega) (nedd (by show Int.toNat _ < 9; omega) (ar64 (by omega) (go _ _ _ _ _ _ _ _ _ (by rw [if_neg (by decide), Int.add_zero]; rfl) (by rw [if_neg (by decide), Int.add_zero]; rfl) (by rw [if_neg (by decide), Int.add_zero]; rfl) (by rw [if_neg (by decide), Int.add_zero]; rfl) (by rw [if_neg (by decide), Int.add_zero]; rfl) (by rw [if_pos rfl]; rfl) (by rw [if_neg (by decide), Int.add_zero]; rfl) (by rw [if_neg (by decide), Int.add_zero]; rfl) (by rw [if_neg (by decide), Int.add_zero]; rfl)))))
  ·exact ar64 (ex g _ bg.1 bg.2 rfl) (ned2 (by omega) (nedd (by show Int.toNat _ < 9; omega) (ar64 (by omega) (go _ _ _ _ _ _ _ _ _ (by rw [if_neg (by decide), Int.add_zero]; rfl) (by rw [if_neg (by decide), Int.add_zero]; rfl) (by rw [if_neg (by decide), Int.add_zero]; rfl) (by rw [if_neg (by decide), Int.add_zero]; rfl) (by rw [if_neg (by decide), Int.add_zero]; rfl) (by rw [if_neg (by decide), Int.add_zero]; rfl) (by rw [if_pos rfl]; rfl) (by rw [if_neg (by decide), Int.add_zero]; rfl) (by rw [if_neg (by decide), Int.add_zero]; rfl)))))
  ·exact ar64 (ex h_ _ bh.1 bh.2 rfl) (ned2 (by omega) (nedd (by show Int.toNat _ < 9; omega) (ar64 (by omega) (go _ _ _ _ _ _ _ _ _ (by rw [if_neg (by decide), Int.add_zero]; rfl) (by rw [if_neg (by decide), Int.add_zero]; rfl) (by rw [if_neg (by decide), Int.add_zero]; rfl) (by rw [if_neg (by decide), Int.add_zero]; rfl) (by rw [if_neg (by decide), Int.add_zero]; rfl) (by rw [if_neg (by decide), Int.add_zero]; rfl) (by rw [if_neg (by decide), Int.add_zero]; rfl) (by rw [if_pos rfl]; rfl) (by rw [if_neg (by decide), Int.add_zero]; rfl)))))
  ·exact ar64 (ex k _ bk.1 bk.2 rfl) (ned2 (by omega) (nedd (by show Int.toNat _ < 9; omega) (ar64 (by omega) (go _ _ _ _ _ _ _ _ _ (by rw [if_neg (by decide), Int.add_zero]; rfl) (by rw [if_neg (by decide), Int.add_zero]; rfl) (by rw [if_neg (by decide), Int.add_zero]; rfl) (by rw [if_neg (by decide), Int.add_zero]; rfl) (by rw [if_neg (by decide), Int.add_zero]; rfl) (by rw [if_neg (by decide), Int.add_zero]; rfl) (by rw [if_neg (by decide), Int.add_zero]; rfl) (by rw [if_neg (by decide), Int.add_zero]; rfl) (by rw [if_pos rfl]; rfl)))))
 ·rw [show xs.xs.length - i.toNat = 0 by omega] at hk;simp only [Tt.cn, Int.add_zero] at hk;exact hk
def Xu2 : LE Tryz.prog := ⟨99, 2, fun W => @Yv5 W Xiq, Xt4⟩
namespace Tt
def tly (l : Dt) : List Int := [cn l 0 0 l.length, cn l 1 0 l.length, cn l 2 0 l.length, cn l 3 0 l.length, cn l 4 0 l.length, cn l 5 0 l.length, cn l 6 0 l.length, cn l 7 0 l.length, cn l 8 0 l.length]
def sF (fs : Dt) (t : List Int) : Nat -> Nat -> Int
 | _, 0 => 0
 | i, n + 1 => t.getD i 0 * (cel fs i 1).int + sF fs t (i + 1) n
def psF (fs : Dt) (t : List Int) : Nat -> Nat -> Bool
 | _, 0 => true
 | i, n + 1 => decide (t.getD i 0 <= (cel fs i 2).int) && psF fs t (i + 1) n
def psM (t : List Int) : Nat -> Nat -> Bool
 | _, 0 => true
 | i, n + 1 => decide (0 < t.getD i 0) && psM t (i + 1) n
def psd (fs ms : Dt) (all : Int) (t : List Int) : Bool := (psF fs t 0 fs.length && psM t fs.length ms.length) && decide (sF fs t 0 fs.length <= all)
structure TyOk (t : List Int) : Prop where
 n : t.length = 9
 b : ∀ j, 0 <= t.getD j 0 /\ t.getD j 0 <= 12
end Tt
theorem Xu9 {xs : Dt} {v : Int} : ∀ n i, 0 <= Tt.cn xs v i n /\ Tt.cn xs v i n <= n
 | 0, _ => by simp [Tt.cn]
 | n + 1, i => by
  have := Xu9 (xs := xs) (v := v) n (i + 1);rw [Tt.cn]; split <;> omega
theorem Xjm {l : Dt} {j : Nat} (h : j < 9) : (Tt.tly l).getD j 0 = Tt.cn l (j : Int) 0 l.length := by
 have : j = 0 \/ j = 1 \/ j = 2 \/ j = 3 \/ j = 4 \/ j = 5 \/ j = 6 \/ j = 7 \/ j = 8 := by omega
 rcases this with rfl | rfl | rfl | rfl | rfl | rfl | rfl | rfl | rfl <;> rfl
theorem Xnl {l : Dt} (h : l.length <= 12) : Tt.TyOk (Tt.tly l) := by
 refine ⟨rfl, fun j => ?_⟩
 by_cases hj : j < 9
 ·rw [Xjm hj];have := Xu9 (xs := l) (v := (j : Int)) l.length 0;omega
 ·rw [List.getD_eq_getElem?_getD, List.getElem?_eq_none (by show 9 <= j; omega)];exact ⟨Int.le_refl _, by decide⟩
theorem Xkj {f : Nat -> Int} {w : Int} : ∀ n i, (∀ (g : Nat -> Nat -> Int), (∀ i, g i 0 = 0) -> (∀ i n, g i (n + 1) = (if w = (i : Int) then 1 else 0) * f i + g (i + 1) n) -> g i n = if (i : Int) <= w /\ w < i + n then f w.toNat else 0)
 | 0, i, g, h0, hs => by rw [h0, if_neg (by omega)]
 | n + 1, i, g, h0, hs => by
  rw [hs, Xkj n (i + 1) g h0 hs]
  by_cases e : w = (i : Int)
  ·rw [if_pos e, if_neg (by omega), if_pos (by omega), show w.toNat = i by omega]; omega
  ·rw [if_neg e]
   by_cases e2 : ((i + 1 : Nat) : Int) <= w /\ w < ((i + 1 : Nat) : Int) + n
   ·rw [if_pos e2, if_pos (by omega)]; omega
   ·rw [if_neg e2, if_neg (by omega)]; omega
def sumC (fs l : Dt) (i n : Nat) : Nat -> Nat -> Int
 | _, 0 => 0
 | j, m + 1 => Tt.cn l (j : Int) i n * (cel fs j 1).int + sumC fs l i n (j + 1) m
def sumO (fs : Dt) (w : Int) : Nat -> Nat -> Int
 | _, 0 => 0
 | j, m + 1 => (if w = (j : Int) then 1 else 0) * (cel fs j 1).int + sumO fs w (j + 1) m
theorem Xc4 {fs l : Dt} {i n : Nat} : ∀ m j, sumC fs l i (n + 1) j m = sumO fs (cel l i 0).int j m + sumC fs l (i + 1) n j m
 | 0, _ => rfl
 | m + 1, j => by
  rw [sumC, sumO, sumC, Xc4 m (j + 1), Tt.cn, Int.add_mul];omega
theorem Xc3 {fs l : Dt} {i : Nat} : ∀ m j, sumC fs l i 0 j m = 0
 | 0, _ => rfl
 | m + 1, j => by rw [sumC, Xc3 m, Tt.cn]; omega
theorem Xfm {fs l : Dt} : ∀ n i, (∀ k, i <= k -> k < i + n -> 0 <= (cel l k 0).int) -> sumC fs l i n 0 fs.length = Tt.tot fs l i n
 | 0, i, _ => by rw [Xc3, Tt.tot]
 | n + 1, i, h => by
  have hw := h i (Nat.le_refl _) (by omega);rw [Xc4, Xfm n (i + 1) (fun k a b => h k (by omega) (by omega)), Tt.tot];have := Xkj (f := fun j => (cel fs j 1).int) (w := (cel l i 0).int) fs.length 0 (sumO fs (cel l i 0).int) (fun _ => rfl) (fun _ _ => rfl);rw [this];unfold Tt.pt
  by_cases e : (cel l i 0).int < fs.length
  ·rw [if_pos e, if_pos (by omega)]
  ·rw [if_neg e, if_neg (by omega)]
theorem Xjo {fs l : Dt} : ∀ m j, j + m <= 9 -> Tt.sF fs (Tt.tly l) j m = sumC fs l 0 l.length j m
 | 0, _, _ => rfl
 | m + 1, j, h => by rw [Tt.sF, sumC, Xjo m (j + 1) (by omega), Xjm (by omega)]
theorem Xnm {fs l : Dt} (h6 : fs.length <= 6) (hl : ∀ k, k < l.length -> 0 <= (cel l k 0).int) : Tt.sF fs (Tt.tly l) 0 fs.length = Tt.tot fs l 0 l.length := by
 rw [Xjo _ _ (by omega), Xfm _ _ fun k _ b => hl k (by omega)]
def Tp7 : Tab Tryz.prog := ⟨[], [Xu2], []⟩
abbrev Xgm : List (Bool × List RTy) := [(true, [.int .i64, .int .i64, .int .i64, .int .i64, .int .i64, .int .i64, .int .i64, .int .i64, .int .i64])]
abbrev Xdo (ds : DS) : DS := match ds with | [[.l l]] => [[.i (Tt.cn l 0 0 l.length), .i (Tt.cn l 1 0 l.length), .i (Tt.cn l 2 0 l.length), .i (Tt.cn l 3 0 l.length), .i (Tt.cn l 4 0 l.length), .i (Tt.cn l 5 0 l.length), .i (Tt.cn l 6 0 l.length), .i (Tt.cn l 7 0 l.length), .i (Tt.cn l 8 0 l.length)]] | _ => []
abbrev Xkb (ds : DS) : Prop := match ds with | [[.l l]] => Tt.WnOk l 9 /\ l.length <= 12 | _ => False
def Zo [W : InW] (l : Ro Jc) := l.xs.length - Int.toNat Ze
def Xls [W : InW] (l : Ro Jc) (Q : DS -> Prop) : Prop :=
 Pre ((↑(l.xs.length) : Int) = (↑(l.xs.length) : Int) /\ Ze <= 0 /\ Ze <= (↑(l.xs.length) : Int) /\ (↑(l.xs.length) : Int) <= 12 /\ Tt.WnOk l.xs (9 : Int) /\ Tt.T9 Ze Ze Ze Ze Ze Ze Ze Ze Ze Ze) (Q [[Cl.i (Ze + Tt.cn l.xs Ze Zk (Zo l)), Cl.i (Ze + Tt.cn l.xs (1 : Int) Zk (Zo l)), Cl.i (Ze + Tt.cn l.xs (2 : Int) Zk (Zo l)), Cl.i (Ze + Tt.cn l.xs (3 : Int) Zk (Zo l)), Cl.i (Ze + Tt.cn l.xs (4 : Int) Zk (Zo l)), Cl.i (Ze + Tt.cn l.xs (5 : Int) Zk (Zo l)), Cl.i (Ze + Tt.cn l.xs (6 : Int) Zk (Zo l)), Cl.i (Ze + Tt.cn l.xs (7 : Int) Zk (Zo l)), Cl.i (Ze + Tt.cn l.xs (8 : Int) Zk (Zo l))]])
theorem Xry (W : InW) (l Q) : Yzs (cxT Tryz.prog TT Tp7 1000 50) 1000 49 [.rs _ l] [] 0 (Y4g Xgm Q) (fun _ _ _ _ => Stuck 421) = Xls l Q := by kernel_rfl
abbrev Xei : List AT := [.one (.sl Jc)]
theorem Xs8 {pre : DS -> Prop} {res : DS -> DS} (hyp_ : ∀ (W : InW) (l : Ro Jc), pre [[.l l.xs]] -> ∀ Q : DS -> Prop, Q (res [[.l l.xs]]) -> Xls l Q) : PureOk Tryz.prog 49 Xei Xgm pre res :=
 PureOk.of' (fun W => @TT W) (fun W => @Xc W) Xa Tp7 1000 50 fun W l hp =>
  (Xry W l (fun o => o = res [[.l l.xs]])).mpr (hyp_ W l hp _ rfl)
theorem okcnt : PureOk Tryz.prog 49 Xei Xgm Xkb Xdo :=
 Xs8 fun W l hp Q h => by
  obtain ⟨hw, h12⟩ : Tt.WnOk l.xs 9 /\ l.xs.length <= 12 := hp;unfold Xls;delta Zo Zk Ze;simp only [Xdo] at h;simp only [show Int.toNat 0 = 0 from rfl, Nat.sub_zero, Int.zero_add];exact ⟨⟨trivial, by omega, by omega, by omega, hw, ⟨by omega, by omega, by omega, by omega, by omega, by omega, by omega, by omega, by omega⟩⟩, h⟩
def Xns : PC Tryz.prog := ⟨49, Xei, Xgm, Xkb, Xdo, okcnt⟩
def Xf1 [InW] (e : List Ed) (K : Nat -> List Ed -> Prop) : Prop := match e with
 | [.b is, .i p, .ro _ f2, .i n, .i i, .ro _ fs, .ro _ ms, .i all, .i a, .i b, .i c, .i d, .i e, .i f, .i g, .i h, .i k] => Pre (f2.xs = fs.xs /\ n = (fs.xs.length : Int) /\ 0 <= i /\ i <= n /\ Tt.FOk fs.xs /\ Tt.TyOk [a, b, c, d, e, f, g, h, k] /\ 0 <= p /\ p <= 240 * i)
   (K 0 [.b (is && Tt.psF fs.xs [a, b, c, d, e, f, g, h, k] i.toNat (fs.xs.length - i.toNat)), .i (p + Tt.sF fs.xs [a, b, c, d, e, f, g, h, k] i.toNat (fs.xs.length - i.toNat)), .ro _ fs, .ro _ ms, .i all, .i a, .i b, .i c, .i d, .i e, .i f, .i g, .i h, .i k])
 | _ => False
def Xib : LC where
 len := 61
 T := [(2, (.ptr 4 0)), (3, (.ptr 1 0)), (4, .bool), (5, .int .i64), (10, .rs Jb), (11, .int .i64), (12, .int .i64)]
 H := [(1, .blk 29 [.rs Jb, .rs Jd, .int .i64]), (4, .blk 109 [.int .i64, .int .i64, .int .i64, .int .i64, .int .i64, .int .i64, .int .i64, .int .i64, .int .i64])]
 W := ([6, 7] ++ rgg 13 22)
 outs := [⟨.exit 0, [(2, (.ptr 4 0)), (3, (.ptr 1 0)), (4, .bool), (5, .int .i64)], [(1, .blk 29 [.rs Jb, .rs Jd, .int .i64]), (4, .blk 109 [.int .i64, .int .i64, .int .i64, .int .i64, .int .i64, .int .i64, .int .i64, .int .i64, .int .i64])], ([6, 7] ++ rgg 10 25)⟩]
 spec := Xf1
def Zp [W : InW] (i : Int) := decide (0 <= i) && decide (i < (↑(9 : Nat) : Int))
def Xe1 [W : InW] (is : Bool) (p : Int) (f2 : Ro Jb) (n i : Int) (fs : Ro Jb) (ms : Ro Jd) (all a b c d e_ f g h_ k : Int) (A : List Ed -> Prop) (K : Nat -> List Ed -> Prop) : Prop :=
 Vif (decide (i < n)) (Need (decide (0 <= i) && decide (i < (↑(f2.xs.length) : Int))) (Need (decide (i.toNat < f2.xs.length)) (Vif is (Need (Zp i) (Need (decide (i.toNat < [a, b, c, d, e_, f, g, h_, k].length)) (Need (Zp i) (Need (decide (i.toNat < [a, b, c, d, e_, f, g, h_, k].length)) (Ar .i64 ([a, b, c, d, e_, f, g, h_, k].getD i.toNat Ze * (cel f2.xs i.toNat (0+1)).int) fun z => Ar .i64 (p + z) fun z => Ar .i64 (i + 1) fun z_1 => A [.b (decide ([a, b, c, d, e_, f, g, h_, k].getD i.toNat Ze <= (cel f2.xs i.toNat ((0 : Nat) + 1 + 1)).int)), .i z, .ro _ f2, .i n, .i z_1, .ro _ fs, .ro _ ms, .i all, .i a, .i b, .i c, .i d, .i e_, .i f, .i g, .i h_, .i k]))))) (Need (Zp i) (Need (decide (i.toNat < [a, b, c, d, e_, f, g, h_, k].length)) (Ar .i64 ([a, b, c, d, e_, f, g, h_, k].getD i.toNat Ze * (cel f2.xs i.toNat (0+1)).int) fun z => Ar .i64 (p + z) fun z => Ar .i64 (i + 1) fun z_1 => A [.b false, .i z, .ro _ f2, .i n, .i z_1, .ro _ fs, .ro _ ms, .i all, .i a, .i b, .i c, .i d, .i e_, .i f, .i g, .i h_, .i k])))))) (K 0 [.b is, .i p, .ro _ fs, .ro _ ms, .i all, .i a, .i b, .i c, .i d, .i e_, .i f, .i g, .i h_, .i k])
theorem Xol (W : InW) (is p f2 n i fs ms all a b c d e_ f g h_ k A K) : Ygb { cxT Tryz.prog TT T0 1000 50 with fn := 50 } 1000 (Ypx Tryz.prog 50 4) (Yeo 61 [(2, .ptr 4 0), (3, .ptr 1 0), (4, .sb is), (5, .si .i64 p), (10, .rs _ f2), (11, .si .i64 n), (12, .si .i64 i)] ([6, 7] ++ rgg 13 22)) [(1, .blk 29 [.rs _ fs, .rs _ ms, .si .i64 all]), (4, .blk 109 [.si .i64 a, .si .i64 b, .si .i64 c, .si .i64 d, .si .i64 e_, .si .i64 f, .si .i64 g, .si .i64 h_, .si .i64 k])] (Yw5 Xib A K) = Xe1 is p f2 n i fs ms all a b c d e_ f g h_ k A K := by kernel_rfl
def Xhc : Prop := ∀ (W : InW) (body a : Code), (Tryz.prog.funcs[50]?).bind (·.body) = some body -> a ∈ Y1 body -> Yg1 a = 4 -> @Yod W Tryz.prog a (@Yv5 W Xib)
theorem Xp6 (meas : [InW] -> List Ed -> Nat) (hyp_ : ∀ (W : InW) is p f2 n i fs ms all a b c d e_ f g h_ k K, Xf1 [.b is, .i p, .ro _ f2, .i n, .i i, .ro _ fs, .ro _ ms, .i all, .i a, .i b, .i c, .i d, .i e_, .i f, .i g, .i h_, .i k] K -> ∀ A : List Ed -> Prop, (∀ e, meas e < meas [.b is, .i p, .ro _ f2, .i n, .i i, .ro _ fs, .ro _ ms, .i all, .i a, .i b, .i c, .i d, .i e_, .i f, .i g, .i h_, .i k] -> Xf1 e K -> A e) -> Xe1 is p f2 n i fs ms all a b c d e_ f g h_ k A K) : Xhc :=
 LE.okOf' (fun W => @TT W) (fun W => @Xc W) Xa T0 1000 50 (by kernel_rfl) Xib (fun W => @meas W) fun W is p f2 n i fs ms all a b c d e_ f g h_ k K hs =>
  (Xol W is p f2 n i fs ms all a b c d e_ f g h_ k (fun e => meas e < meas [.b is, .i p, .ro _ f2, .i n, .i i, .ro _ fs, .ro _ ms, .i all, .i a, .i b, .i c, .i d, .i e_, .i f, .i g, .i h_, .i k] /\ Xf1 e K) K).mpr (hyp_ W is p f2 n i fs ms all a b c d e_ f g h_ k K hs _ fun e h1 h2 => ⟨h1, h2⟩)
theorem Xtp : Xhc := Xp6 (fun e => match e with | _ :: _ :: _ :: .i n :: .i i :: _ => (n - i).toNat | _ => 0) fun W is p f2 n i fs ms all a b c d e_ f g h_ k K hs A hA => by
 obtain ⟨⟨hcs, rfl, h0, h1, hf, ht, p0, p1⟩, hk⟩ := hs;unfold Xe1;delta Ze Zp;have ez : (i + 1).toNat = i.toNat + 1 := by omega
 have h6 := hf.n6;simp only [hcs, Nat.zero_add, Nat.reduceAdd]
 by_cases hi : i < fs.xs.length
 ·have hb := ht.b i.toNat;have hp := hf.pt i.toNat (by omega);have hm : 0 <= [a, b, c, d, e_, f, g, h_, k].getD i.toNat 0 * (cel fs.xs i.toNat 1).int /\ [a, b, c, d, e_, f, g, h_, k].getD i.toNat 0 * (cel fs.xs i.toNat 1).int <= 240 := ⟨Int.mul_nonneg hb.1 hp.1, Int.mul_le_mul hb.2 hp.2 hp.1 (by decide)⟩;rw [show fs.xs.length - i.toNat = (fs.xs.length - (i.toNat + 1)) + 1 by omega] at hk;simp only [Tt.psF, Tt.sF] at hk;have go : ∀ it : Bool, it = (is && decide ([a, b, c, d, e_, f, g, h_, k].getD i.toNat 0 <= (cel fs.xs i.toNat 2).int)) -> A [.b it, .i (p + [a, b, c, d, e_, f, g, h_, k].getD i.toNat 0 * (cel fs.xs i.toNat 1).int), .ro _ f2, .i fs.xs.length, .i (i + 1), .ro _ fs, .ro _ ms, .i all, .i a, .i b, .i c, .i d, .i e_, .i f, .i g, .i h_, .i k] := fun it hit => hA _ (show ((fs.xs.length : Int) - (i + 1)).toNat < ((fs.xs.length : Int) - i).toNat by omega) ⟨⟨hcs, rfl, by omega, by omega, hf, ht, by omega, by omega⟩, by
   rw [ez, hit, Bool.and_assoc, Int.add_assoc];exact hk⟩
  clear hA hk;have n9 : i.toNat < [a, b, c, d, e_, f, g, h_, k].length := by show i.toNat < 9; omega
  generalize [a, b, c, d, e_, f, g, h_, k].getD i.toNat 0 * (cel fs.xs i.toNat 1).int = M at *;refine vifd (fun _ => ned2 (by omega) (nedd (by omega) ?_)) fun e => by omega
  cases is with
  | true => exact vif (fun _ => ned2 (by omega) (nedd n9 (ned2 (by omega) (nedd n9 (ar64 (by omega) (ar64 (by omega) (ar64 (by omega) (go _ (by simp))))))))) fun x => by cases x
  | false => exact vif (fun x => by cases x) fun _ => ned2 (by omega) (nedd n9 (ar64 (by omega) (ar64 (by omega) (ar64 (by omega) (go _ (by simp))))))
 ·rw [show fs.xs.length - i.toNat = 0 by omega] at hk;simp only [Tt.psF, Tt.sF, Bool.and_true, Int.add_zero] at hk;exact vifd (fun e => by omega) fun _ => hk
def Xun : LE Tryz.prog := ⟨50, 4, fun W => @Yv5 W Xib, Xtp⟩
def Xf2 [InW] (e : List Ed) (K : Nat -> List Ed -> Prop) : Prop := match e with
 | [.b is, .i p, .i n, .i i, .ro _ fs, .ro _ ms, .i all, .i a, .i b, .i c, .i d, .i e, .i f, .i g, .i h, .i k] => Pre (n = (ms.xs.length : Int) /\ 0 <= i /\ i <= n /\ fs.xs.length <= 6 /\ ms.xs.length <= 3)
   (K 0 [.b (is && Tt.psM [a, b, c, d, e, f, g, h, k] (fs.xs.length + i.toNat) (ms.xs.length - i.toNat)), .i p, .ro _ fs, .ro _ ms, .i all])
 | _ => False
def Xic : LC where
 len := 61
 T := [(2, (.ptr 4 0)), (3, (.ptr 1 0)), (4, .bool), (5, .int .i64), (37, .int .i64), (38, .int .i64)]
 H := [(1, .blk 29 [.rs Jb, .rs Jd, .int .i64]), (4, .blk 109 [.int .i64, .int .i64, .int .i64, .int .i64, .int .i64, .int .i64, .int .i64, .int .i64, .int .i64])]
 W := ([8] ++ rgg 39 14)
 outs := [⟨.exit 2, [(3, (.ptr 1 0)), (4, .bool), (5, .int .i64)], [(1, .blk 29 [.rs Jb, .rs Jd, .int .i64])], ([2, 8] ++ rgg 37 16)⟩]
 spec := Xf2
def Xe2 [W : InW] (is : Bool) (p n i : Int) (fs : Ro Jb) (ms : Ro Jd) (all a b c d e_ f g h_ k : Int) (A : List Ed -> Prop) (K : Nat -> List Ed -> Prop) : Prop :=
 Vif (decide (i < n)) (Vif is (Ar .i64 ((↑(fs.xs.length) : Int) + i) fun z => Need (decide (0 <= z) && decide (z < (↑(9 : Nat) : Int))) (Need (decide (z.toNat < [a, b, c, d, e_, f, g, h_, k].length)) (Ar .i64 (i + 1) fun z_1 => A [.b (decide ((0 : Int) < [a, b, c, d, e_, f, g, h_, k].getD z.toNat (0 : Int))), .i p, .i n, .i z_1, .ro _ fs, .ro _ ms, .i all, .i a, .i b, .i c, .i d, .i e_, .i f, .i g, .i h_, .i k]))) (Ar .i64 (i + 1) fun z => A [.b false, .i p, .i n, .i z, .ro _ fs, .ro _ ms, .i all, .i a, .i b, .i c, .i d, .i e_, .i f, .i g, .i h_, .i k])) (K 0 [.b is, .i p, .ro _ fs, .ro _ ms, .i all])
theorem Xom (W : InW) (is p n i fs ms all a b c d e_ f g h_ k A K) : Ygb { cxT Tryz.prog TT T0 1000 50 with fn := 50 } 1000 (Ypx Tryz.prog 50 10) (Yeo 61 [(2, .ptr 4 0), (3, .ptr 1 0), (4, .sb is), (5, .si .i64 p), (37, .si .i64 n), (38, .si .i64 i)] ([8] ++ rgg 39 14)) [(1, .blk 29 [.rs _ fs, .rs _ ms, .si .i64 all]), (4, .blk 109 [.si .i64 a, .si .i64 b, .si .i64 c, .si .i64 d, .si .i64 e_, .si .i64 f, .si .i64 g, .si .i64 h_, .si .i64 k])] (Yw5 Xic A K) = Xe2 is p n i fs ms all a b c d e_ f g h_ k A K := by kernel_rfl
def Xhd : Prop := ∀ (W : InW) (body a : Code), (Tryz.prog.funcs[50]?).bind (·.body) = some body -> a ∈ Y1 body -> Yg1 a = 10 -> @Yod W Tryz.prog a (@Yv5 W Xic)
theorem Xp7 (meas : [InW] -> List Ed -> Nat) (hyp_ : ∀ (W : InW) is p n i fs ms all a b c d e_ f g h_ k K, Xf2 [.b is, .i p, .i n, .i i, .ro _ fs, .ro _ ms, .i all, .i a, .i b, .i c, .i d, .i e_, .i f, .i g, .i h_, .i k] K -> ∀ A : List Ed -> Prop, (∀ e, meas e < meas [.b is, .i p, .i n, .i i, .ro _ fs, .ro _ ms, .i all, .i a, .i b, .i c, .i d, .i e_, .i f, .i g, .i h_, .i k] -> Xf2 e K -> A e) -> Xe2 is p n i fs ms all a b c d e_ f g h_ k A K) : Xhd :=
 LE.okOf' (fun W => @TT W) (fun W => @Xc W) Xa T0 1000 50 (by kernel_rfl) Xic (fun W => @meas W) fun W is p n i fs ms all a b c d e_ f g h_ k K hs =>
  (Xom W is p n i fs ms all a b c d e_ f g h_ k (fun e => meas e < meas [.b is, .i p, .i n, .i i, .ro _ fs, .ro _ ms, .i all, .i a, .i b, .i c, .i d, .i e_, .i f, .i g, .i h_, .i k] /\ Xf2 e K) K).mpr (hyp_ W is p n i fs ms all a b c d e_ f g h_ k K hs _ fun e h1 h2 => ⟨h1, h2⟩)
theorem Xtq : Xhd := Xp7 (fun e => match e with | _ :: _ :: .i n :: .i i :: _ => (n - i).toNat | _ => 0) fun W is p n i fs ms all a b c d e_ f g h_ k K hs A hA => by
 obtain ⟨⟨rfl, h0, h1, h6, h3⟩, hk⟩ := hs;unfold Xe2;have ez : fs.xs.length + (i + 1).toNat = fs.xs.length + i.toNat + 1 := by omega
 have ew : ((fs.xs.length : Int) + i).toNat = fs.xs.length + i.toNat := by omega
 by_cases hi : i < ms.xs.length
 ·rw [show ms.xs.length - i.toNat = (ms.xs.length - (i + 1).toNat) + 1 by omega] at hk;simp only [Tt.psM] at hk;have go : ∀ it : Bool, it = (is && decide (0 < [a, b, c, d, e_, f, g, h_, k].getD (fs.xs.length + i.toNat) 0)) -> A [.b it, .i p, .i ms.xs.length, .i (i + 1), .ro _ fs, .ro _ ms, .i all, .i a, .i b, .i c, .i d, .i e_, .i f, .i g, .i h_, .i k] := fun it hit => hA _ (show ((ms.xs.length : Int) - (i + 1)).toNat < ((ms.xs.length : Int) - i).toNat by omega) ⟨⟨rfl, by omega, by omega, h6, h3⟩, by
   rw [ez, hit, Bool.and_assoc];exact hk⟩
  clear hA hk;have n9 : ((fs.xs.length : Int) + i).toNat < [a, b, c, d, e_, f, g, h_, k].length := by show _ < 9; omega
  refine vifd (fun _ => ?_) fun e => by omega
  cases is with
  | true => exact vif (fun _ => ar64 (by omega) (ned2 (by omega) (nedd n9 (ar64 (by omega) (go _ (by rw [ew]; simp)))))) fun x => by cases x
  | false => exact vif (fun x => by cases x) fun _ => ar64 (by omega) (go _ (by simp))
 ·rw [show ms.xs.length - i.toNat = 0 by omega] at hk;simp only [Tt.psM, Bool.and_true] at hk;exact vifd (fun e => by omega) fun _ => hk
def Xuo : LE Tryz.prog := ⟨50, 10, fun W => @Yv5 W Xic, Xtq⟩
def Tp8 : Tab Tryz.prog := ⟨[], [Xun, Xuo], []⟩
abbrev Xdh (ds : DS) : DS := match ds with | [[.i a, .i b, .i c, .i d, .i e, .i f, .i g, .i h, .i k], [.l fs, .l ms, .i all]] => [[.b (Tt.psd fs ms all [a, b, c, d, e, f, g, h, k])], [.i (Tt.sF fs [a, b, c, d, e, f, g, h, k] 0 fs.length)]] | _ => []
abbrev Xj6 (ds : DS) : Prop := match ds with | [[.i a, .i b, .i c, .i d, .i e, .i f, .i g, .i h, .i k], [.l fs, .l ms, .i all]] => Tt.FOk fs /\ ms.length <= 3 /\ Tt.TyOk [a, b, c, d, e, f, g, h, k] | _ => False
def Xlj [W : InW] (t_A t_B t_C t_D t_E t_F t_G t_H t_K : Int) (c_Fs : Ro Jb) (c_Ms : Ro Jd) (c_All : Int) (Q : DS -> Prop) : Prop :=
 Pre (c_Fs.xs = c_Fs.xs /\ (↑(c_Fs.xs.length) : Int) = (↑(c_Fs.xs.length) : Int) /\ Ze <= 0 /\ Ze <= (↑(c_Fs.xs.length) : Int) /\ Tt.FOk c_Fs.xs /\ Tt.TyOk [t_A, t_B, t_C, t_D, t_E, t_F, t_G, t_H, t_K] /\ Ze <= 0 /\ Ze <= 240 * 0) (Pre ((↑(c_Ms.xs.length) : Int) = (↑(c_Ms.xs.length) : Int) /\ Ze <= 0 /\ Ze <= (↑(c_Ms.xs.length) : Int) /\ c_Fs.xs.length <= 6 /\ c_Ms.xs.length <= 3) (Vif (true && Tt.psF c_Fs.xs [t_A, t_B, t_C, t_D, t_E, t_F, t_G, t_H, t_K] Zk (c_Fs.xs.length - Int.toNat Ze) && Tt.psM [t_A, t_B, t_C, t_D, t_E, t_F, t_G, t_H, t_K] (c_Fs.xs.length + Int.toNat Ze) (c_Ms.xs.length - Int.toNat Ze)) (Q [[Cl.b (decide (Ze + Tt.sF c_Fs.xs [t_A, t_B, t_C, t_D, t_E, t_F, t_G, t_H, t_K] Zk (c_Fs.xs.length - Int.toNat Ze) <= c_All))], [Cl.i (Ze + Tt.sF c_Fs.xs [t_A, t_B, t_C, t_D, t_E, t_F, t_G, t_H, t_K] Zk (c_Fs.xs.length - Int.toNat Ze))]]) (Q [[Cl.b false], [Cl.i (Ze + Tt.sF c_Fs.xs [t_A, t_B, t_C, t_D, t_E, t_F, t_G, t_H, t_K] Zk (c_Fs.xs.length - Int.toNat Ze))]])))
theorem Xrn (W : InW) (t_A t_B t_C t_D t_E t_F t_G t_H t_K c_Fs c_Ms c_All Q) : Yzs (cxT Tryz.prog TT Tp8 1000 50) 1000 50 [.agg [.si .i64 t_A, .si .i64 t_B, .si .i64 t_C, .si .i64 t_D, .si .i64 t_E, .si .i64 t_F, .si .i64 t_G, .si .i64 t_H, .si .i64 t_K], .agg [.rs _ c_Fs, .rs _ c_Ms, .si .i64 c_All]] [] 0 (Y4g [(false, [.bool]), (false, [.int .i64])] Q) (fun _ _ _ _ => Stuck 421) = Xlj t_A t_B t_C t_D t_E t_F t_G t_H t_K c_Fs c_Ms c_All Q := by kernel_rfl
abbrev Xd7 : List AT := [.agg [.int .i64, .int .i64, .int .i64, .int .i64, .int .i64, .int .i64, .int .i64, .int .i64, .int .i64], .agg [.sl Jb, .sl Jd, .int .i64]]
theorem Xsx {pre : DS -> Prop} {res : DS -> DS} (hyp_ : ∀ (W : InW) (t_A t_B t_C t_D t_E t_F t_G t_H t_K : Int) (c_Fs : Ro Jb) (c_Ms : Ro Jd) (c_All : Int), pre [[.i t_A, .i t_B, .i t_C, .i t_D, .i t_E, .i t_F, .i t_G, .i t_H, .i t_K], [.l c_Fs.xs, .l c_Ms.xs, .i c_All]] -> ∀ Q : DS -> Prop, Q (res [[.i t_A, .i t_B, .i t_C, .i t_D, .i t_E, .i t_F, .i t_G, .i t_H, .i t_K], [.l c_Fs.xs, .l c_Ms.xs, .i c_All]]) -> Xlj t_A t_B t_C t_D t_E t_F t_G t_H t_K c_Fs c_Ms c_All Q) : PureOk Tryz.prog 50 Xd7 [(false, [.bool]), (false, [.int .i64])] pre res :=
 PureOk.of' (fun W => @TT W) (fun W => @Xc W) Xa Tp8 1000 50 fun W t_A t_B t_C t_D t_E t_F t_G t_H t_K c_Fs c_Ms c_All hp =>
  (Xrn W t_A t_B t_C t_D t_E t_F t_G t_H t_K c_Fs c_Ms c_All (fun o => o = res [[.i t_A, .i t_B, .i t_C, .i t_D, .i t_E, .i t_F, .i t_G, .i t_H, .i t_K], [.l c_Fs.xs, .l c_Ms.xs, .i c_All]])).mpr (hyp_ W t_A t_B t_C t_D t_E t_F t_G t_H t_K c_Fs c_Ms c_All hp _ rfl)
theorem okpas : PureOk Tryz.prog 50 Xd7 [(false, [.bool]), (false, [.int .i64])] Xj6 Xdh :=
 Xsx fun W a b c d e f g h_ k fs ms all hp Q h => by
  obtain ⟨hf, h3, ht⟩ : Tt.FOk fs.xs /\ ms.xs.length <= 3 /\ Tt.TyOk [a, b, c, d, e, f, g, h_, k] := hp;have h6 := hf.n6;unfold Xlj;delta Zk Ze;simp only [Xdh, Tt.psd] at h;rw [show Int.toNat 0 = 0 from rfl, Nat.sub_zero, Nat.sub_zero, Nat.add_zero, Bool.true_and, Int.zero_add];refine Xb ⟨rfl, rfl, by omega, by omega, hf, ht, by omega, by omega⟩ (Xb ⟨rfl, by omega, by omega, h6, h3⟩ (vif (fun x => ?_) fun x => ?_))
  ·rw [x, Bool.true_and] at h; exact h
  ·rw [x, Bool.false_and] at h; exact h
def Xnq : PC Tryz.prog := ⟨50, Xd7, [(false, [.bool]), (false, [.int .i64])], Xj6, Xdh, okpas⟩
def Tp9 : Tab Tryz.prog := ⟨[Xno, Xns, Xnq], [], []⟩
abbrev Xjy (ds : DS) : DS := match ds with | [[.l fs, .l ms, .i all], [.l l]] => [[.i (Tt.tot fs l 0 l.length)], [.b (Tt.psd fs ms all (Tt.tly l))], [.i 0]] | _ => []
def Xlp [W : InW] (c_Fs : Ro Jb) (c_Ms : Ro Jd) (c_All : Int) (l : Ro Jc) (Q : DS -> Prop) : Prop :=
 Pre (Tt.CodeOk c_Fs.xs c_Ms.xs c_All /\ Tt.TestOk c_Fs.xs c_Ms.xs l.xs) (Vif (!decide (Ze = 0)) (Q [[Cl.i 0], [Cl.b false], [Cl.i 0]]) (Pre (Tt.WnOk l.xs (9 : Int) /\ l.xs.length <= 12) (Pre (Tt.FOk c_Fs.xs /\ c_Ms.xs.length <= 3 /\ Tt.TyOk [Tt.cn l.xs Ze Zh (l.xs.length), Tt.cn l.xs (1 : Int) Zh (l.xs.length), Tt.cn l.xs (2 : Int) Zh (l.xs.length), Tt.cn l.xs (3 : Int) Zh (l.xs.length), Tt.cn l.xs (4 : Int) Zh (l.xs.length), Tt.cn l.xs (5 : Int) Zh (l.xs.length), Tt.cn l.xs (6 : Int) Zh (l.xs.length), Tt.cn l.xs (7 : Int) Zh (l.xs.length), Tt.cn l.xs (8 : Int) Zh (l.xs.length)]) (Q [[Cl.i (Tt.sF c_Fs.xs [Tt.cn l.xs Ze Zh (l.xs.length), Tt.cn l.xs (1 : Int) Zh (l.xs.length), Tt.cn l.xs (2 : Int) Zh (l.xs.length), Tt.cn l.xs (3 : Int) Zh (l.xs.length), Tt.cn l.xs (4 : Int) Zh (l.xs.length), Tt.cn l.xs (5 : Int) Zh (l.xs.length), Tt.cn l.xs (6 : Int) Zh (l.xs.length), Tt.cn l.xs (7 : Int) Zh (l.xs.length), Tt.cn l.xs (8 : Int) Zh (l.xs.length)] Zh (c_Fs.xs.length))], [Cl.b (Tt.psd c_Fs.xs c_Ms.xs c_All [Tt.cn l.xs Ze Zh (l.xs.length), Tt.cn l.xs (1 : Int) Zh (l.xs.length), Tt.cn l.xs (2 : Int) Zh (l.xs.length), Tt.cn l.xs (3 : Int) Zh (l.xs.length), Tt.cn l.xs (4 : Int) Zh (l.xs.length), Tt.cn l.xs (5 : Int) Zh (l.xs.length), Tt.cn l.xs (6 : Int) Zh (l.xs.length), Tt.cn l.xs (7 : Int) Zh (l.xs.length), Tt.cn l.xs (8 : Int) Zh (l.xs.length)])], [Cl.i 0]]))))
theorem Xrt (W : InW) (c_Fs c_Ms c_All l Q) : Yzs (cxT Tryz.prog TT Tp9 1000 50) 1000 9 [.agg [.rs _ c_Fs, .rs _ c_Ms, .si .i64 c_All], .rs _ l] [] 0 (Y4g [(false, [.int .i64]), (false, [.bool]), (false, [.int .i64])] Q) (fun _ _ _ _ => Stuck 421) = Xlp c_Fs c_Ms c_All l Q := by kernel_rfl
abbrev Xed : List AT := [.agg [.sl Jb, .sl Jd, .int .i64], .one (.sl Jc)]
theorem Xs3 {pre : DS -> Prop} {res : DS -> DS} (hyp_ : ∀ (W : InW) (c_Fs : Ro Jb) (c_Ms : Ro Jd) (c_All : Int) (l : Ro Jc), pre [[.l c_Fs.xs, .l c_Ms.xs, .i c_All], [.l l.xs]] -> ∀ Q : DS -> Prop, Q (res [[.l c_Fs.xs, .l c_Ms.xs, .i c_All], [.l l.xs]]) -> Xlp c_Fs c_Ms c_All l Q) : PureOk Tryz.prog 9 Xed [(false, [.int .i64]), (false, [.bool]), (false, [.int .i64])] pre res :=
 PureOk.of' (fun W => @TT W) (fun W => @Xc W) Xa Tp9 1000 50 fun W c_Fs c_Ms c_All l hp =>
  (Xrt W c_Fs c_Ms c_All l (fun o => o = res [[.l c_Fs.xs, .l c_Ms.xs, .i c_All], [.l l.xs]])).mpr (hyp_ W c_Fs c_Ms c_All l hp _ rfl)
theorem Xjn {fs ms l : Dt} {all : Int} (hc : Tt.CodeOk fs ms all) (ht : Tt.TestOk fs ms l) : Tt.WnOk l 9 := ⟨fun i hi => by
 have := ht.w i hi;have := hc.n6;have := hc.m3;omega⟩
theorem okjdg : PureOk Tryz.prog 9 Xed [(false, [.int .i64]), (false, [.bool]), (false, [.int .i64])] Xci Xjy :=
 Xs3 fun W fs ms all l hp Q h => by
  obtain ⟨hc, ht⟩ : Tt.CodeOk fs.xs ms.xs all /\ Tt.TestOk fs.xs ms.xs l.xs := hp;unfold Xlp;delta Zh Ze;simp only [Xjy] at h;have hw := Xjn hc ht;have e := Xnm hc.n6 (l := l.xs) fun k hk => (ht.w k hk).1;have hy := Xnl ht.n12;have hs : [Tt.cn l.xs 0 0 l.xs.length, Tt.cn l.xs 1 0 l.xs.length, Tt.cn l.xs 2 0 l.xs.length, Tt.cn l.xs 3 0 l.xs.length, Tt.cn l.xs 4 0 l.xs.length, Tt.cn l.xs 5 0 l.xs.length, Tt.cn l.xs 6 0 l.xs.length, Tt.cn l.xs 7 0 l.xs.length, Tt.cn l.xs 8 0 l.xs.length] = Tt.tly l.xs := rfl;simp only [hs, e];exact Xb ⟨hc, ht⟩ (vifn (fun g => absurd trivial g) fun _ => Xb ⟨hw, ht.n12⟩ (Xb ⟨hc.f, hc.m3, hy⟩ h))
end Go.Proofs.YtladoaeefkpdiaaGreatDoor
