/-
  'TopTaught': for every input the law returns true, and what is handed in reads as before. No condition.
-/
import Derived.Test.YtbhlmkgliflhaaaGreatQd
import Derived.IntWalk
import Derived.Test.YtbhlmkgliflhaaaGreatProg
set_option linter.unusedVariables false
set_option linter.unusedSectionVars false
set_option linter.unusedSimpArgs false
namespace Go.Proofs.YtbhlmkgliflhaaaGreat
abbrev Ja : List Ty := [.str, .int .i64, .int .i64, .int .i64, .int .i64]
abbrev Jb : List Ty := [.str, .int .i64, .int .i64]
abbrev Jc : List Ty := [.int .i64, .int .i64]
abbrev Jd : List Ty := [.str]
abbrev Iv11 : List Ty := [.int .i64, .int .i64, .int .i64, .int .i64, .int .i64, .int .i64, .int .i64, .int .i64, .int .i64, .int .i64, .int .i64]
abbrev Iv5 : List Ty := [.int .i64, .int .i64, .int .i64, .int .i64, .int .i64]
abbrev Iv4 : List Ty := [.int .i64, .int .i64, .int .i64, .int .i64]
abbrev Ivs : List Ty := [.str, .int .i64, .int .i64, .int .i64]
open Go.RowKit
theorem vif [InW] {b : Bool} {A B : Prop} (h : b = true -> A) (h2 : b = false -> B) : Vif b A B := ⟨h, h2⟩
theorem vifd [InW] {p : Prop} {_ : Decidable p} {A B : Prop} (h : p -> A) (h2 : ¬ p -> B) : Vif (decide p) A B := ⟨fun e => h (of_decide_eq_true e), fun e => h2 (of_decide_eq_false e)⟩
theorem ned [InW] {b : Bool} {A : Prop} (h : b = true) (h2 : A) : Need b A := ⟨h, h2⟩
theorem nedd [InW] {p : Prop} {_ : Decidable p} {A : Prop} (h : p) (h2 : A) : Need (decide p) A := ⟨decide_eq_true h, h2⟩
theorem ar64 [InW] {n : Int} {K : Int -> Prop} (h : -9223372036854775808 <= n /\ n <= 9223372036854775807) (k : K n) : Ar .i64 n K := ⟨by rw [IntWalk.i64_in n h]; exact k⟩
theorem tm24 (n : Int) : -24 < n.tmod 24 /\ n.tmod 24 < 24 := ⟨Int.lt_tmod_of_pos n (by decide), Int.tmod_lt_of_pos n (by decide)⟩
theorem notT {b : Bool} (h : (!b) = true) : b = false := by cases b <;> simp_all
theorem notF {b : Bool} (h : (!b) = false) : b = true := by cases b <;> simp_all
theorem vifn [InW] {p : Prop} {_ : Decidable p} {A B : Prop} (h : ¬ p -> A) (h2 : p -> B) : Vif (!decide p) A B := ⟨fun e => h (of_decide_eq_false (notT e)), fun e => h2 (of_decide_eq_true (notF e))⟩
theorem vifb [InW] {b : Bool} {A B : Prop} (h : b = false -> A) (h2 : b = true -> B) : Vif (!b) A B := ⟨fun e => h (notT e), fun e => h2 (notF e)⟩
theorem X2 {p A : Prop} (h : p) (h2 : A) : Pre p A := ⟨h, h2⟩
theorem ned2 [InW] {p q : Prop} {_ : Decidable p} {_ : Decidable q} {K : Prop} (h : p /\ q) (hK : K) : Need (decide p && decide q) K := ⟨by simp [h], hK⟩
set_option maxRecDepth 100000
def tTbf [InW] : List AV := [.v (.int .i64 0), .v (.int .i64 0)]
def tTao [InW] : List (Option (Nat × Nat)) := [(some (0, 1)), (some (1, 1))]
def tTag [InW] : TI := ⟨some true, some 2, some tTbf, tTao, none, none⟩
def tTai [InW] : TI := ⟨some true, some 15, some [.v (.slice none 0 0), .v (.slice none 0 0), .v (.int .i64 0), .v (.int .i64 0), .v (.int .i64 0), .v (.int .i64 0), .v (.slice none 0 0), .v (.slice none 0 0), .v (.slice none 0 0), .v (.slice none 0 0), .v (.slice none 0 0), .v (.map none), .v (.slice none 0 0), .v (.int .i64 0), .v (.int .i64 0)], [(some (0, 7)), (some (7, 4)), (some (11, 1)), (some (12, 1)), (some (13, 1)), (some (14, 1))], none, none⟩
def tTaz [InW] : TI := ⟨some false, some 1, some [.v (.int .i32 0)], [], none, none⟩
def tTam [InW] : TI := ⟨some true, some 7, some [.v (.slice none 0 0), .v (.slice none 0 0), .v (.int .i64 0), .v (.int .i64 0), .v (.int .i64 0), .v (.int .i64 0), .v (.slice none 0 0)], [(some (0, 1)), (some (1, 1)), (some (2, 1)), (some (3, 1)), (some (4, 2)), (some (6, 1))], none, none⟩
def tTaa [InW] : TI := ⟨some false, some 1, some [.v (.nilFunc)], [], none, none⟩
def tTac [InW] : Tr TI := .node .nil tTaa .nil
def tTab [InW] : Tr TI := .node .nil ⟨none, none, none, [], none, none⟩ .nil
def tTak [InW] : Tr TI := .node tTac tTaa tTab
def tTaf [InW] : TI := ⟨some false, some 1, some [.v (.pointer none)], [], none, none⟩
def tTaq [InW] : Tr TI := .node tTac ⟨some true, some 4, some [.v (.slice none 0 0), .v (.slice none 0 0), .v (.slice none 0 0), .v (.int .i64 0)], [(some (0, 2)), (some (2, 1)), (some (3, 1))], none, none⟩ tTab
def tTah [InW] : List (Option (Nat × Nat)) := [(some (0, 1)), (some (1, 1)), (some (2, 1)), (some (3, 1))]
def tTbb [InW] : TI := ⟨some true, some 4, some [.v (.int .i64 0), .v (.int .i64 0), .v (.bool false), .v (.int .u8 0)], tTah, none, none⟩
def tTbm [InW] : List AV := [.v (.int .i64 0), .v (.int .i64 0), .v (.int .i64 0), .v (.int .i64 0)]
def tTal [InW] : Tr TI := .node tTak ⟨some true, some 4, some [.v (.slice none 0 0), .v (.slice none 0 0), .v (.slice none 0 0), .v (.slice none 0 0)], tTah, none, none⟩ (.node tTac ⟨some true, some 4, some tTbm, tTah, none, none⟩ tTab)
def tTan [InW] : List AV := [.v (.slice none 0 0)]
def tTbn [InW] : List AV := [.v (.string ByteArray.empty), .v (.int .i64 0), .v (.int .i64 0)]
def tTav [InW] : List AV := [.v (.string ByteArray.empty), .v (.int .i64 0), .v (.int .i64 0), .v (.int .i64 0)]
def tTbo [InW] : TI := ⟨some true, some 4, some tTav, tTah, none, none⟩
def tTba [InW] : TI := ⟨some false, some 1, some [.v (.int .i64 0)], [], none, none⟩
def tTbj [InW] : TI := ⟨some true, some 2, some [.v (.slice none 0 0), .v (.int .u8 0)], tTao, none, none⟩
def tTbl [InW] : Tr TI := .node (.node .nil tTaf .nil) tTaa tTab
def tTbk [InW] : TI := ⟨some true, some 1, some [.v (.pointer none)], [(some (0, 1))], none, none⟩
def tTat [InW] : List AV := [.v (.int .i64 0), .v (.int .i64 0), .v (.int .i64 0), .v (.int .i64 0), .v (.int .i64 0)]
def tTae [InW] : TI := ⟨some true, some 5, some tTat, [(some (0, 1)), (some (1, 1)), (some (2, 1)), (some (3, 1)), (some (4, 1))], none, none⟩
def tTap [InW] : List AV := [.v (.int .i64 0), .v (.int .i64 0), .v (.int .i64 0), .v (.int .i64 0), .v (.int .i64 0), .v (.int .i64 0), .v (.int .i64 0), .v (.int .i64 0), .v (.int .i64 0), .v (.int .i64 0), .v (.int .i64 0)]
def tTau [InW] : List (Option (Nat × Nat)) := [(some (0, 1)), (some (1, 1)), (some (2, 1)), (some (3, 1)), (some (4, 1)), (some (5, 1)), (some (6, 1)), (some (7, 1)), (some (8, 1)), (some (9, 1)), (some (10, 1))]
def tTaj [InW] : Tr TI := .node tTac ⟨some true, some 11, some tTap, tTau, none, none⟩ tTab
def tTay [InW] : TI := ⟨some false, some 1, some [.v (.string ByteArray.empty)], [], none, none⟩
def tTas [InW] : TI := ⟨some false, some 1, some [.v (.int .u8 0)], [], none, none⟩
def tTbe [InW] : List AV := [.v (.string ByteArray.empty), .v (.int .i64 0), .v (.int .i64 0), .v (.int .i64 0), .v (.int .i64 0)]
def tTad [InW] : Tr TI := .node tTac ⟨some true, some 5, some tTbe, [(some (0, 1)), (some (1, 2)), (some (3, 2))], none, none⟩ (.node .nil ⟨some true, some 11, some [.v (.int .u64 0), .v (.int .u64 0), .v (.int .u32 0), .v (.int .u8 0), .v (.int .u8 0), .v (.int .u8 0), .v (.int .u8 0), .v (.nilFunc), .v (.pointer none), .v (.int .i32 0), .v (.int .i32 0)], tTau, none, none⟩ .nil)
def tTar [InW] : TI := ⟨some false, some 1, (some [.v (.tuple #[.slice none 0 0, .int .i64 0])]), [], none, none⟩
def tTbc [InW] : Tr TI := .node tTac ⟨some false, some 1, (some [.v (.tuple #[.pointer none, .int .i64 0])]), [], none, none⟩ tTab
def tTbi [InW] : TI := ⟨some true, some 2, some [.v (.slice none 0 0), .v (.slice none 0 0)], tTao, none, none⟩
def tTbg [InW] : Tr TI := .node (.node .nil ⟨some true, some 0, some [], [(some (0, 0))], none, none⟩ .nil) tTaa tTab
def tTaw [InW] : Tr TI := .node tTac ⟨some true, some 3, some tTbn, [(some (0, 1)), (some (1, 2))], none, none⟩ tTab
def tTbd [InW] : Tr TI := .node tTac ⟨some true, some 2, some [.v (.slice none 0 0), .v (.int .i64 0)], tTao, none, none⟩ tTab
def tTax [InW] : Tr TI := .node .nil ⟨some true, some 4, some [.v (.pointer none), .v (.pointer none), .v (.pointer none), .v (.string ByteArray.empty)], tTah, none, none⟩ .nil
def tTbh [InW] : TI := ⟨some true, some 2, some [.v (.string ByteArray.empty), .v (.int .u64 0)], tTao, none, none⟩
def TT [InW] : Tr TI :=
 (.node (.node (.node (.node (.node (.node (.node (.node .nil tTag .nil) tTai (.node .nil tTaz .nil)) tTam tTak) tTaf (.node tTak tTaa tTaq)) tTbb (.node tTal ⟨some false, some 1, some tTan, [], (some (70, 3, 32, tTbn)), none⟩ (.node (.node tTac ⟨some false, some 1, (some [.v (.tuple #[.bool false, .int .i64 0, .int .i64 0, .int .i64 0])]), [], none, none⟩ tTab) tTaa (.node (.node .nil ⟨some true, some 0, some [], [], none, (some (0, 1, false))⟩ .nil) tTbo tTab)))) tTba (.node (.node (.node (.node tTac tTaa (.node .nil tTaf .nil)) tTbj tTbl) tTbk (.node (.node tTac ⟨some false, some 1, some tTan, [], (some (127, 2, 16, tTbf)), none⟩ tTab) tTae tTaj)) tTay (.node (.node (.node tTac ⟨some false, some 1, (some [.v (.tuple #[.agg #[.int .i64 0, .int .i64 0], .int .i64 0])]), [], none, none⟩ tTab) tTaa (.node tTac tTaf tTab)) ⟨some false, some 1, some tTan, [], (some (119, 4, 40, tTav)), none⟩ (.node tTak tTaa (.node (.node .nil tTas .nil) tTaa tTab))))) tTaa (.node (.node (.node (.node tTad ⟨some false, some 1, some tTan, [], (some (116, 11, 88, tTap)), none⟩ (.node tTac tTar tTab)) tTaf (.node (.node tTac ⟨some false, some 1, (some [.v (.tuple #[.int .i64 0, .int .i64 0])]), [], none, none⟩ tTab) ⟨some false, some 1, some tTan, [], (some (53, 5, 40, tTat)), none⟩ tTbc)) tTay (.node (.node (.node tTac tTag tTab) tTba tTak) tTbi (.node (.node tTac tTar tTab) tTaf tTbg))) tTas (.node (.node (.node tTaw ⟨some false, some 1, some tTan, [], (some (51, 5, 40, tTat)), none⟩ tTak) tTaz (.node tTbd tTae (.node tTax tTaa tTab))) tTbh (.node (.node (.node (.node .nil ⟨some true, some 2, some [.v (.nilFunc), .v (.nilFunc)], [], none, (some (2, 1, false))⟩ .nil) tTaa tTab) tTaa tTak) tTag (.node tTak ⟨some false, some 1, some tTan, [], (some (104, 4, 32, tTbm)), none⟩ tTak))))) ⟨some false, some 1, (some [.v (.tuple #[])]), [], none, none⟩ (.node (.node (.node (.node (.node (.node tTac tTaa (.node .nil tTaz .nil)) tTam tTak) tTaf (.node tTak ⟨some false, some 1, some tTan, [], (some (29, 2, 16, tTbf)), none⟩ tTaq)) tTbb (.node tTal tTbi (.node tTak tTaa tTbg))) ⟨some false, some 1, some [.v (.bool false)], [], none, none⟩ (.node (.node (.node tTak ⟨some false, some 1, some tTan, [], (some (41, 1, 8, [.v (.int .i64 0)])), none⟩ tTak) ⟨some false, some 1, some [.v (.nilIface)], [], none, none⟩ (.node tTbd tTae tTaj)) ⟨some false, some 1, some [.v (.int .u64 0)], [], none, none⟩ (.node (.node tTak ⟨some false, some 1, (some [.v (.tuple #[.int .i64 0, .int .i64 0, .int .i64 0])]), [], none, none⟩ tTbc) tTag (.node tTak ⟨some false, some 1, some [.v (.map none)], [], none, none⟩ (.node (.node .nil tTas .nil) tTaa tTab))))) tTba (.node (.node (.node (.node tTad tTbj tTak) tTbk (.node (.node (.node .nil ⟨some true, some 7, some [.v (.nilFunc), .v (.nilFunc), .v (.nilFunc), .v (.nilFunc), .v (.nilFunc), .v (.nilFunc), .v (.nilFunc)], [], none, (some (7, 1, false))⟩ .nil) tTaa tTab) tTae tTak)) tTay (.node (.node (.node tTac tTag tTab) ⟨some false, some 1, (some [.v (.tuple #[.slice none 0 0, .agg #[.slice none 0 0, .slice none 0 0, .slice none 0 0, .slice none 0 0], .int .i64 0])]), [], none, none⟩ tTak) ⟨some false, some 1, some tTan, [], (some (9, 1, 16, [.v (.string ByteArray.empty)])), none⟩ (.node tTak ⟨some false, some 1, (some [.v (.tuple #[.pointer none, .slice none 0 0, .int .i64 0])]), [], none, none⟩ (.node (.node .nil ⟨some false, some 1, some [.v (.int .u32 0)], [], none, none⟩ .nil) tTaa tTab)))) tTas (.node (.node (.node tTaw ⟨some false, some 1, some tTan, [], (some (3, 1, 8, [.v (.int .i64 0)])), none⟩ tTak) ⟨some false, some 1, some tTan, [], (some (66, 5, 48, tTbe)), none⟩ (.node tTak tTar (.node tTax tTbo tTab))) tTbh (.node (.node tTbl tTaa tTbl) ⟨some false, some 1, some tTan, [], (some (74, 2, 16, tTbf)), none⟩ (.node tTak tTai (.node (.node .nil tTaf .nil) tTag tTab)))))))
theorem Xb [InW] : TabOk Tryz.prog TT := TabOk.of 8 (by kernel_rfl)
theorem Xa : Tryz.prog.follows .mixedOrders = true := by kernel_rfl
namespace Sp
def inr (n lo hi : Int) : Bool := decide (lo <= n) && decide (n <= hi)
def fits (lo hi start hours : Int) : Bool := decide (lo <= start.tmod 24) && decide (start.tmod 24 + hours <= hi)
def apart (s1 h1 s2 h2 : Int) : Bool := decide (s1 + h1 <= s2) || decide (s2 + h2 <= s1)
def Small (n : Int) : Prop := -1000000000000000 <= n /\ n <= 1000000000000000
end Sp
noncomputable def T0 : Tab Tryz.prog := ⟨[], [], []⟩
def Xw6 [W : InW] (n lo hi : Int) (Q : DS -> Prop) : Prop :=
 Vif (decide (lo <= n)) (Q [[Cl.b (decide (n <= hi))]]) (Q [[Cl.b false]])
theorem vc_in (W : InW) (n lo hi Q) : Yvp (cxT Tryz.prog TT T0 1000 50) 1000 14 [.si .i64 n, .si .i64 lo, .si .i64 hi] [] 0 (Yzq [(false, [.bool])] Q) (fun _ _ _ _ => Stuck 421) = Xw6 n lo hi Q := by kernel_rfl
abbrev Xn9 : List AT := [.one (.int .i64), .one (.int .i64), .one (.int .i64)]
theorem ok_in {pre : DS -> Prop} {res : DS -> DS} (hyp_ : ∀ (W : InW) (n lo hi : Int), pre [[.i n], [.i lo], [.i hi]] -> ∀ Q : DS -> Prop, Q (res [[.i n], [.i lo], [.i hi]]) -> Xw6 n lo hi Q) : PureOk Tryz.prog 14 Xn9 [(false, [.bool])] pre res :=
 PureOk.of' (fun W => @TT W) (fun W => @Xb W) Xa T0 1000 50 fun W n lo hi hp =>
  (vc_in W n lo hi (fun o => o = res [[.i n], [.i lo], [.i hi]])).mpr (hyp_ W n lo hi hp _ rfl)
abbrev Xjq (ds : DS) : DS := match ds with | [[.i n], [.i lo], [.i hi]] => [[.b (Sp.inr n lo hi)]] | _ => []
theorem okin : PureOk Tryz.prog 14 Xn9 [(false, [.bool])] (fun _ => True) Xjq :=
 ok_in fun W n lo hi _ Q h => vif (fun e => by simpa [Xjq, Sp.inr, e] using h) fun e => by simpa [Xjq, Sp.inr, e] using h
noncomputable def pc_in : PC Tryz.prog := ⟨14, Xn9, [(false, [.bool])], fun _ => True, Xjq, okin⟩
end Go.Proofs.YtbhlmkgliflhaaaGreat
namespace Go.Proofs.YtbhlmkgliflhaaaGreat.Bk
structure Car where
 name : ByteArray
 km : Int
 every : Int
 never : Int
structure Term where
 before : Int
 fee : Int
structure School where
 learners : List ByteArray
 cars : List Car
 price : Int
 excess : Int
 lo : Int
 hi : Int
 terms : List Term
def oob (lo hi n : Int) : Bool := decide (n < lo) || decide (hi < n)
def alpha (b : UInt8) : Bool := 97 <= b && b <= 122
def digit (b : UInt8) : Bool := 48 <= b && b <= 57
def nameFrom : List UInt8 -> Nat -> Bool
 | [], _ => true
 | b :: l, i => (alpha b || (i != 0 && digit b)) && nameFrom l (i + 1)
def nameOk (s : ByteArray) : Bool := nameFrom s.data.toList 0 && !oob 1 16 s.size
def idxFrom {α : Type} (p : α -> Bool) : List α -> Nat -> Int
 | [], _ => -1
 | x :: xs, i => if p x then (i : Int) else idxFrom p xs (i + 1)
theorem idxFrom_drop {α : Type} (p : α -> Bool) (xs : List α) (k : Nat) (h : k < xs.length) :
  idxFrom p (xs.drop k) k = if p xs[k] then (k : Int) else idxFrom p (xs.drop (k + 1)) (k + 1) := by
 rw [List.drop_eq_getElem_cons h]; rfl
theorem idxFrom_ge {α : Type} (p : α -> Bool) (xs : List α) (k : Nat) : 0 <= idxFrom p xs k ↔ xs.any p = true := by
 induction xs generalizing k with
 | nil => simp [idxFrom]
 | cons x xs ih =>
  simp only [idxFrom, List.any_cons, Bool.or_eq_true]
  by_cases h : p x = true
  ·simp [h]
  ·simp only [Bool.not_eq_true] at h;simp [h, ih]
def namedErr (names : List ByteArray) (i : Nat) : Int :=
 if !nameOk (names.getD i ByteArray.empty) then 6
 else if (names.take i).any (fun x => x.data.toList == (names.getD i ByteArray.empty).data.toList) then 5 else 0
def carErr (s : School) (i : Nat) (c : Car) : Int :=
 let e := namedErr (s.cars.map Car.name) i
 if e ≠ 0 then e
 else if oob 0 1000000 c.km || oob 1 1000000 c.every || oob 0 255 c.never then 7 else 0
def termErr (s : School) (i : Nat) (t : Term) : Int :=
 if oob 0 240 t.before || oob 0 1000 t.fee then 7
 else if decide (0 < i) && (decide ((s.terms.getD (i - 1) ⟨0, 0⟩).before <= t.before) || decide (t.fee < (s.terms.getD (i - 1) ⟨0, 0⟩).fee)) then 2 else 0
def firstErr {α : Type} (f : Nat -> α -> Int) : List α -> Nat -> Option (Int × Int)
 | [], _ => none
 | x :: xs, i => if f i x = 0 then firstErr f xs (i + 1) else some ((i : Int), f i x)
def pre (s : School) : Int :=
 if oob 1 8 (s.learners.length : Int) || oob 1 5 (s.cars.length : Int) || decide (4 < (s.terms.length : Int)) then 3
 else if oob 1 10000 s.price || oob 0 10000000 s.excess || oob 0 24 s.lo || oob 0 24 s.hi then 7
 else if decide (s.hi <= s.lo) then 2 else 0
def checkTerms (s : School) : Int × Int × Int :=
 match firstErr (termErr s) s.terms 0 with
 | some (i, e) => (4, i, e)
 | none => (0, 0, 0)
def checkCars (s : School) : Int × Int × Int :=
 match firstErr (carErr s) s.cars 0 with
 | some (i, e) => (3, i, e)
 | none => checkTerms s
def checkNames (s : School) : Int × Int × Int :=
 match firstErr (fun i _ => namedErr s.learners i) s.learners 0 with
 | some (i, e) => (2, i, e)
 | none => checkCars s
def check (s : School) : Int × Int × Int := if pre s ≠ 0 then (1, 0, pre s) else checkNames s
def part (s : School) (before : Int) : Int :=
 match s.terms.find? (fun t => decide (t.before <= before)) with
 | some t => t.fee
 | none => 1000
def feeOf (s : School) (hours before : Int) : Int := (hours * s.price * part s before + 999) / 1000
end Go.Proofs.YtbhlmkgliflhaaaGreat.Bk
namespace Go.Proofs.YtbhlmkgliflhaaaGreat
open Go.RowKit Bk
theorem Xn0 (n lo hi : Int) (b c : Nat) (w : World) (hb : w.cell? ⟨b, 0, none⟩ = some (.int .i64 lo)) (hc : w.cell? ⟨c, 0, none⟩ = some (.int .i64 hi)) :
  Calls Tryz.prog 126 #[.int .i64 n, .pointer (some ⟨b, 0, none⟩), .pointer (some ⟨c, 0, none⟩)] w fun e w' => e = .returned (.bool (oob lo hi n)) /\ w = w' := by
 go_enter Tryz.func126, Tryz.ntmps126
 go_wp2
 all_goals go_ret
 all_goals exact ⟨by simp [oob, *], rfl⟩
theorem Xfb (g : Nat) (lb : Array Value) (p : Int -> Bool) (xs : List Int) (B : Nat) (v : Value) (w : World)
  (eg : ∀ args w, (callFunc g args).run Tryz.prog w = .ok (.enter g args) w)
  (hv : Ones w B v (xs.map (Value.int .i64)))
  (hp : ∀ x, Calls Tryz.prog g (#[.int .i64 x] ++ lb) w fun e w' => e = .returned (.bool (p x)) /\ w = w') :
  Calls Tryz.prog 98 #[v, .func (.func g) #[] lb] w fun e w' => e = .returned (.int .i64 (idxFrom p xs 0)) /\ w = w' := by
 obtain ⟨A, c, rfl, hcap, hbig⟩ := hv.form;simp only [List.length_map] at hbig hcap hv ⊢
 go_enter Tryz.func98, Tryz.ntmps98
 go_wp2
 go_loopg [5, 8] xs.length (fun gg _ s8 wr => ∃ kk : Nat, kk <= xs.length /\ xs.length - kk <= gg /\ s8 = .int .i64 kk /\ w = wr /\ Hid (idxFrom p (xs.drop kk) kk = idxFrom p xs 0))
 case atStart => exact ⟨0, Nat.zero_le _, by omega, rfl, rfl, rfl⟩
 case round =>
  obtain ⟨kk, hkk, hg, rfl, rfl, A⟩ := hrel
  by_cases hlt : kk < xs.length
  ·have hltz : (kk : Int) < (xs.length : Int) := by omega
   obtain ⟨b, off, c', e, hcap', hb, hcell⟩ := hv.at_ (k := kk) (by simpa using hlt);rw [List.length_map] at e; cases e;simp only [List.getElem_map] at hcell;have hcall := hp xs[kk];have B := Lib.hid (idxFrom_drop p xs kk hlt);clear hp hv;generalize xs[kk] = y at hcell hcall B;cases hq : p y with
   | true =>
    rw [hq] at hcall;have Hq := Lib.hid hq;clear hq
    go_wp2_with (go_at_fn g; refine hcall.mono ?_; rintro e w' ⟨rfl, rfl⟩)
    go_ret
    refine ⟨?_, rfl⟩;rw [<- A.out, B.out, Hq.out]; rfl
   | false =>
    rw [hq] at hcall;have Hq := Lib.hid hq;clear hq
    go_wp2_with (go_at_fn g; refine hcall.mono ?_; rintro e w' ⟨rfl, rfl⟩)
    go_roundg (xs.length - (kk + 1))
    case measure => omega
    case rel =>
     refine ⟨kk + 1, by omega, by omega, by go_num, rfl, ?_⟩;rw [<- A.out, B.out, Hq.out]; rfl
  ·have hltz : ¬ (kk : Int) < (xs.length : Int) := by omega
   have : kk = xs.length := by omega
   subst this
   go_wp2
   go_ret
   refine ⟨?_, rfl⟩;rw [<- A.out]; simp [idxFrom]
theorem Xdb (g : Nat) (lb : Array Value) (p : Int -> Bool) (xs : List Int) (B : Nat) (v : Value) (w : World)
  (eg : ∀ args w, (callFunc g args).run Tryz.prog w = .ok (.enter g args) w)
  (hv : Ones w B v (xs.map (Value.int .i64)))
  (hp : ∀ x, Calls Tryz.prog g (#[.int .i64 x] ++ lb) w fun e w' => e = .returned (.bool (p x)) /\ w = w') :
  Calls Tryz.prog 69 #[v, .func (.func g) #[] lb] w fun e w' => e = .returned (.bool (xs.any p)) /\ w = w' := by
 have hi := Xfb g lb p xs B v w eg hv hp;have he := idxFrom_ge p xs 0;clear hp hv eg;have He := Lib.hid he;clear he
 go_enter Tryz.func69, Tryz.ntmps69
 go_wp2_with (go_at_call 98; refine hi.mono ?_; rintro e w' ⟨rfl, rfl⟩)
 go_ret
 refine ⟨ret_bool ?_, rfl⟩;rw [Bool.eq_iff_iff, <- He.out]; simp
end Go.Proofs.YtbhlmkgliflhaaaGreat
namespace Go.Proofs.YtbhlmkgliflhaaaGreat
open Go.RowKit Bk
theorem Ones.mk1 {w : World} {B b : Nat} {x : Value} (hb : b < B) (h : w.cell? ⟨b, 0, none⟩ = some x) : Ones w B (.slice (some ⟨b, 0, none⟩) 1 1) [x] := by
 refine ⟨_, 1, rfl, by simp, by simp, fun _ => ⟨b, 0, rfl, hb, fun k r hk j u hj => ?_⟩⟩
 match k, hk with
 | 0, hk =>
  simp at hk; subst hk
  match j, hj with
  | 0, hj => simp at hj; subst hj; simpa using h
theorem Xus (lo hi x : Int) (b : Nat) (w : World) (hb : b = w.heap.size) :
  Calls Tryz.prog 112 #[.int .i64 lo, .int .i64 hi, .slice (some ⟨b, 0, none⟩) 1 1] (w.alloc (.cells #[.int .i64 x] 3)) fun e w' => e = .returned (.bool (oob lo hi x)) /\ Below w.heap.size w w' := by
 subst hb;have hv : Ones (w.alloc (.cells #[.int .i64 x] 3)) (w.heap.size + 1) (.slice (some ⟨w.heap.size, 0, none⟩) 1 1) (([x] : List Int).map (Value.int .i64)) := Ones.mk1 (by omega) (by simp [go_sem]);have hbl : Below (w.heap.size + 1) (w.alloc (.cells #[.int .i64 x] 3)) (((w.alloc (.cells #[.int .i64 x] 3)).alloc (.cells #[.int .i64 lo] 3)).alloc (.cells #[.int .i64 hi] 3)) := ((Below.refl _ _).alloc (by simp) _).alloc (by simp) _;have hcall := Xdb 126 #[.pointer (some ⟨w.heap.size + 1, 0, none⟩), .pointer (some ⟨w.heap.size + 2, 0, none⟩)] (oob lo hi) [x] _ _ _ (enters_of Tryz.func126 (by kernel_rfl) rfl) (hv.below hbl)
  (fun x => Xn0 x lo hi (w.heap.size + 1) (w.heap.size + 2) _ (by simp [go_sem]) (by simp [go_sem]))
 clear hv;simp only [List.any_cons, List.any_nil, Bool.or_false] at hcall
 go_enter Tryz.func112, Tryz.ntmps112
 go_wp2_with (go_at_call 69; refine hcall.mono ?_; rintro e w' ⟨rfl, rfl⟩)
 go_ret
 exact ⟨rfl, ((Below.refl _ _).alloc (Nat.le_refl _) _).trans (hbl.mono (by omega))⟩
theorem Xb0 (l : List UInt8) (k : Nat) (h : k < l.length) : nameFrom (l.drop k) k = ((alpha l[k] || (k != 0 && digit l[k])) && nameFrom (l.drop (k + 1)) (k + 1)) := by
 rw [List.drop_eq_getElem_cons h]; rfl
theorem Xnp (b : UInt8) (k : Nat) : (alpha b || (k != 0 && digit b)) = true ↔ ((97 <= (b.toNat : Int) /\ (b.toNat : Int) <= 122) \/ (k ≠ 0 /\ 48 <= (b.toNat : Int) /\ (b.toNat : Int) <= 57)) := by
 simp only [alpha, digit, Bool.or_eq_true, Bool.and_eq_true, decide_eq_true_eq, bne_iff_ne, UInt8.le_iff_toNat_le];have : (97 : UInt8).toNat = 97 := rfl;have : (122 : UInt8).toNat = 122 := rfl;have : (48 : UInt8).toNat = 48 := rfl;have : (57 : UInt8).toNat = 57 := rfl;omega
theorem Xhx (w : World) (s : ByteArray) (pos : Nat) : Below w.heap.size w (w.iter s pos) := (Below.refl _ _).alloc (Nat.le_refl _) _
theorem Xlm (s : ByteArray) (pos : Nat) (h : pos < s.size) :
  (∃ b : UInt8, s.data.toList[pos]? = some b /\ (Utf8.decode s pos).1 = b.toNat /\ (Utf8.decode s pos).2 = 1 /\ b.toNat < 128) \/
  (∃ b : UInt8, s.data.toList[pos]? = some b /\ 128 <= b.toNat /\ 128 <= (Utf8.decode s pos).1) := by
 have hl : pos < s.data.toList.length := by simpa using h
 have hg : s.data.toList[pos]? = some (s[pos]'h) := by rw [List.getElem?_eq_getElem hl]; simp; rfl
 by_cases ha : (s[pos]'h).toNat < 128
 ·exact .inl ⟨_, hg, by rw [decode_ascii s pos h ha], by rw [decode_ascii s pos h ha], ha⟩
 ·exact .inr ⟨_, hg, by omega, (decode_high s pos h (by omega)).1⟩
theorem Xdn (l : List UInt8) (k : Nat) (b : UInt8) (h : l[k]? = some b) : nameFrom (l.drop k) k = ((alpha b || (k != 0 && digit b)) && nameFrom (l.drop (k + 1)) (k + 1)) := by
 obtain ⟨hk, rfl⟩ := List.getElem?_eq_some_iff.1 h;exact Xb0 l k hk
def Xbs (c : Int) (k : Nat) : Bool := decide (97 <= c /\ c <= 122) || (decide (k ≠ 0) && decide (48 <= c /\ c <= 57))
theorem Xmj (s : ByteArray) (pos : Nat) (h : pos < s.size) :
  (Xbs (Utf8.decode s pos).1 pos = true /\ (Utf8.decode s pos).2 = 1 /\ nameFrom (s.data.toList.drop pos) pos = nameFrom (s.data.toList.drop (pos + 1)) (pos + 1)) \/
  (Xbs (Utf8.decode s pos).1 pos = false /\ nameFrom (s.data.toList.drop pos) pos = false) := by
 have hn := fun b => Xnp b pos;rcases Xlm s pos h with ⟨b, hb, e1, e2, hlt⟩ | ⟨b, hb, hlt, hge⟩
 ·rw [Xdn _ _ _ hb, e1];have hb' := hn b
  by_cases hg : Xbs b.toNat pos = true
  ·refine .inl ⟨hg, e2, ?_⟩;have : (alpha b || (pos != 0 && digit b)) = true := by rw [hb']; simpa [Xbs] using hg
   rw [this]; rfl
  ·refine .inr ⟨by simpa using hg, ?_⟩;have : (alpha b || (pos != 0 && digit b)) = false := by rw [Bool.eq_false_iff, Ne, hb']; simpa [Xbs] using hg
   rw [this]; rfl
 ·refine .inr ⟨?_, ?_⟩
  ·simp only [Xbs, Bool.or_eq_false_iff, Bool.and_eq_false_iff, decide_eq_false_iff_not]; omega
  ·rw [Xdn _ _ _ hb];have : (alpha b || (pos != 0 && digit b)) = false := by
    rw [Bool.eq_false_iff, Ne, hn b]; omega
   rw [this]; rfl
theorem Xn1 (s : ByteArray) (w : World) :
  Calls Tryz.prog 92 #[.string s] w fun e w' => e = .returned (.bool (nameOk s)) /\ Below w.heap.size w w' := by
 go_enter Tryz.func92, Tryz.ntmps92
 go_wp2
 go_loopw [3, 4] (fun _ _ w' => ∃ pos : Nat, w' = w.iter s pos /\ Hid (nameFrom (s.data.toList.drop pos) pos = nameFrom s.data.toList 0)) (fun _ _ w' => s.size - w'.iterPos w.heap.size)
 case atStart => exact ⟨0, rfl, rfl⟩
 case round =>
  obtain ⟨pos, rfl, A⟩ := hrel
  by_cases hp : pos < s.size
  ·have hnx : ∀ ty, (Instr.next (.pointer (some ⟨w.heap.size, 0, none⟩)) true ty).run Tryz.prog (w.iter s pos) = _ := fun ty => run_next_any w s pos ty hp;rcases Xmj s pos hp with ⟨hg, h1, hn⟩ | ⟨hg, hn⟩
   ·rw [h1] at hnx;generalize (Utf8.decode s pos).1 = c at hg hnx;have N := Lib.hid hn;clear hn h1;have hg' : (97 <= (c : Int) /\ (c : Int) <= 122) \/ (pos ≠ 0 /\ 48 <= (c : Int) /\ (c : Int) <= 57) := by simpa [Xbs] using hg
    clear hg
    by_cases h1 : 97 <= (c : Int) /\ (c : Int) <= 122
    ·obtain ⟨ha, hb⟩ := h1;clear hg'
     go_wp2
     go_roundw
     case rel => exact ⟨pos + 1, rfl, (N.out.symm.trans A.out)⟩
     case measure => simp; omega
    ·have hg2 : pos ≠ 0 /\ 48 <= (c : Int) /\ (c : Int) <= 57 := by omega
     obtain ⟨hp0, ha, hb⟩ := hg2;have hp1 : ((pos : Int) == 0) = false := by rw [beq_eq_false_iff_ne]; omega
     have hp2 : 0 < (pos : Int) := by omega
     clear hg' h1 hp0
     go_wp2
     all_goals go_roundw
     case rel => exact ⟨pos + 1, rfl, (N.out.symm.trans A.out)⟩
     case measure => simp; omega
   ·generalize (Utf8.decode s pos).1 = c at hg hnx;have N := Lib.hid hn;clear hn;have hg' : ¬ ((97 <= (c : Int) /\ (c : Int) <= 122) \/ (pos ≠ 0 /\ 48 <= (c : Int) /\ (c : Int) <= 57)) := by simpa [Xbs] using hg
    clear hg;have hfin : nameOk s = false := by unfold nameOk; rw [<- A.out, N.out]; rfl
    have F := Lib.hid hfin;clear hfin A N;rcases (by omega : (c : Int) < 97 \/ 122 < (c : Int)) with h1 | h1
    all_goals
     by_cases hp0 : pos = 0
     ·subst hp0;clear hg'
      go_wp2
      go_ret
      exact ⟨ret_bool F.out.symm, Xhx _ _ _⟩
     ·have hp1 : ((pos : Int) == 0) = false := by rw [beq_eq_false_iff_ne]; omega
      have hp2 : 0 < (pos : Int) := by omega
      rcases (by omega : (c : Int) < 48 \/ 57 < (c : Int)) with h2 | h2
      all_goals
       clear hg' hp0
       go_wp2
       all_goals go_ret
       all_goals exact ⟨ret_bool F.out.symm, Xhx _ _ _⟩
  ·have hnx : ∀ ty, (Instr.next (.pointer (some ⟨w.heap.size, 0, none⟩)) true ty).run Tryz.prog (w.iter s pos) = _ := fun ty => run_next_end w s pos ty hp;have hfin : nameFrom s.data.toList 0 = true := by
    rw [<- A.out, List.drop_eq_nil_of_le (by simp; omega)]; rfl
   have F := Lib.hid hfin;clear hfin A
   go_wp2_with (go_at_call 112; refine (Xus _ _ _ _ _ rfl).mono ?_; rintro e w' ⟨rfl, hb⟩)
   go_ret
   refine ⟨ret_bool ?_, ((Xhx _ _ _).trans (hb.mono (by simp [World.iter])))⟩;unfold nameOk;rw [F.out]; simp
end Go.Proofs.YtbhlmkgliflhaaaGreat
namespace Go.Proofs.YtbhlmkgliflhaaaGreat
open Go.RowKit Bk
theorem Xoa (b : UInt8) : alpha b = true ↔ (97 <= (b.toNat : Int) /\ (b.toNat : Int) <= 122) := by
 have := Xnp b 0;simp at this;exact this
theorem Xnz (b : UInt8) : digit b = true ↔ (48 <= (b.toNat : Int) /\ (b.toNat : Int) <= 57) := by
 simp only [digit, Bool.and_eq_true, decide_eq_true_eq, UInt8.le_iff_toNat_le];have : (48 : UInt8).toNat = 48 := rfl;have : (57 : UInt8).toNat = 57 := rfl;omega
theorem Xmy (b : UInt8) : oob 97 122 b.toNat = !alpha b := by
 rw [Bool.eq_iff_iff]; simp only [oob, Bool.or_eq_true, decide_eq_true_eq, Bool.not_eq_true', Bool.eq_false_iff, Ne, Xoa]; omega
theorem Xmx (b : UInt8) : oob 48 57 b.toNat = !digit b := by
 rw [Bool.eq_iff_iff]; simp only [oob, Bool.or_eq_true, decide_eq_true_eq, Bool.not_eq_true', Bool.eq_false_iff, Ne, Xnz]; omega
theorem Xhs (n lo hi : Int) (w : World) : Calls Tryz.prog 47 #[.int .i64 n, .int .i64 lo, .int .i64 hi] w fun e w' => e = .returned (.bool (!oob lo hi n)) /\ w = w' := by
 go_enter Tryz.func47, Tryz.ntmps47
 go_wp2
 all_goals go_ret
 all_goals exact ⟨ret_bool (by simp only [oob]; rw [Bool.eq_iff_iff]; simp; omega), rfl⟩
theorem Xgt (b : UInt8) (w : World) : Calls Tryz.prog 47 #[.int .i64 (b.toNat : Int), .int .i64 97, .int .i64 122] w fun e w' => e = .returned (.bool (alpha b)) /\ w = w' := by
 have h := Xhs b.toNat 97 122 w;rw [Xmy, Bool.not_not] at h; exact h
theorem Xnr (b : UInt8) (w : World) : Calls Tryz.prog 47 #[.int .i64 (b.toNat : Int), .int .i64 48, .int .i64 57] w fun e w' => e = .returned (.bool (digit b)) /\ w = w' := by
 have h := Xhs b.toNat 48 57 w;rw [Xmx, Bool.not_not] at h; exact h
set_option maxHeartbeats 1000000 in
theorem Xml (s : ByteArray) (w : World) (hs : s.size <= 9223372036854775807) :
  Calls Tryz.prog 15 #[.string s] w fun e w' => e = .returned (.bool (nameOk s)) /\ w = w' := by
 have h16 := Xhs s.size 1 16 w
 by_cases hl : oob 1 16 s.size = true
 ·have hfin : nameOk s = false := by simp only [nameOk, hl]; simp
  rw [hl] at h16;have F := Lib.hid hfin;clear hfin hl
  go_enter Tryz.func15, Tryz.ntmps15
  go_wp2_with (go_at_call 47; refine h16.mono ?_; rintro e w' ⟨rfl, rfl⟩)
  go_ret
  exact ⟨ret_bool F.out.symm, rfl⟩
 ·simp only [Bool.not_eq_true] at hl;rw [hl] at h16;have hb : 1 <= s.size /\ s.size <= 16 := by simp only [oob, Bool.or_eq_false_iff, decide_eq_false_iff_not] at hl; omega
  obtain ⟨hb1, hb2⟩ := hb;have hpos : 0 < s.size := by omega
  have hN : nameOk s = nameFrom s.data.toList 0 := by simp [nameOk, hl]
  have HN := Lib.hid hN;clear hN hl;have h0 : nameFrom s.data.toList 0 = (alpha s[0] && nameFrom (s.data.toList.drop 1) 1) := by
   have := Xb0 s.data.toList 0 (by simpa using hpos);simp only [List.drop_zero] at this;rw [this];have e : s.data.toList[0]'(by simpa using hpos) = s[0] := by simp; rfl
   rw [e]; simp
  have hget : ∀ k (h : k < s.size), s.data.toList[k]'(by simpa using h) = s[k] := fun k h => by simp; rfl
  have hc0 := Xgt s[0] w;have hby : (s[0].toNat : Int) <= 255 := by have := s[0].toNat_lt; omega
  cases ha : alpha s[0] with
  | false =>
   rw [ha] at h0 hc0;have F := Lib.hid (HN.out.trans h0);clear h0 hget;have Ha := Lib.hid ha;clear ha
   go_enter Tryz.func15, Tryz.ntmps15
   go_wp2_with (first | (go_at_call 47; ((with_reducible refine h16.mono ?_); rintro e w' ⟨rfl, rfl⟩)) | (go_at_call 47; ((with_reducible refine hc0.mono ?_); rintro e w' ⟨rfl, rfl⟩)))
   go_ret
   exact ⟨ret_bool F.out.symm, rfl⟩
  | true =>
   rw [ha] at h0 hc0;have H0 := Lib.hid ha;have HG := Lib.hid hget;clear h0 hget ha
   go_enter Tryz.func15, Tryz.ntmps15
   go_wp2_with (first | (go_at_call 47; ((with_reducible refine h16.mono ?_); rintro e w' ⟨rfl, rfl⟩)) | (go_at_call 47; ((with_reducible refine hc0.mono ?_); rintro e w' ⟨rfl, rfl⟩)))
   clear hc0 h16 hby
   go_loop [3] (fun i => ∃ k : Nat, k <= s.size /\ i = .int .i64 k /\ Hid (nameFrom (s.data.toList.drop k) k = nameFrom s.data.toList 0)) (fun i => s.size - (intOf i).toNat)
   case atStart => exact ⟨0, Nat.zero_le _, rfl, rfl⟩
   case round =>
    obtain ⟨k, hk, rfl, A⟩ := hrel
    by_cases hlt : k < s.size
    ·have hltz : (k : Int) < (s.size : Int) := by omega
     have hd := Xb0 s.data.toList k (by simpa using hlt);rw [HG.out k hlt] at hd;have h1 := Xgt s[k] w;have h2 := Xnr s[k] w;have hby : (s[k].toNat : Int) <= 255 := by have := s[k].toNat_lt; omega
     have H00 : Hid (k = 0 -> alpha s[k] = true) := fun e => by subst e; exact H0.out
     cases ha : alpha s[k] with
     | true =>
      rw [ha] at hd h1;simp only [Bool.true_or, Bool.true_and] at hd;have D := Lib.hid hd;clear hd ha h2 H00
      go_wp2_with (go_at_call 47; ((with_reducible refine h1.mono ?_); rintro e w' ⟨rfl, rfl⟩))
      go_round
      case rel => exact ⟨k + 1, by omega, by go_num, D.out.symm.trans A.out⟩
      case measure => simp [intOf]; omega
     | false =>
      rw [ha] at hd h1;have hk0 : k ≠ 0 := fun e => by have := H00.out e; rw [ha] at this; cases this
      clear H00;cases hg : digit s[k] with
      | true =>
       rw [hg] at hd h2;simp only [Bool.false_or, Bool.and_true, bne_iff_ne.2 hk0, Bool.true_and] at hd;have D := Lib.hid hd;clear hd ha hg hk0
       go_wp2_with (first | (go_at_call 47; ((with_reducible refine h1.mono ?_); rintro e w' ⟨rfl, rfl⟩)) | (go_at_call 47; ((with_reducible refine h2.mono ?_); rintro e w' ⟨rfl, rfl⟩)))
       go_round
       case rel => exact ⟨k + 1, by omega, by go_num, D.out.symm.trans A.out⟩
       case measure => simp [intOf]; omega
      | false =>
       rw [hg] at hd h2;simp only [Bool.false_or, Bool.and_false, Bool.false_and] at hd;have D := Lib.hid hd;clear hd ha hg hk0
       go_wp2_with (first | (go_at_call 47; ((with_reducible refine h1.mono ?_); rintro e w' ⟨rfl, rfl⟩)) | (go_at_call 47; ((with_reducible refine h2.mono ?_); rintro e w' ⟨rfl, rfl⟩)))
       go_ret
       exact ⟨ret_bool (by rw [HN.out, <- A.out, D.out]), rfl⟩
    ·go_wp2
     go_ret
     refine ⟨ret_bool ?_, rfl⟩;rw [HN.out, <- A.out, List.drop_eq_nil_of_le (by simp; omega)]; rfl
end Go.Proofs.YtbhlmkgliflhaaaGreat
namespace Go.Proofs.YtbhlmkgliflhaaaGreat
open Go.RowKit
abbrev Xci (f : ByteArray -> Bool) (ds : DS) : DS := match ds with | [[.s s]] => [[.b (f s)]] | _ => []
abbrev Xcw (f : ByteArray -> Prop) (ds : DS) : Prop := match ds with | [[.s s]] => f s | _ => False
theorem Xmo {P : Program} {g : Nat} {pre : ByteArray -> Prop} {f : ByteArray -> Bool} (h : ∀ s w, pre s -> Calls P g #[.string s] w fun e w' => e = .returned (.bool (f s)) /\ Below w.heap.size w w') : PureOk P g [.one .str] [(false, [.bool])] (Xcw pre) (Xci f) := by
 intro W args ds ha hpre d hd;refine @Yn3 W [.one .str] (fun args ds => Xcw pre ds -> @ACall W P g args [] false (@Ywh W d [(false, [.bool])] (Xci f ds)) [] (@Yc9 W d 0 [(false, [.bool])] (Xci f ds))) _ _ (fun s hp => ?_) ha hpre;intro φ w0 M R w hnew hS;refine (h s w hp).mono fun e w' ⟨he, hb⟩ => ⟨φ, fun i _ => rfl, he, ?_⟩;simpa [Yh, Yc9, Ybi, RTy.hp] using hS.ext hb
theorem Xtx : PureOk Tryz.prog 92 [.one .str] [(false, [.bool])] (Xcw fun _ => True) (Xci Bk.nameOk) := Xmo fun s w _ => Xn1 s w
theorem Xsz : PureOk Tryz.prog 15 [.one .str] [(false, [.bool])] (Xcw fun s => s.size <= 9223372036854775807) (Xci Bk.nameOk) := Xmo fun s w hs => (Xml s w hs).mono fun e w' ⟨he, hw⟩ => ⟨he, hw ▸ Below.refl _ _⟩
noncomputable def Xdd : PC Tryz.prog := ⟨92, [.one .str], [(false, [.bool])], Xcw fun _ => True, Xci Bk.nameOk, Xtx⟩
noncomputable def Xjs : PC Tryz.prog := ⟨15, [.one .str], [(false, [.bool])], Xcw fun s => s.size <= 9223372036854775807, Xci Bk.nameOk, Xsz⟩
set_option maxRecDepth 100000
namespace Sq
def inr (n lo hi : Int) : Bool := decide (lo <= n) && decide (n <= hi)
def Small (n : Int) : Prop := -1000000000000000 <= n /\ n <= 1000000000000000
def outs (lo hi : Int) (xs : Dt) : Nat -> Nat -> Bool
 | _, 0 => false
 | i, n + 1 => !inr (cel xs i 0).int lo hi || outs lo hi xs (i + 1) n
def out (lo hi : Int) (xs : Dt) : Bool := outs lo hi xs 0 xs.length
def outI (lo hi : Int) (xs : Dt) : Nat -> Nat -> Nat
 | i, 0 => i
 | i, n + 1 => if inr (cel xs i 0).int lo hi = true then outI lo hi xs (i + 1) n else i
def lev (n : Int) : Int := max 0 (min 1000 n)
def spanE (lo hi low high : Int) : Int := if inr lo low high && inr hi low high then (if hi < lo then 2 else 0) else 7
def bhLo (hi mark : Int) : Int := if mark = 0 then 0 else max 0 (mark - hi)
def bhHi (lo mark : Int) : Int := if mark = 1000 then 1000 else min 1000 (mark - lo)
end Sq
noncomputable def T0q : Tab Tryz.prog := ⟨[], [], []⟩
def Xrv [W : InW] (n lo hi : Int) (Q : DS -> Prop) : Prop :=
 Vif (decide (lo <= n)) (Q [[Cl.b (decide (n <= hi))]]) (Q [[Cl.b false]])
theorem Xu2 (W : InW) (n lo hi Q) : Yvp (cxT Tryz.prog TT T0q 1000 50) 1000 11 [.si .i64 n, .si .i64 lo, .si .i64 hi] [] 0 (Yzq [(false, [.bool])] Q) (fun _ _ _ _ => Stuck 421) = Xrv n lo hi Q := by kernel_rfl
abbrev Xh1 : List AT := [.one (.int .i64), .one (.int .i64), .one (.int .i64)]
theorem Xvo {pre : DS -> Prop} {res : DS -> DS} (hyp_ : ∀ (W : InW) (n lo hi : Int), pre [[.i n], [.i lo], [.i hi]] -> ∀ Q : DS -> Prop, Q (res [[.i n], [.i lo], [.i hi]]) -> Xrv n lo hi Q) : PureOk Tryz.prog 11 Xh1 [(false, [.bool])] pre res :=
 PureOk.of' (fun W => @TT W) (fun W => @Xb W) Xa T0q 1000 50 fun W n lo hi hp =>
  (Xu2 W n lo hi (fun o => o = res [[.i n], [.i lo], [.i hi]])).mpr (hyp_ W n lo hi hp _ rfl)
abbrev Xe0 (ds : DS) : DS := match ds with | [[.i n], [.i lo], [.i hi]] => [[.b (Sq.inr n lo hi)]] | _ => []
theorem okinq : PureOk Tryz.prog 11 Xh1 [(false, [.bool])] (fun _ => True) Xe0 :=
 Xvo fun W n lo hi _ Q h => vif (fun e => by simpa [Xe0, Sq.inr, e] using h) fun e => by simpa [Xe0, Sq.inr, e] using h
noncomputable def Xgf : PC Tryz.prog := ⟨11, Xh1, [(false, [.bool])], fun _ => True, Xe0, okinq⟩
def Xer [InW] (e : List Ed) (K : Nat -> List Ed -> Prop) : Prop := match e with
 | [.ro _ xs, .i n, .i i, .i lo, .i hi] => Pre (n = xs.xs.length /\ 0 <= i /\ i <= n) (Vif (Sq.outs lo hi xs.xs i.toNat (xs.xs.length - i.toNat)) (K 1 [.i (Sq.outI lo hi xs.xs i.toNat (xs.xs.length - i.toNat)), .i lo, .i hi]) (K 0 [.i lo, .i hi]))
 | _ => False
noncomputable def Xe3 : LC where
 len := 19
 T := [(0, .rs [.int .i64]), (1, (.fn (.func 70) [] [(.ptr 1 0), (.ptr 4 0)])), (7, .int .i64), (8, .int .i64)]
 H := [(1, .blk 3 [.int .i64]), (4, .blk 3 [.int .i64])]
 W := ([4, 5] ++ rgg 9 10)
 outs := [⟨.exit 0, [(1, (.fn (.func 70) [] [(.ptr 1 0), (.ptr 4 0)]))], [(1, .blk 3 [.int .i64]), (4, .blk 3 [.int .i64])], ([0, 4, 5] ++ rgg 7 12)⟩, ⟨.ret, [(1, (.fn (.func 70) [] [(.ptr 1 0), (.ptr 4 0)])), (4, .int .i64)], [(1, .blk 3 [.int .i64]), (4, .blk 3 [.int .i64])], ([0, 5] ++ rgg 7 12)⟩]
 spec := Xer
def Xfu [W : InW] (xs : Ro [.int .i64]) (n i lo hi : Int) (A : List Ed -> Prop) (K : Nat -> List Ed -> Prop) : Prop :=
 Vif (decide (i < n)) (Need (decide (0 <= i) && decide (i < (↑(xs.xs.length) : Int))) (Need (decide (i.toNat < xs.xs.length)) (Vif (decide ((cel xs.xs i.toNat (0 : Nat)).int < lo)) (K (0+1) [.i i, .i lo, .i hi]) (Vif (decide (hi < (cel xs.xs i.toNat (0 : Nat)).int)) (K (0+1) [.i i, .i lo, .i hi]) (Ar .i64 (i + 1) fun z => A [.ro _ xs, .i n, .i z, .i lo, .i hi]))))) (K 0 [.i lo, .i hi])
theorem Xol (W : InW) (xs n i lo hi A K) : Ye9 { cxT Tryz.prog TT T0q 1000 50 with fn := 98 } 1000 (Ynh Tryz.prog 98 3) (Ydy 19 [(0, .rs _ xs), (1, .fn (.func 70) [] [.ptr 1 0, .ptr 4 0]), (7, .si .i64 n), (8, .si .i64 i)] ([4, 5] ++ rgg 9 10)) [(1, .blk 3 [.si .i64 lo]), (4, .blk 3 [.si .i64 hi])] (Yth Xe3 A K) = Xfu xs n i lo hi A K := by kernel_rfl
def Xgk : Prop := ∀ (W : InW) (body a : Code), (Tryz.prog.funcs[98]?).bind (·.body) = some body -> a ∈ Yw body -> Yfu a = 3 -> @Yma W Tryz.prog a (@Ysp W Xe3)
theorem Xpw (meas : [InW] -> List Ed -> Nat) (hyp_ : ∀ (W : InW) xs n i lo hi K, Xer [.ro _ xs, .i n, .i i, .i lo, .i hi] K -> ∀ A : List Ed -> Prop, (∀ e, meas e < meas [.ro _ xs, .i n, .i i, .i lo, .i hi] -> Xer e K -> A e) -> Xfu xs n i lo hi A K) : Xgk :=
 LE.okOf' (fun W => @TT W) (fun W => @Xb W) Xa T0q 1000 50 (by kernel_rfl) Xe3 (fun W => @meas W) fun W xs n i lo hi K hs =>
  (Xol W xs n i lo hi (fun e => meas e < meas [.ro _ xs, .i n, .i i, .i lo, .i hi] /\ Xer e K) K).mpr (hyp_ W xs n i lo hi K hs _ fun e h1 h2 => ⟨h1, h2⟩)
theorem Xt3 : Xgk := Xpw (fun e => match e with | .ro _ xs :: .i n :: .i i :: _ => (n - i).toNat | _ => 0) fun W xs n i lo hi K hs A hA => by
 obtain ⟨⟨rfl, h0, h1⟩, hk⟩ := hs;unfold Xfu;have hm := xs.len;simp only [maxLen] at hm;refine vifd (fun e => ?_) fun e => ?_
 ·rw [show xs.xs.length - i.toNat = (xs.xs.length - (i.toNat + 1)) + 1 by omega] at hk;have hc : (cel xs.xs i.toNat 0).int < lo \/ hi < (cel xs.xs i.toNat 0).int -> K 1 [.i i, .i lo, .i hi] := fun h => by
   have hf : Sq.inr (cel xs.xs i.toNat 0).int lo hi = false := by simp only [Sq.inr, Bool.and_eq_false_iff, decide_eq_false_iff_not]; omega
   have := hk.1 (by simp [Sq.outs, hf]);unfold Sq.outI at this;rw [if_neg (by simp [hf]), Int.toNat_of_nonneg h0] at this;exact this
  refine ned (by simp; omega) (nedd (by omega) (vifd (fun e2 => hc (.inl e2)) fun e2 => vifd (fun e3 => hc (.inr e3)) fun e3 => ar64 (by omega) (hA _ ?_ ?_)))
  ·show ((xs.xs.length : Int) - (i + 1)).toNat < ((xs.xs.length : Int) - i).toNat
   omega
  ·have hf : Sq.inr (cel xs.xs i.toNat 0).int lo hi = true := by simp only [Sq.inr, Bool.and_eq_true, decide_eq_true_eq]; omega
   refine ⟨⟨rfl, by omega, by omega⟩, ?_⟩;rw [show (i + 1).toNat = i.toNat + 1 by omega];simp only [Sq.outs, hf, Bool.not_true, Bool.false_or, Sq.outI, if_true] at hk;exact hk
 ·rw [show xs.xs.length - i.toNat = 0 by omega] at hk;exact hk.2 rfl
noncomputable def Xug : LE Tryz.prog := ⟨98, 3, fun W => @Ysp W Xe3, Xt3⟩
noncomputable def T12q : Tab Tryz.prog := ⟨T0q.pcs, [Xug], []⟩
def Xh3 [W : InW] (lo hi : Int) (xs : Ro [.int .i64]) (Q : DS -> Prop) : Prop :=
 Pre ((↑(xs.xs.length) : Int) = (↑(xs.xs.length) : Int) /\ (0 : Int) <= 0 /\ (0 : Int) <= (↑(xs.xs.length) : Int)) (Vif (Sq.outs lo hi xs.xs (Int.toNat (0 : Int)) (xs.xs.length - Int.toNat (0 : Int))) (Q [[Cl.b (decide ((0 : Int) <= (↑(Sq.outI lo hi xs.xs (Int.toNat (0 : Int)) (xs.xs.length - Int.toNat (0 : Int))) : Int)))]]) (Q [[Cl.b false]]))
theorem Xss (W : InW) (lo hi xs Q) : Yvp (cxT Tryz.prog TT T12q 1000 50) 1000 42 [.si .i64 lo, .si .i64 hi, .rs _ xs] [] 0 (Yzq [(false, [.bool])] Q) (fun _ _ _ _ => Stuck 421) = Xh3 lo hi xs Q := by kernel_rfl
abbrev Xfl : List AT := [.one (.int .i64), .one (.int .i64), .one (.sl [.int .i64])]
theorem Xty {pre : DS -> Prop} {res : DS -> DS} (hyp_ : ∀ (W : InW) (lo hi : Int) (xs : Ro [.int .i64]), pre [[.i lo], [.i hi], [.l xs.xs]] -> ∀ Q : DS -> Prop, Q (res [[.i lo], [.i hi], [.l xs.xs]]) -> Xh3 lo hi xs Q) : PureOk Tryz.prog 42 Xfl [(false, [.bool])] pre res :=
 PureOk.of' (fun W => @TT W) (fun W => @Xb W) Xa T12q 1000 50 fun W lo hi xs hp =>
  (Xss W lo hi xs (fun o => o = res [[.i lo], [.i hi], [.l xs.xs]])).mpr (hyp_ W lo hi xs hp _ rfl)
abbrev Xez (ds : DS) : DS := match ds with | [[.i lo], [.i hi], [.l xs]] => [[.b (Sq.out lo hi xs)]] | _ => []
theorem Xvd : PureOk Tryz.prog 42 Xfl [(false, [.bool])] (fun _ => True) Xez :=
 Xty fun W lo hi xs _ Q h => by
  unfold Xh3;simp only [Xez, Sq.out] at h;rw [show Int.toNat 0 = 0 from rfl, Nat.sub_zero];refine ⟨⟨rfl, by omega, by omega⟩, vif (fun e => ?_) fun e => ?_⟩
  ·rw [e] at h;rw [decide_eq_true (by omega)];exact h
  ·rw [e] at h;exact h
theorem Xmw (lo hi n : Int) : Sq.out lo hi [[Cl.i n]] = !Sq.inr n lo hi := by simp [Sq.out, Sq.outs, cel, Cl.int]
theorem out2q (lo hi n m : Int) : Sq.out lo hi [[Cl.i n], [Cl.i m]] = (!Sq.inr n lo hi || !Sq.inr m lo hi) := by simp [Sq.out, Sq.outs, cel, Cl.int]
theorem out4 (lo hi n m k l : Int) : Sq.out lo hi [[Cl.i n], [Cl.i m], [Cl.i k], [Cl.i l]] = (!Sq.inr n lo hi || (!Sq.inr m lo hi || (!Sq.inr k lo hi || !Sq.inr l lo hi))) := by simp [Sq.out, Sq.outs, cel, Cl.int]
noncomputable def Xcx : PC Tryz.prog := ⟨42, Xfl, [(false, [.bool])], fun _ => True, Xez, Xvd⟩
noncomputable def T1 : Tab Tryz.prog := ⟨[Xgf, Xcx], [], []⟩
def Xfo [W : InW] (s_Lo s_Hi lo hi : Int) (Q : DS -> Prop) : Prop :=
 Pre True (Vif (!Sq.inr s_Lo lo hi) (Q [[Cl.i 7]]) (Pre True (Vif (!Sq.inr s_Hi lo hi) (Q [[Cl.i 7]]) (Vif (decide (s_Hi < s_Lo)) (Q [[Cl.i 2]]) (Q [[Cl.i 0]])))))
theorem Xox (W : InW) (s_Lo s_Hi lo hi Q) : Yvp (cxT Tryz.prog TT T1 1000 50) 1000 13 [.agg [.si .i64 s_Lo, .si .i64 s_Hi], .si .i64 lo, .si .i64 hi] [] 0 (Yzq [(false, [.int .i64])] Q) (fun _ _ _ _ => Stuck 421) = Xfo s_Lo s_Hi lo hi Q := by kernel_rfl
abbrev Xdz : List AT := [.agg [.int .i64, .int .i64], .one (.int .i64), .one (.int .i64)]
theorem Xqb {pre : DS -> Prop} {res : DS -> DS} (hyp_ : ∀ (W : InW) (s_Lo s_Hi lo hi : Int), pre [[.i s_Lo, .i s_Hi], [.i lo], [.i hi]] -> ∀ Q : DS -> Prop, Q (res [[.i s_Lo, .i s_Hi], [.i lo], [.i hi]]) -> Xfo s_Lo s_Hi lo hi Q) : PureOk Tryz.prog 13 Xdz [(false, [.int .i64])] pre res :=
 PureOk.of' (fun W => @TT W) (fun W => @Xb W) Xa T1 1000 50 fun W s_Lo s_Hi lo hi hp =>
  (Xox W s_Lo s_Hi lo hi (fun o => o = res [[.i s_Lo, .i s_Hi], [.i lo], [.i hi]])).mpr (hyp_ W s_Lo s_Hi lo hi hp _ rfl)
def Xod [W : InW] (s_Lo s_Hi lo hi : Int) (Q : DS -> Prop) : Prop :=
 Pre True (Vif (Sq.out lo hi [[Cl.i s_Lo], [Cl.i s_Hi]]) (Q [[Cl.i 7]]) (Vif (decide (s_Hi < s_Lo)) (Q [[Cl.i 2]]) (Q [[Cl.i 0]])))
theorem Xu0 (W : InW) (s_Lo s_Hi lo hi Q) : Yvp (cxT Tryz.prog TT T1 1000 50) 1000 97 [.agg [.si .i64 s_Lo, .si .i64 s_Hi], .si .i64 lo, .si .i64 hi] [] 0 (Yzq [(false, [.int .i64])] Q) (fun _ _ _ _ => Stuck 421) = Xod s_Lo s_Hi lo hi Q := by kernel_rfl
abbrev Xhz : List AT := [.agg [.int .i64, .int .i64], .one (.int .i64), .one (.int .i64)]
theorem Xvm {pre : DS -> Prop} {res : DS -> DS} (hyp_ : ∀ (W : InW) (s_Lo s_Hi lo hi : Int), pre [[.i s_Lo, .i s_Hi], [.i lo], [.i hi]] -> ∀ Q : DS -> Prop, Q (res [[.i s_Lo, .i s_Hi], [.i lo], [.i hi]]) -> Xod s_Lo s_Hi lo hi Q) : PureOk Tryz.prog 97 Xhz [(false, [.int .i64])] pre res :=
 PureOk.of' (fun W => @TT W) (fun W => @Xb W) Xa T1 1000 50 fun W s_Lo s_Hi lo hi hp =>
  (Xu0 W s_Lo s_Hi lo hi (fun o => o = res [[.i s_Lo, .i s_Hi], [.i lo], [.i hi]])).mpr (hyp_ W s_Lo s_Hi lo hi hp _ rfl)
abbrev Xcc (ds : DS) : DS := match ds with | [[.i a, .i b], [.i lo], [.i hi]] => [[.i (Sq.spanE a b lo hi)]] | _ => []
theorem Xsy : PureOk Tryz.prog 13 Xdz [(false, [.int .i64])] (fun _ => True) Xcc :=
 Xqb fun W a b lo hi _ Q h => by
  unfold Xfo;simp only [Xcc, Sq.spanE] at h;refine ⟨trivial, vif (fun e => ?_) fun e => ⟨trivial, vif (fun e2 => ?_) fun e2 => vif (fun e3 => ?_) fun e3 => ?_⟩⟩
  all_goals ((repeat' split at h) <;> first | exact h | omega | (simp_all; done) | (simp_all; omega))
theorem okodd : PureOk Tryz.prog 97 Xhz [(false, [.int .i64])] (fun _ => True) Xcc :=
 Xvm fun W a b lo hi _ Q h => by
  unfold Xod;simp only [Xcc, Sq.spanE] at h;simp only [out2q];refine ⟨trivial, vif (fun e => ?_) fun e => vif (fun e2 => ?_) fun e2 => ?_⟩
  all_goals ((repeat' split at h) <;> first | exact h | omega | (simp_all; done) | (simp_all; omega))
noncomputable def Xjr : PC Tryz.prog := ⟨13, Xdz, [(false, [.int .i64])], fun _ => True, Xcc, Xsy⟩
noncomputable def Xrh : PC Tryz.prog := ⟨97, Xhz, [(false, [.int .i64])], fun _ => True, Xcc, okodd⟩
def Xoe [W : InW] (n : Int) (Q : DS -> Prop) : Prop :=
 Q [[Cl.i (max (0 : Int) (min n (1000 : Int)))]]
theorem Xu1 (W : InW) (n Q) : Yvp (cxT Tryz.prog TT T1 1000 50) 1000 49 [.si .i64 n] [] 0 (Yzq [(false, [.int .i64])] Q) (fun _ _ _ _ => Stuck 421) = Xoe n Q := by kernel_rfl
abbrev Xh0 : List AT := [.one (.int .i64)]
theorem Xvn {pre : DS -> Prop} {res : DS -> DS} (hyp_ : ∀ (W : InW) (n : Int), pre [[.i n]] -> ∀ Q : DS -> Prop, Q (res [[.i n]]) -> Xoe n Q) : PureOk Tryz.prog 49 Xh0 [(false, [.int .i64])] pre res :=
 PureOk.of' (fun W => @TT W) (fun W => @Xb W) Xa T1 1000 50 fun W n hp =>
  (Xu1 W n (fun o => o = res [[.i n]])).mpr (hyp_ W n hp _ rfl)
abbrev Xhj (ds : DS) : DS := match ds with | [[.i n]] => [[.i (Sq.lev n)]] | _ => []
theorem oklev : PureOk Tryz.prog 49 Xh0 [(false, [.int .i64])] (fun _ => True) Xhj :=
 Xvn fun W n _ Q h => by
  unfold Xoe;have e : max 0 (min n 1000) = Sq.lev n := by unfold Sq.lev; omega
  simpa [Xhj, e] using h
noncomputable def Xri : PC Tryz.prog := ⟨49, Xh0, [(false, [.int .i64])], fun _ => True, Xhj, oklev⟩
noncomputable def T2 : Tab Tryz.prog := ⟨[Xgf, Xcx, Xri], [], []⟩
abbrev Xeg (ds : DS) : Prop := match ds with | [[.i a, .i b], [.i n]] => Sq.Small a /\ Sq.Small b /\ Sq.Small n | _ => False
def Xd4 [W : InW] (s_Lo s_Hi n : Int) (Q : DS -> Prop) : Prop :=
 Ar .i64 (n - s_Hi) fun z => Ar .i64 (n - s_Lo) fun z_1 => Vif (decide (n = 0)) (Vif (decide (n = 1000)) (Q [[Cl.i 0, Cl.i 1000]]) (Q [[Cl.i 0, Cl.i (min (1000 : Int) z_1)]])) (Vif (decide (n = 1000)) (Q [[Cl.i (max (0 : Int) z), Cl.i 1000]]) (Q [[Cl.i (max (0 : Int) z), Cl.i (min (1000 : Int) z_1)]]))
theorem Xmb (W : InW) (s_Lo s_Hi n Q) : Yvp (cxT Tryz.prog TT T2 1000 50) 1000 50 [.agg [.si .i64 s_Lo, .si .i64 s_Hi], .si .i64 n] [] 0 (Yzq [(true, [.int .i64, .int .i64])] Q) (fun _ _ _ _ => Stuck 421) = Xd4 s_Lo s_Hi n Q := by kernel_rfl
abbrev Xc0 : List AT := [.agg [.int .i64, .int .i64], .one (.int .i64)]
theorem Xni {pre : DS -> Prop} {res : DS -> DS} (hyp_ : ∀ (W : InW) (s_Lo s_Hi n : Int), pre [[.i s_Lo, .i s_Hi], [.i n]] -> ∀ Q : DS -> Prop, Q (res [[.i s_Lo, .i s_Hi], [.i n]]) -> Xd4 s_Lo s_Hi n Q) : PureOk Tryz.prog 50 Xc0 [(true, [.int .i64, .int .i64])] pre res :=
 PureOk.of' (fun W => @TT W) (fun W => @Xb W) Xa T2 1000 50 fun W s_Lo s_Hi n hp =>
  (Xmb W s_Lo s_Hi n (fun o => o = res [[.i s_Lo, .i s_Hi], [.i n]])).mpr (hyp_ W s_Lo s_Hi n hp _ rfl)
abbrev Xcv (ds : DS) : DS := match ds with | [[.i a, .i b], [.i n]] => [[.i (Sq.bhLo b n), .i (Sq.bhHi a n)]] | _ => []
theorem Xp9 : PureOk Tryz.prog 50 Xc0 [(true, [.int .i64, .int .i64])] Xeg Xcv :=
 Xni fun W a b n hp Q h => by
  obtain ⟨h1, h2, h3⟩ := hp;simp only [Sq.Small] at h1 h2 h3;unfold Xd4;simp only [Xcv, Sq.bhLo, Sq.bhHi] at h;refine ar64 (by omega) (ar64 (by omega) (vifd (fun e => vifd (fun e2 => ?_) fun e2 => ?_) fun e => vifd (fun e2 => ?_) fun e2 => ?_))
  all_goals ((repeat' split at h) <;> first | exact h | omega | (simp_all; done) | (simp_all; omega))
noncomputable def Xms : PC Tryz.prog := ⟨50, Xc0, [(true, [.int .i64, .int .i64])], Xeg, Xcv, Xp9⟩
set_option maxHeartbeats 1600000
abbrev Xbv : List Ty := [.str, .int .i64, .int .i64, .int .i64, .int .i64]
abbrev Xbw : List Ty := [.str, .int .i64, .int .i64]
namespace Sq
def nm (xs : Dt) (i : Nat) : ByteArray := (cel xs i 0).str
def dup (xs : Dt) (name : ByteArray) : Nat -> Nat -> Bool
 | _, 0 => false
 | k, n + 1 => eqS (nm xs k) name || dup xs name (k + 1) n
def dupI (xs : Dt) (name : ByteArray) : Nat -> Nat -> Nat
 | k, 0 => k
 | k, n + 1 => if eqS (nm xs k) name = true then k else dupI xs name (k + 1) n
def NamesOk (xs : Dt) : Prop := ∀ i : Nat, (nm xs i).size <= 9223372036854775807
def nameErr (xs : Dt) (i : Nat) : Int := if Bk.nameOk (nm xs i) then (if dup xs (nm xs i) 0 i then 5 else 0) else 6
def gLo (sk : Dt) (i : Nat) : Int := (cel sk i 1).int
def gHi (sk : Dt) (i : Nat) : Int := (cel sk i 2).int
def fLo (sk : Dt) (i : Nat) : Int := (cel sk i 3).int
def fHi (sk : Dt) (i : Nat) : Int := (cel sk i 4).int
def bLo (is : Dt) (i : Nat) : Int := (cel is i 1).int
def bHi (is : Dt) (i : Nat) : Int := (cel is i 2).int
def skErr (sk : Dt) (i : Nat) : Int :=
 if nameErr sk i = 0 then
  (if inr (gLo sk i) 0 1000 && (inr (gHi sk i) 0 1000 && (inr (fLo sk i) 0 1000 && inr (fHi sk i) 0 1000)) then (if gHi sk i < gLo sk i \/ fHi sk i < fLo sk i then 2 else 0) else 7)
 else nameErr sk i
def inErr (is : Dt) (i : Nat) : Int := if nameErr is i = 0 then spanE (bLo is i) (bHi is i) (-300) 300 else nameErr is i
def hasE (f : Nat -> Int) : Nat -> Nat -> Bool
 | _, 0 => false
 | i, n + 1 => !decide (f i = 0) || hasE f (i + 1) n
def idxE (f : Nat -> Int) : Nat -> Nat -> Nat
 | i, 0 => i
 | i, n + 1 => if f i = 0 then idxE f (i + 1) n else i
def check (sk is : Dt) : Int × Int × Int :=
 if !(inr sk.length 1 5) || decide (6 < (is.length : Int)) then (1, 0, 3)
 else if hasE (skErr sk) 0 sk.length then (2, idxE (skErr sk) 0 sk.length, skErr sk (idxE (skErr sk) 0 sk.length))
 else if hasE (inErr is) 0 is.length then (3, idxE (inErr is) 0 is.length, inErr is (idxE (inErr is) 0 is.length))
 else (0, 0, 0)
def chkP (sk is : Dt) : Int := (check sk is).1
def chkI (sk is : Dt) : Int := (check sk is).2.1
def chkE (sk is : Dt) : Int := (check sk is).2.2
def names (xs : Dt) (i : Nat) : Dt := (xs.take i).map fun r => [.s (r.getD 0 .z).str]
end Sq
theorem Xi2 [InW] {f : Nat -> Int} {i n : Nat} {K1 : Nat -> Int -> Prop} {K0 : Prop} (h : Vif (Sq.hasE f i (n + 1)) (K1 (Sq.idxE f i (n + 1)) (f (Sq.idxE f i (n + 1)))) K0) :
  (f i ≠ 0 -> K1 i (f i)) /\ (f i = 0 -> Vif (Sq.hasE f (i + 1) n) (K1 (Sq.idxE f (i + 1) n) (f (Sq.idxE f (i + 1) n))) K0) := by
 simp only [Sq.hasE, Sq.idxE] at h;refine ⟨fun e => ?_, fun e => ?_⟩
 ·have := h.1 (by simp [e]);simpa [e] using this
 ·simpa [e] using h
theorem Xn3 {xs : Dt} {i k m : Nat} (h : i < m) : cel (xs.take m) i k = cel xs i k := by
 simp [cel, List.getElem?_take, h]
theorem Xdq {xs : Dt} {name : ByteArray} {m : Nat} : ∀ (n k : Nat), k + n <= m -> Sq.dup (xs.take m) name k n = Sq.dup xs name k n
 | 0, _, _ => rfl
 | n + 1, k, h => by
  have h1 := @Xdq xs name m n (k + 1) (by omega);simp only [Sq.dup, Sq.nm, Xn3 (show k < m by omega), h1]
theorem Xdm {xs : Dt} {i : Nat} (h : i <= xs.length) : (Sq.names xs i).length = i := by simp [Sq.names]; omega
theorem Xek {xs : Dt} {i : Nat} (h : i < xs.length) : Sq.names xs i ++ [[.s (Sq.nm xs i)]] = Sq.names xs (i + 1) := by
 unfold Sq.names;rw [List.take_succ_eq_append_getElem h, List.map_append];simp only [List.map_cons, List.map_nil, Sq.nm, cel, List.getD_eq_getElem?_getD, List.getElem?_eq_getElem h, Option.getD_some]
theorem Xqy {xs : Dt} {i k : Nat} (h : k < i) (hi : i <= xs.length) : Sq.nm (Sq.names xs i) k = Sq.nm xs k := by
 have hk : k < xs.length := by omega
 simp [Sq.nm, Sq.names, cel, List.getElem?_take, h, List.getElem?_eq_getElem hk, Cl.str]
theorem Xgw {xs : Dt} {name : ByteArray} {m : Nat} (hm : m <= xs.length) : ∀ (n k : Nat), k + n <= m -> Sq.dup (Sq.names xs m) name k n = Sq.dup xs name k n
 | 0, _, _ => rfl
 | n + 1, k, h => by
  have h1 := @Xgw xs name m hm n (k + 1) (by omega);simp only [Sq.dup, Xqy (show k < m by omega) hm, h1]
noncomputable def T3q : Tab Tryz.prog := ⟨[Xgf, Xcx, Xjr, Xrh, Xdd, Xjs], [], []⟩
def Xi6 [InW] (e : List Ed) (K : Nat -> List Ed -> Prop) : Prop := match e with
 | [.s name, .ro _ xs, .i k] => Pre (0 <= k /\ k <= xs.xs.length) (Vif (Sq.dup xs.xs name k.toNat (xs.xs.length - k.toNat)) (K 1 []) (K 0 []))
 | _ => False
noncomputable def Xkf : LC where
 len := 21
 T := [(0, .str), (1, .rs Jd), (5, .int .i64)]
 H := []
 W := ([4] ++ rgg 9 12)
 outs := [⟨.exit 0, [], [], ([0, 1, 4, 5] ++ rgg 9 12)⟩, ⟨.ret, [(4, (.lit (.int .i64 5)))], [], ([0, 1, 5] ++ rgg 9 12)⟩]
 spec := Xi6
def Xh8 [W : InW] (name : ByteArray) (xs : Ro Jd) (k : Int) (A : List Ed -> Prop) (K : Nat -> List Ed -> Prop) : Prop :=
 Vif (decide (k < (↑(xs.xs.length) : Int))) (Need (decide (0 <= k) && decide (k < (↑(xs.xs.length) : Int))) (Need (decide (k.toNat < xs.xs.length)) (Vif (eqS (cel xs.xs k.toNat (0 : Nat)).str name) (K (0+1) []) (Ar .i64 (k + 1) fun z => A [.s name, .ro _ xs, .i z])))) (K 0 [])
theorem Xry (W : InW) (name xs k A K) : Ye9 { cxT Tryz.prog TT T3q 1000 50 with fn := 12 } 1000 (Ynh Tryz.prog 12 5) (Ydy 21 [(0, .ss name), (1, .rs _ xs), (5, .si .i64 k)] ([4] ++ rgg 9 12)) [] (Yth Xkf A K) = Xh8 name xs k A K := by kernel_rfl
def Xjv : Prop := ∀ (W : InW) (body a : Code), (Tryz.prog.funcs[12]?).bind (·.body) = some body -> a ∈ Yw body -> Yfu a = 5 -> @Yma W Tryz.prog a (@Ysp W Xkf)
theorem Xs3 (meas : [InW] -> List Ed -> Nat) (hyp_ : ∀ (W : InW) name xs k K, Xi6 [.s name, .ro _ xs, .i k] K -> ∀ A : List Ed -> Prop, (∀ e, meas e < meas [.s name, .ro _ xs, .i k] -> Xi6 e K -> A e) -> Xh8 name xs k A K) : Xjv :=
 LE.okOf' (fun W => @TT W) (fun W => @Xb W) Xa T3q 1000 50 (by kernel_rfl) Xkf (fun W => @meas W) fun W name xs k K hs =>
  (Xry W name xs k (fun e => meas e < meas [.s name, .ro _ xs, .i k] /\ Xi6 e K) K).mpr (hyp_ W name xs k K hs _ fun e h1 h2 => ⟨h1, h2⟩)
theorem Xvu : Xjv := Xs3 (fun e => match e with | [_, .ro _ xs, .i k] => (xs.xs.length - k).toNat | _ => 0) fun W name xs k K hs A hA => by
 obtain ⟨⟨h0, h1⟩, hk⟩ := hs;unfold Xh8;have hm := xs.len;simp only [maxLen] at hm;refine vifd (fun e => ned (by simp; omega) (nedd (by omega) (vif (fun e2 => ?_) fun e2 => ar64 (by omega) (hA _ ?_ ?_)))) fun e => ?_
 ·refine hk.1 ?_;rw [show xs.xs.length - k.toNat = (xs.xs.length - (k.toNat + 1)) + 1 by omega];simp only [Sq.dup, Sq.nm, e2, Bool.true_or]
 ·show (xs.xs.length - (k + 1)).toNat < (xs.xs.length - k).toNat
  omega
 ·refine ⟨⟨by omega, by omega⟩, ?_⟩;rw [show xs.xs.length - k.toNat = (xs.xs.length - (k.toNat + 1)) + 1 by omega] at hk;simp only [Sq.dup, Sq.nm, e2, Bool.false_or] at hk;rw [show (k + 1).toNat = k.toNat + 1 by omega];exact hk
 ·refine hk.2 ?_;rw [show xs.xs.length - k.toNat = 0 by omega];rfl
noncomputable def Xwi : LE Tryz.prog := ⟨12, 5, fun W => @Ysp W Xkf, Xvu⟩
noncomputable def T4q : Tab Tryz.prog := ⟨T3q.pcs, [Xwi], []⟩
def Xfp [W : InW] (s : ByteArray) (xs : Ro Jd) (Q : DS -> Prop) : Prop :=
 Pre (s.size <= 9223372036854775807) (Vif (!Bk.nameOk s) (Q [[Cl.i 6]]) (Pre ((0 : Int) <= 0 /\ (0 : Int) <= (↑(xs.xs.length) : Int)) (Vif (Sq.dup xs.xs s (Int.toNat (0 : Int)) (xs.xs.length - Int.toNat (0 : Int))) (Q [[Cl.i 5]]) (Q [[Cl.i 0]]))))
theorem Xoy (W : InW) (s xs Q) : Yvp (cxT Tryz.prog TT T4q 1000 50) 1000 12 [.ss s, .rs _ xs] [] 0 (Yzq [(false, [.int .i64])] Q) (fun _ _ _ _ => Stuck 421) = Xfp s xs Q := by kernel_rfl
abbrev Xd0 : List AT := [.one (.str), .one (.sl Jd)]
theorem Xqc {pre : DS -> Prop} {res : DS -> DS} (hyp_ : ∀ (W : InW) (s : ByteArray) (xs : Ro Jd), pre [[.s s], [.l xs.xs]] -> ∀ Q : DS -> Prop, Q (res [[.s s], [.l xs.xs]]) -> Xfp s xs Q) : PureOk Tryz.prog 12 Xd0 [(false, [.int .i64])] pre res :=
 PureOk.of' (fun W => @TT W) (fun W => @Xb W) Xa T4q 1000 50 fun W s xs hp =>
  (Xoy W s xs (fun o => o = res [[.s s], [.l xs.xs]])).mpr (hyp_ W s xs hp _ rfl)
namespace Sq
def namedE (s : ByteArray) (xs : Dt) : Int := if Bk.nameOk s then (if dup xs s 0 xs.length then 5 else 0) else 6
end Sq
abbrev Xdi (ds : DS) : DS := match ds with | [[.s s], [.l xs]] => [[.i (Sq.namedE s xs)]] | _ => []
abbrev Xgc (ds : DS) : Prop := match ds with | [[.s s], _] => s.size <= 9223372036854775807 | _ => False
theorem Xs0 : PureOk Tryz.prog 12 Xd0 [(false, [.int .i64])] Xgc Xdi :=
 Xqc fun W s xs hp Q h => by
  unfold Xfp;simp only [Xdi, Sq.namedE] at h;refine ⟨hp, vif (fun e => ?_) fun e => ⟨by omega, ?_⟩⟩
  ·simp_all
  rw [show Int.toNat 0 = 0 from rfl, Nat.sub_zero];refine vif (fun e2 => ?_) fun e2 => ?_ <;> simp_all
noncomputable def Xpm : PC Tryz.prog := ⟨12, Xd0, [(false, [.int .i64])], Xgc, Xdi, Xs0⟩
noncomputable def T5q : Tab Tryz.prog := ⟨Xpm :: T3q.pcs, [], []⟩
def Xi8 [InW] (e : List Ed) (K : Nat -> List Ed -> Prop) : Prop := match e with
 | [.i i, .ro _ sk, .ro _ is, .l ns] => Pre (0 <= i /\ i <= sk.xs.length /\ sk.xs.length <= 5 /\ Sq.NamesOk sk.xs /\ ns = Sq.names sk.xs i.toNat) (Vif (Sq.hasE (Sq.skErr sk.xs) i.toNat (sk.xs.length - i.toNat))
   (K 1 [.i (Sq.idxE (Sq.skErr sk.xs) i.toNat (sk.xs.length - i.toNat)), .i (Sq.skErr sk.xs (Sq.idxE (Sq.skErr sk.xs) i.toNat (sk.xs.length - i.toNat)))]) (K 0 [.ro _ sk, .ro _ is]))
 | _ => False
noncomputable def Xkh : LC where
 len := 106
 T := [(1, (.ptr 1 0)), (5, (.row 6)), (6, .int .i64)]
 H := [(1, .blk 25 [.rs Xbv, .rs Xbw]), (6, .arr 9 Jd)]
 W := ([2, 3, 4] ++ rgg 7 4 ++ rgg 25 51)
 outs := [⟨.exit 0, [(1, (.ptr 1 0))], [(1, .blk 25 [.rs Xbv, .rs Xbw])], (rgg 2 9 ++ rgg 25 51)⟩, ⟨.ret, [(2, (.lit (.int .i64 2))), (3, .int .i64), (4, .int .i64)], [], ([1] ++ rgg 5 6 ++ rgg 25 51)⟩]
 spec := Xi8
def Zb [W : InW] (i : Int) (sk : Ro Xbv) := cel sk.xs i.toNat (0 : Nat)
def Za [W : InW] (i : Int) (sk : Ro Xbv) (is : Ro Xbw) (ns : Dt) (A : List Ed -> Prop) (K : Nat -> List Ed -> Prop) := Vif (decide (Sq.namedE (Zb i sk).str ns = 0)) (Vif (!decide (Sq.spanE (cel sk.xs i.toNat (0+1)).int (cel sk.xs i.toNat ((0 : Nat) + 1 + 1)).int (0 : Int) (1000 : Int) = 0)) (K (0+1) [.i i, .i (2 : Int)]) (Vif (!decide (Sq.spanE (cel sk.xs i.toNat ((0 : Nat) + 1 + 1 + 1)).int (cel sk.xs i.toNat ((0 : Nat) + 1 + 1 + 1 + 1)).int (0 : Int) (1000 : Int) = 0)) (K (0+1) [.i i, .i (2 : Int)]) (Vif (!decide (Sq.namedE (Zb i sk).str ns = 0)) (K (0+1) [.i i, .i (Sq.namedE (Zb i sk).str ns)]) (Ar .i64 (i + 1) fun z => A [.i z, .ro _ sk, .ro _ is, .l (ns ++ [[Cl.s (Zb i sk).str]])])))) (Vif (!decide (Sq.namedE (Zb i sk).str ns = 0)) (K (0+1) [.i i, .i (Sq.namedE (Zb i sk).str ns)]) (Ar .i64 (i + 1) fun z => A [.i z, .ro _ sk, .ro _ is, .l (ns ++ [[Cl.s (Zb i sk).str]])]))
def Xia [W : InW] (i : Int) (sk : Ro Xbv) (is : Ro Xbw) (ns : Dt) (A : List Ed -> Prop) (K : Nat -> List Ed -> Prop) : Prop :=
 Vif (decide (i < (↑(sk.xs.length) : Int))) (Need (decide (0 <= i) && decide (i < (↑(sk.xs.length) : Int))) (Need (decide (i.toNat < sk.xs.length)) (Pre ((Zb i sk).str.size <= 9223372036854775807) (Need (decide ((ns.length + [[Cl.s (Zb i sk).str]].length) * 16 <= 140737488355328)) (Pre True (Pre True (Vif (decide (Sq.namedE (Zb i sk).str ns = 0)) (Vif (decide (Sq.spanE (cel sk.xs i.toNat (0+1)).int (cel sk.xs i.toNat ((0 : Nat) + 1 + 1)).int (0 : Int) (1000 : Int) = 7)) (K (0+1) [.i i, .i (7 : Int)]) (Vif (decide (Sq.spanE (cel sk.xs i.toNat ((0 : Nat) + 1 + 1 + 1)).int (cel sk.xs i.toNat ((0 : Nat) + 1 + 1 + 1 + 1)).int (0 : Int) (1000 : Int) = 7)) (K (0+1) [.i i, .i (7 : Int)]) (Za i sk is ns A K))) (Za i sk is ns A K)))))))) (K 0 [.ro _ sk, .ro _ is])
theorem Xr0 (W : InW) (i sk is ns A K) : Ye9 { cxT Tryz.prog TT T5q 1000 50 with fn := 5 } 1000 (Ynh Tryz.prog 5 6) (Ydy 106 [(1, .ptr 1 0), (5, .rw 6), (6, .si .i64 i)] ([2, 3, 4] ++ rgg 7 4 ++ rgg 25 51)) [(1, .blk 25 [.rs _ sk, .rs _ is]), (6, .arr 9 Jd ns)] (Yth Xkh A K) = Xia i sk is ns A K := by kernel_rfl
def Xjx : Prop := ∀ (W : InW) (body a : Code), (Tryz.prog.funcs[5]?).bind (·.body) = some body -> a ∈ Yw body -> Yfu a = 6 -> @Yma W Tryz.prog a (@Ysp W Xkh)
theorem Xs5 (meas : [InW] -> List Ed -> Nat) (hyp_ : ∀ (W : InW) i sk is ns K, Xi8 [.i i, .ro _ sk, .ro _ is, .l ns] K -> ∀ A : List Ed -> Prop, (∀ e, meas e < meas [.i i, .ro _ sk, .ro _ is, .l ns] -> Xi8 e K -> A e) -> Xia i sk is ns A K) : Xjx :=
 LE.okOf' (fun W => @TT W) (fun W => @Xb W) Xa T5q 1000 50 (by kernel_rfl) Xkh (fun W => @meas W) fun W i sk is ns K hs =>
  (Xr0 W i sk is ns (fun e => meas e < meas [.i i, .ro _ sk, .ro _ is, .l ns] /\ Xi8 e K) K).mpr (hyp_ W i sk is ns K hs _ fun e h1 h2 => ⟨h1, h2⟩)
theorem Xel {xs : Dt} {i : Nat} (hi : i < xs.length) : Sq.namedE (Sq.nm xs i) (Sq.names xs i) = Sq.nameErr xs i := by
 unfold Sq.namedE Sq.nameErr;rw [Xdm (by omega), Xgw (by omega) _ _ (by omega)]
theorem Xll (sk : Dt) (i : Nat) : Sq.skErr sk i = if Sq.nameErr sk i = 0 then (if Sq.spanE (cel sk i 1).int (cel sk i 2).int 0 1000 = 7 \/ Sq.spanE (cel sk i 3).int (cel sk i 4).int 0 1000 = 7 then 7 else if Sq.spanE (cel sk i 1).int (cel sk i 2).int 0 1000 ≠ 0 \/ Sq.spanE (cel sk i 3).int (cel sk i 4).int 0 1000 ≠ 0 then 2 else 0) else Sq.nameErr sk i := by
 unfold Sq.skErr Sq.gLo Sq.gHi Sq.fLo Sq.fHi
 by_cases hn : Sq.nameErr sk i = 0
 ·rw [if_pos hn, if_pos hn];unfold Sq.spanE;generalize Sq.inr (cel sk i 1).int 0 1000 = a;generalize Sq.inr (cel sk i 2).int 0 1000 = b;generalize Sq.inr (cel sk i 3).int 0 1000 = c;generalize Sq.inr (cel sk i 4).int 0 1000 = d;cases a <;> cases b <;> cases c <;> cases d <;> simp only [Bool.and_true, Bool.and_false, Bool.false_and, Bool.true_and, if_true, if_false, Bool.false_eq_true, true_or, or_true] <;> (repeat' split) <;> first | rfl | omega
 ·rw [if_neg hn, if_neg hn]
theorem Xvw : Xjx := Xs5 (fun e => match e with | .i i :: .ro _ sk :: _ => (sk.xs.length - i).toNat | _ => 0) fun W i sk is ns K hs A hA => by
 obtain ⟨⟨h0, h1, h5, hn, rfl⟩, hk⟩ := hs;unfold Xia;delta Za Zb;refine vifd (fun e => ?_) fun e => ?_
 ·rw [show sk.xs.length - i.toNat = (sk.xs.length - (i.toNat + 1)) + 1 by omega] at hk;obtain ⟨g1, g2⟩ := Xi2 (K1 := fun j e => K 1 [.i j, .i e]) hk;rw [Int.toNat_of_nonneg h0] at g1;have ez : (i + 1).toNat = i.toNat + 1 := by omega
  have hE := Xel (xs := sk.xs) (i := i.toNat) (by omega);have hA' : Sq.skErr sk.xs i.toNat = 0 -> A [.i (i + 1), .ro _ sk, .ro _ is, .l (Sq.names sk.xs i.toNat ++ [[.s (Sq.nm sk.xs i.toNat)]])] := fun f => hA _ (by show ((sk.xs.length : Int) - (i + 1)).toNat < ((sk.xs.length : Int) - i).toNat; omega) ⟨⟨by omega, by omega, h5, hn, by rw [ez]; exact Xek (by omega)⟩, by rw [ez]; exact g2 f⟩;have bad : ∀ n, Sq.skErr sk.xs i.toNat = n -> n ≠ 0 -> K 1 [.i i, .i n] := fun n hn h => by rw [<- hn]; exact g1 (by rw [hn]; exact h)
  have hs := hn i.toNat;have eS := Lib.hid (Xll sk.xs i.toNat);have hlen := Xdm (xs := sk.xs) (i := i.toNat) (by omega);clear g1 g2 hk hA hn;simp only [Nat.zero_add, Nat.reduceAdd, List.length_cons, List.length_nil, hlen];simp only [show (cel sk.xs i.toNat 0).str = Sq.nm sk.xs i.toNat from rfl, hE];generalize Sq.spanE (cel sk.xs i.toNat 1).int (cel sk.xs i.toNat 2).int 0 1000 = S at *;generalize Sq.spanE (cel sk.xs i.toNat 3).int (cel sk.xs i.toNat 4).int 0 1000 = T at *;generalize Sq.nameErr sk.xs i.toNat = E at *;generalize Sq.skErr sk.xs i.toNat = F at *
  repeat' (first | omega|intro _|with_reducible first|apply vifd|apply vifn|apply vifq|apply vifq0|apply vifq1|apply vifb|apply vif|apply nedd|apply ned2|apply ned|apply ar64|apply X2|exact True.intro|assumption|rfl|apply And.intro)
  all_goals first | exact bad _ (by rw [eS.out]; (repeat' split) <;> omega) (by omega) | exact hA' (by rw [eS.out]; (repeat' split) <;> omega)
 ·rw [show sk.xs.length - i.toNat = 0 by omega] at hk;exact hk.2 rfl
noncomputable def Xwk : LE Tryz.prog := ⟨5, 6, fun W => @Ysp W Xkh, Xvw⟩
def Xi9 [InW] (e : List Ed) (K : Nat -> List Ed -> Prop) : Prop := match e with
 | [.i i, .ro _ sk, .ro _ is, .l ns] => Pre (0 <= i /\ i <= is.xs.length /\ is.xs.length <= 6 /\ Sq.NamesOk is.xs /\ ns = Sq.names is.xs i.toNat) (Vif (Sq.hasE (Sq.inErr is.xs) i.toNat (is.xs.length - i.toNat))
   (K 1 [.i (Sq.idxE (Sq.inErr is.xs) i.toNat (is.xs.length - i.toNat)), .i (Sq.inErr is.xs (Sq.idxE (Sq.inErr is.xs) i.toNat (is.xs.length - i.toNat)))]) (K 0 []))
 | _ => False
noncomputable def Xki : LC where
 len := 106
 T := [(1, (.ptr 1 0)), (5, (.row 6)), (11, .int .i64)]
 H := [(1, .blk 25 [.rs Xbv, .rs Xbw]), (6, .arr 9 Jd)]
 W := ([2, 3, 4, 12, 13] ++ rgg 76 30)
 outs := [⟨.exit 2, [], [], (rgg 1 5 ++ [11, 12, 13] ++ rgg 76 30)⟩, ⟨.ret, [(2, (.lit (.int .i64 3))), (3, .int .i64), (4, .int .i64)], [], ([1, 5, 11, 12, 13] ++ rgg 76 30)⟩]
 spec := Xi9
def Zc [W : InW] (i : Int) (is : Ro Xbw) := cel is.xs i.toNat (0 : Nat)
def Xib [W : InW] (i : Int) (sk : Ro Xbv) (is : Ro Xbw) (ns : Dt) (A : List Ed -> Prop) (K : Nat -> List Ed -> Prop) : Prop :=
 Vif (decide (i < (↑(is.xs.length) : Int))) (Need (decide (0 <= i) && decide (i < (↑(is.xs.length) : Int))) (Need (decide (i.toNat < is.xs.length)) (Pre ((Zc i is).str.size <= 9223372036854775807) (Need (decide ((ns.length + [[Cl.s (Zc i is).str]].length) * 16 <= 140737488355328)) (Vif (decide (Sq.namedE (Zc i is).str ns = 0)) (Pre True (Vif (!decide (Sq.spanE (cel is.xs i.toNat (0+1)).int (cel is.xs i.toNat ((0 : Nat) + 1 + 1)).int (-300 : Int) (300 : Int) = 0)) (K (0+1) [.i i, .i (Sq.spanE (cel is.xs i.toNat (0+1)).int (cel is.xs i.toNat ((0 : Nat) + 1 + 1)).int (-300 : Int) (300 : Int))]) (Ar .i64 (i + 1) fun z => A [.i z, .ro _ sk, .ro _ is, .l (ns ++ [[Cl.s (Zc i is).str]])]))) (Vif (!decide (Sq.namedE (Zc i is).str ns = 0)) (K (0+1) [.i i, .i (Sq.namedE (Zc i is).str ns)]) (Ar .i64 (i + 1) fun z => A [.i z, .ro _ sk, .ro _ is, .l (ns ++ [[Cl.s (Zc i is).str]])]))))))) (K 0 [])
theorem Xr1 (W : InW) (i sk is ns A K) : Ye9 { cxT Tryz.prog TT T5q 1000 50 with fn := 5 } 1000 (Ynh Tryz.prog 5 20) (Ydy 106 [(1, .ptr 1 0), (5, .rw 6), (11, .si .i64 i)] ([2, 3, 4, 12, 13] ++ rgg 76 30)) [(1, .blk 25 [.rs _ sk, .rs _ is]), (6, .arr 9 Jd ns)] (Yth Xki A K) = Xib i sk is ns A K := by kernel_rfl
def Xjy : Prop := ∀ (W : InW) (body a : Code), (Tryz.prog.funcs[5]?).bind (·.body) = some body -> a ∈ Yw body -> Yfu a = 20 -> @Yma W Tryz.prog a (@Ysp W Xki)
theorem Xs6 (meas : [InW] -> List Ed -> Nat) (hyp_ : ∀ (W : InW) i sk is ns K, Xi9 [.i i, .ro _ sk, .ro _ is, .l ns] K -> ∀ A : List Ed -> Prop, (∀ e, meas e < meas [.i i, .ro _ sk, .ro _ is, .l ns] -> Xi9 e K -> A e) -> Xib i sk is ns A K) : Xjy :=
 LE.okOf' (fun W => @TT W) (fun W => @Xb W) Xa T5q 1000 50 (by kernel_rfl) Xki (fun W => @meas W) fun W i sk is ns K hs =>
  (Xr1 W i sk is ns (fun e => meas e < meas [.i i, .ro _ sk, .ro _ is, .l ns] /\ Xi9 e K) K).mpr (hyp_ W i sk is ns K hs _ fun e h1 h2 => ⟨h1, h2⟩)
theorem Xvx : Xjy := Xs6 (fun e => match e with | .i i :: _ :: .ro _ is :: _ => (is.xs.length - i).toNat | _ => 0) fun W i sk is ns K hs A hA => by
 obtain ⟨⟨h0, h1, h5, hn, rfl⟩, hk⟩ := hs;unfold Xib;delta Zc;refine vifd (fun e => ?_) fun e => ?_
 ·rw [show is.xs.length - i.toNat = (is.xs.length - (i.toNat + 1)) + 1 by omega] at hk;obtain ⟨g1, g2⟩ := Xi2 (K1 := fun j e => K 1 [.i j, .i e]) hk;rw [Int.toNat_of_nonneg h0] at g1;have ez : (i + 1).toNat = i.toNat + 1 := by omega
  have hE := Xel (xs := is.xs) (i := i.toNat) (by omega);have hA' : Sq.inErr is.xs i.toNat = 0 -> A [.i (i + 1), .ro _ sk, .ro _ is, .l (Sq.names is.xs i.toNat ++ [[.s (Sq.nm is.xs i.toNat)]])] := fun f => hA _ (by show ((is.xs.length : Int) - (i + 1)).toNat < ((is.xs.length : Int) - i).toNat; omega) ⟨⟨by omega, by omega, h5, hn, by rw [ez]; exact Xek (by omega)⟩, by rw [ez]; exact g2 f⟩;have bad : ∀ n, Sq.inErr is.xs i.toNat = n -> n ≠ 0 -> K 1 [.i i, .i n] := fun n hn h => by rw [<- hn]; exact g1 (by rw [hn]; exact h)
  have hs := hn i.toNat;have eS := Lib.hid (show Sq.inErr is.xs i.toNat = if Sq.nameErr is.xs i.toNat = 0 then Sq.spanE (cel is.xs i.toNat 1).int (cel is.xs i.toNat 2).int (-300) 300 else Sq.nameErr is.xs i.toNat from rfl);have hlen := Xdm (xs := is.xs) (i := i.toNat) (by omega);clear g1 g2 hk hA hn;simp only [Nat.zero_add, Nat.reduceAdd, List.length_cons, List.length_nil, hlen];simp only [show (cel is.xs i.toNat 0).str = Sq.nm is.xs i.toNat from rfl, hE];generalize Sq.spanE (cel is.xs i.toNat 1).int (cel is.xs i.toNat 2).int (-300) 300 = S at *;generalize Sq.nameErr is.xs i.toNat = E at *;generalize Sq.inErr is.xs i.toNat = F at *
  repeat' (first | omega|intro _|with_reducible first|apply vifd|apply vifn|apply vifq|apply vifq0|apply vifq1|apply vifb|apply vif|apply nedd|apply ned2|apply ned|apply ar64|apply X2|exact True.intro|assumption|rfl|apply And.intro)
  all_goals first | exact bad _ (by rw [eS.out]; (repeat' split) <;> omega) (by omega) | exact hA' (by rw [eS.out]; (repeat' split) <;> omega)
 ·rw [show is.xs.length - i.toNat = 0 by omega] at hk;exact hk.2 rfl
noncomputable def Xwl : LE Tryz.prog := ⟨5, 20, fun W => @Ysp W Xki, Xvx⟩
noncomputable def T6q : Tab Tryz.prog := ⟨T5q.pcs, [Xwk, Xwl], []⟩
def Ze := (0 : Int)
def Zd := Int.toNat Ze
def Xd6 [W : InW] (s_Skills : Ro Xbv) (s_Instrs : Ro Xbw) (Q : DS -> Prop) : Prop :=
 Pre True (Vif (!Sq.inr (↑(s_Skills.xs.length) : Int) (1 : Int) (5 : Int)) (Q [[Cl.i 1], [Cl.i 0], [Cl.i 3]]) (Vif (decide ((6 : Int) < (↑(s_Instrs.xs.length) : Int))) (Q [[Cl.i 1], [Cl.i 0], [Cl.i 3]]) (Pre (Ze <= 0 /\ Ze <= (↑(s_Skills.xs.length) : Int) /\ s_Skills.xs.length <= 5 /\ Sq.NamesOk s_Skills.xs /\ [] = Sq.names s_Skills.xs Zd) (Vif (Sq.hasE (Sq.skErr s_Skills.xs) Zd (s_Skills.xs.length - Int.toNat Ze)) (Q [[Cl.i 2], [Cl.i (↑(Sq.idxE (Sq.skErr s_Skills.xs) Zd (s_Skills.xs.length - Int.toNat Ze)) : Int)], [Cl.i (Sq.skErr s_Skills.xs (Sq.idxE (Sq.skErr s_Skills.xs) Zd (s_Skills.xs.length - Int.toNat Ze)))]]) (Pre (Ze <= 0 /\ Ze <= (↑(s_Instrs.xs.length) : Int) /\ s_Instrs.xs.length <= 6 /\ Sq.NamesOk s_Instrs.xs /\ [] = Sq.names s_Instrs.xs Zd) (Vif (Sq.hasE (Sq.inErr s_Instrs.xs) Zd (s_Instrs.xs.length - Int.toNat Ze)) (Q [[Cl.i 3], [Cl.i (↑(Sq.idxE (Sq.inErr s_Instrs.xs) Zd (s_Instrs.xs.length - Int.toNat Ze)) : Int)], [Cl.i (Sq.inErr s_Instrs.xs (Sq.idxE (Sq.inErr s_Instrs.xs) Zd (s_Instrs.xs.length - Int.toNat Ze)))]]) (Q [[Cl.i 0], [Cl.i 0], [Cl.i 0]])))))))
theorem Xmd (W : InW) (s_Skills s_Instrs Q) : Yvp (cxT Tryz.prog TT T6q 1000 50) 1000 5 [.agg [.rs _ s_Skills, .rs _ s_Instrs]] [] 0 (Yzq [(false, [.int .i64]), (false, [.int .i64]), (false, [.int .i64])] Q) (fun _ _ _ _ => Stuck 421) = Xd6 s_Skills s_Instrs Q := by kernel_rfl
abbrev Xc2 : List AT := [.agg [.sl Xbv, .sl Xbw]]
theorem Xnk {pre : DS -> Prop} {res : DS -> DS} (hyp_ : ∀ (W : InW) (s_Skills : Ro Xbv) (s_Instrs : Ro Xbw), pre [[.l s_Skills.xs, .l s_Instrs.xs]] -> ∀ Q : DS -> Prop, Q (res [[.l s_Skills.xs, .l s_Instrs.xs]]) -> Xd6 s_Skills s_Instrs Q) : PureOk Tryz.prog 5 Xc2 [(false, [.int .i64]), (false, [.int .i64]), (false, [.int .i64])] pre res :=
 PureOk.of' (fun W => @TT W) (fun W => @Xb W) Xa T6q 1000 50 fun W s_Skills s_Instrs hp =>
  (Xmd W s_Skills s_Instrs (fun o => o = res [[.l s_Skills.xs, .l s_Instrs.xs]])).mpr (hyp_ W s_Skills s_Instrs hp _ rfl)
abbrev Xbq (ds : DS) : DS := match ds with | [[.l sk, .l is]] => [[.i (Sq.chkP sk is)], [.i (Sq.chkI sk is)], [.i (Sq.chkE sk is)]] | _ => []
abbrev Xeh (ds : DS) : Prop := match ds with | [[.l sk, .l is]] => Sq.NamesOk sk /\ Sq.NamesOk is | _ => False
theorem inr_iff {n lo hi : Int} : Sq.inr n lo hi = true ↔ lo <= n /\ n <= hi := by simp [Sq.inr]
theorem Xcq {n lo hi : Int} : Sq.inr n lo hi = false ↔ n < lo \/ hi < n := by simp [Sq.inr]; omega
theorem Xqx : PureOk Tryz.prog 5 Xc2 [(false, [.int .i64]), (false, [.int .i64]), (false, [.int .i64])] Xeh Xbq :=
 Xnk fun W sk is hp Q h => by
  obtain ⟨h1, h2⟩ := hp;unfold Xd6;delta Zd Ze;simp only [Xbq, Sq.chkP, Sq.chkI, Sq.chkE, Sq.check] at h;rw [show Int.toNat 0 = 0 from rfl, Nat.sub_zero, Nat.sub_zero];refine ⟨trivial, vifb (fun e1 => ?_) fun e1 => vifd (fun e2 => ?_) fun e2 => ?_⟩
  ·simp_all
  ·simp_all
  ·have i1 := inr_iff.1 e1;refine ⟨⟨by omega, by omega, by omega, h1, rfl⟩, vif (fun e3 => ?_) fun e3 => ⟨⟨by omega, by omega, by omega, h2, rfl⟩, vif (fun e4 => ?_) fun e4 => ?_⟩⟩ <;> clear h1 h2 <;> simp_all
noncomputable def Xgg : PC Tryz.prog := ⟨5, Xc2, [(false, [.int .i64]), (false, [.int .i64]), (false, [.int .i64])], Xeh, Xbq, Xqx⟩
def Xu4 [InW] (e : List Ed) (K : Nat -> List Ed -> Prop) : Prop := match e with
 | [.ro _ xs, .i n, .i i, .s last] => Pre (n = (xs.xs.length : Int) /\ 0 <= i /\ i <= n) (Vif (Sq.dup xs.xs last i.toNat (xs.xs.length - i.toNat)) (K 1 [.i (Sq.dupI xs.xs last i.toNat (xs.xs.length - i.toNat)), .s last]) (K 0 [.s last]))
 | _ => False
abbrev Xet [InW] := Xu4
abbrev Xjc [InW] := Xu4
noncomputable def Xe5 : LC where
 len := 19
 T := [(0, .rs Ja), (1, (.fn (.func 94) [] [(.ptr 4 0)])), (7, .int .i64), (8, .int .i64)]
 H := [(4, .blk 66 [.str, (.opq 7), (.opq 10), (.opq 13), (.opq 16)])]
 W := ([4, 5] ++ rgg 9 10)
 outs := [⟨.exit 0, [(1, (.fn (.func 94) [] [(.ptr 4 0)]))], [(4, .blk 66 [.str, (.opq 7), (.opq 10), (.opq 13), (.opq 16)])], ([0, 4, 5] ++ rgg 7 12)⟩, ⟨.ret, [(1, (.fn (.func 94) [] [(.ptr 4 0)])), (4, .int .i64)], [(4, .blk 66 [.str, (.opq 7), (.opq 10), (.opq 13), (.opq 16)])], ([0, 5] ++ rgg 7 12)⟩]
 spec := Xet
def Xfw [W : InW] (xs : Ro Ja) (n i : Int) (last : ByteArray) (A : List Ed -> Prop) (K : Nat -> List Ed -> Prop) : Prop :=
 Vif (decide (i < n)) (Need (decide (0 <= i) && decide (i < (↑(xs.xs.length) : Int))) (Need (decide (i.toNat < xs.xs.length)) (Vif (eqS (cel xs.xs i.toNat (0 : Nat)).str last) (K (0+1) [.i i, .s last]) (Ar .i64 (i + 1) fun z => A [.ro _ xs, .i n, .i z, .s last])))) (K 0 [.s last])
theorem Xon (W : InW) (xs n i last A K) : Ye9 { cxT Tryz.prog TT T3q 1000 50 with fn := 113 } 1000 (Ynh Tryz.prog 113 3) (Ydy 19 [(0, .rs _ xs), (1, .fn (.func 94) [] [.ptr 4 0]), (7, .si .i64 n), (8, .si .i64 i)] ([4, 5] ++ rgg 9 10)) [(4, .blk 66 [.ss last, .opq 7, .opq 10, .opq 13, .opq 16])] (Yth Xe5 A K) = Xfw xs n i last A K := by kernel_rfl
def Xgm : Prop := ∀ (W : InW) (body a : Code), (Tryz.prog.funcs[113]?).bind (·.body) = some body -> a ∈ Yw body -> Yfu a = 3 -> @Yma W Tryz.prog a (@Ysp W Xe5)
theorem Xpy (meas : [InW] -> List Ed -> Nat) (hyp_ : ∀ (W : InW) xs n i last K, Xet [.ro _ xs, .i n, .i i, .s last] K -> ∀ A : List Ed -> Prop, (∀ e, meas e < meas [.ro _ xs, .i n, .i i, .s last] -> Xet e K -> A e) -> Xfw xs n i last A K) : Xgm :=
 LE.okOf' (fun W => @TT W) (fun W => @Xb W) Xa T3q 1000 50 (by kernel_rfl) Xe5 (fun W => @meas W) fun W xs n i last K hs =>
  (Xon W xs n i last (fun e => meas e < meas [.ro _ xs, .i n, .i i, .s last] /\ Xet e K) K).mpr (hyp_ W xs n i last K hs _ fun e h1 h2 => ⟨h1, h2⟩)
noncomputable def Xkl : LC where
 len := 19
 T := [(0, .rs Jb), (1, (.fn (.func 96) [] [(.ptr 4 0)])), (7, .int .i64), (8, .int .i64)]
 H := [(4, .blk 70 [.str, (.opq 7), (.opq 10)])]
 W := ([4, 5] ++ rgg 9 10)
 outs := [⟨.exit 0, [(1, (.fn (.func 96) [] [(.ptr 4 0)]))], [(4, .blk 70 [.str, (.opq 7), (.opq 10)])], ([0, 4, 5] ++ rgg 7 12)⟩, ⟨.ret, [(1, (.fn (.func 96) [] [(.ptr 4 0)])), (4, .int .i64)], [(4, .blk 70 [.str, (.opq 7), (.opq 10)])], ([0, 5] ++ rgg 7 12)⟩]
 spec := Xjc
def Xie [W : InW] (xs : Ro Jb) (n i : Int) (last : ByteArray) (A : List Ed -> Prop) (K : Nat -> List Ed -> Prop) : Prop :=
 Vif (decide (i < n)) (Need (decide (0 <= i) && decide (i < (↑(xs.xs.length) : Int))) (Need (decide (i.toNat < xs.xs.length)) (Vif (eqS (cel xs.xs i.toNat (0 : Nat)).str last) (K (0+1) [.i i, .s last]) (Ar .i64 (i + 1) fun z => A [.ro _ xs, .i n, .i z, .s last])))) (K 0 [.s last])
theorem Xr4 (W : InW) (xs n i last A K) : Ye9 { cxT Tryz.prog TT T3q 1000 50 with fn := 114 } 1000 (Ynh Tryz.prog 114 3) (Ydy 19 [(0, .rs _ xs), (1, .fn (.func 96) [] [.ptr 4 0]), (7, .si .i64 n), (8, .si .i64 i)] ([4, 5] ++ rgg 9 10)) [(4, .blk 70 [.ss last, .opq 7, .opq 10])] (Yth Xkl A K) = Xie xs n i last A K := by kernel_rfl
def Xj1 : Prop := ∀ (W : InW) (body a : Code), (Tryz.prog.funcs[114]?).bind (·.body) = some body -> a ∈ Yw body -> Yfu a = 3 -> @Yma W Tryz.prog a (@Ysp W Xkl)
theorem Xs9 (meas : [InW] -> List Ed -> Nat) (hyp_ : ∀ (W : InW) xs n i last K, Xjc [.ro _ xs, .i n, .i i, .s last] K -> ∀ A : List Ed -> Prop, (∀ e, meas e < meas [.ro _ xs, .i n, .i i, .s last] -> Xjc e K -> A e) -> Xie xs n i last A K) : Xj1 :=
 LE.okOf' (fun W => @TT W) (fun W => @Xb W) Xa T3q 1000 50 (by kernel_rfl) Xkl (fun W => @meas W) fun W xs n i last K hs =>
  (Xr4 W xs n i last (fun e => meas e < meas [.ro _ xs, .i n, .i i, .s last] /\ Xjc e K) K).mpr (hyp_ W xs n i last K hs _ fun e h1 h2 => ⟨h1, h2⟩)
theorem Xt5 : Xgm := Xpy (fun e => match e with | .ro _ xs :: .i n :: .i i :: _ => (n - i).toNat | _ => 0) fun W xs n i last K hs A hA => by
 obtain ⟨⟨rfl, h0, h1⟩, hk⟩ := hs;unfold Xfw;have hm := xs.len;simp only [maxLen] at hm;refine vifd (fun e => ned (by simp; omega) (nedd (by omega) (vif (fun e2 => ?_) fun e2 => ar64 (by omega) (hA _ ?_ ?_)))) fun e => ?_
 ·rw [show xs.xs.length - i.toNat = (xs.xs.length - (i.toNat + 1)) + 1 by omega] at hk;have := hk.1 (by simp only [Sq.dup, Sq.nm, e2, Bool.true_or]);unfold Sq.dupI at this;rw [if_pos (by exact e2), Int.toNat_of_nonneg h0] at this;exact this
 ·show ((xs.xs.length : Int) - (i + 1)).toNat < ((xs.xs.length : Int) - i).toNat
  omega
 ·refine ⟨⟨rfl, by omega, by omega⟩, ?_⟩;rw [show xs.xs.length - i.toNat = (xs.xs.length - (i.toNat + 1)) + 1 by omega] at hk;simp only [Sq.dup, Sq.nm, e2, Bool.false_or] at hk;unfold Sq.dupI at hk;rw [if_neg (by show ¬ eqS (cel xs.xs i.toNat 0).str last = true; rw [e2]; simp)] at hk;rw [show (i + 1).toNat = i.toNat + 1 by omega];exact hk
 ·rw [show xs.xs.length - i.toNat = 0 by omega] at hk;exact hk.2 rfl
theorem Xv0 : Xj1 := Xs9 (fun e => match e with | .ro _ xs :: .i n :: .i i :: _ => (n - i).toNat | _ => 0) fun W xs n i last K hs A hA => by
 obtain ⟨⟨rfl, h0, h1⟩, hk⟩ := hs;unfold Xie;have hm := xs.len;simp only [maxLen] at hm;refine vifd (fun e => ned (by simp; omega) (nedd (by omega) (vif (fun e2 => ?_) fun e2 => ar64 (by omega) (hA _ ?_ ?_)))) fun e => ?_
 ·rw [show xs.xs.length - i.toNat = (xs.xs.length - (i.toNat + 1)) + 1 by omega] at hk;have := hk.1 (by simp only [Sq.dup, Sq.nm, e2, Bool.true_or]);unfold Sq.dupI at this;rw [if_pos (by exact e2), Int.toNat_of_nonneg h0] at this;exact this
 ·show ((xs.xs.length : Int) - (i + 1)).toNat < ((xs.xs.length : Int) - i).toNat
  omega
 ·refine ⟨⟨rfl, by omega, by omega⟩, ?_⟩;rw [show xs.xs.length - i.toNat = (xs.xs.length - (i.toNat + 1)) + 1 by omega] at hk;simp only [Sq.dup, Sq.nm, e2, Bool.false_or] at hk;unfold Sq.dupI at hk;rw [if_neg (by show ¬ eqS (cel xs.xs i.toNat 0).str last = true; rw [e2]; simp)] at hk;rw [show (i + 1).toNat = i.toNat + 1 by omega];exact hk
 ·rw [show xs.xs.length - i.toNat = 0 by omega] at hk;exact hk.2 rfl
noncomputable def Xui : LE Tryz.prog := ⟨113, 3, fun W => @Ysp W Xe5, Xt5⟩
noncomputable def Xwn : LE Tryz.prog := ⟨114, 3, fun W => @Ysp W Xkl, Xv0⟩
noncomputable def T7q : Tab Tryz.prog := ⟨T3q.pcs, [Xui, Xwn], []⟩
def Xjk [InW] (e : List Ed) (K : Nat -> List Ed -> Prop) : Prop := match e with
 | [.ro _ xs, .i n, .i i, .ro _ sk, .ro _ is] => Pre (xs.xs = sk.xs /\ n = (sk.xs.length : Int) /\ 0 <= i /\ i <= n) (Vif (Sq.hasE (Sq.skErr sk.xs) i.toNat (sk.xs.length - i.toNat))
   (K 1 [.i (Sq.idxE (Sq.skErr sk.xs) i.toNat (sk.xs.length - i.toNat)), .i (Sq.skErr sk.xs (Sq.idxE (Sq.skErr sk.xs) i.toNat (sk.xs.length - i.toNat)))]) (K 0 [.ro _ sk, .ro _ is]))
 | _ => False
noncomputable def Xkt : LC where
 len := 107
 T := [(1, (.ptr 1 0)), (21, .rs Ja), (22, .int .i64), (23, .int .i64)]
 H := [(1, .blk 25 [.rs Ja, .rs Jb])]
 W := (rgg 2 5 ++ rgg 24 53)
 outs := [⟨.exit 0, [(1, (.ptr 1 0))], [(1, .blk 25 [.rs Ja, .rs Jb])], (rgg 2 5 ++ rgg 21 56)⟩, ⟨.ret, [(2, (.lit (.int .i64 2))), (3, .int .i64), (4, .int .i64)], [], ([1, 5, 6] ++ rgg 21 56)⟩]
 spec := Xjk
def Zh := (0 : Nat)
def Zg [W : InW] (i : Int) (sk : Ro Ja) := List.drop Zh (List.take i.toNat sk.xs)
def Zf [W : InW] (xs : Ro Ja) (n i : Int) (sk : Ro Ja) (is : Ro Jb) (A : List Ed -> Prop) (K : Nat -> List Ed -> Prop) := Pre True (Vif (Sq.out Ze (1000 : Int) [[Cl.i (cel xs.xs i.toNat (0+1)).int], [Cl.i (cel xs.xs i.toNat (Zh + 1 + 1)).int], [Cl.i (cel xs.xs i.toNat (Zh + 1 + 1 + 1)).int], [Cl.i (cel xs.xs i.toNat (Zh + 1 + 1 + 1 + 1)).int]]) (K (0+1) [.i i, .i (7 : Int)]) (Vif (decide ((cel xs.xs i.toNat (Zh + 1 + 1)).int < (cel xs.xs i.toNat (0+1)).int)) (K (0+1) [.i i, .i (2 : Int)]) (Vif (decide ((cel xs.xs i.toNat (Zh + 1 + 1 + 1 + 1)).int < (cel xs.xs i.toNat (Zh + 1 + 1 + 1)).int)) (K (0+1) [.i i, .i (2 : Int)]) (Ar .i64 (i + 1) fun z => A [.ro _ xs, .i n, .i z, .ro _ sk, .ro _ is]))))
def Xim [W : InW] (xs : Ro Ja) (n i : Int) (sk : Ro Ja) (is : Ro Jb) (A : List Ed -> Prop) (K : Nat -> List Ed -> Prop) : Prop :=
 Vif (decide (i < n)) (Need (decide (0 <= i) && decide (i < (↑(xs.xs.length) : Int))) (Need (decide (i.toNat < xs.xs.length)) (Pre True (Vif (!Bk.nameOk (cel xs.xs i.toNat Zh).str) (K (0+1) [.i i, .i (6 : Int)]) (Need (decide (0 <= i)) (Need (decide (Zh <= i.toNat) && decide (i.toNat <= sk.xs.length)) (Pre ((↑(Zg i sk).length : Int) = (↑(Zg i sk).length : Int) /\ Ze <= 0 /\ Ze <= (↑(Zg i sk).length : Int)) (Vif (Sq.dup (Zg i sk) (cel xs.xs i.toNat Zh).str (Int.toNat Ze) ((Zg i sk).length - Int.toNat Ze)) (Vif (decide (Ze <= (↑(Sq.dupI (Zg i sk) (cel xs.xs i.toNat Zh).str (Int.toNat Ze) ((Zg i sk).length - Int.toNat Ze)) : Int))) (K (0+1) [.i i, .i (5 : Int)]) (Zf xs n i sk is A K)) (Zf xs n i sk is A K))))))))) (K 0 [.ro _ sk, .ro _ is])
theorem Xsc (W : InW) (xs n i sk is A K) : Ye9 { cxT Tryz.prog TT T7q 1000 50 with fn := 67 } 1000 (Ynh Tryz.prog 67 5) (Ydy 107 [(1, .ptr 1 0), (21, .rs _ xs), (22, .si .i64 n), (23, .si .i64 i)] (rgg 2 5 ++ rgg 24 53)) [(1, .blk 25 [.rs _ sk, .rs _ is])] (Yth Xkt A K) = Xim xs n i sk is A K := by kernel_rfl
def Xj9 : Prop := ∀ (W : InW) (body a : Code), (Tryz.prog.funcs[67]?).bind (·.body) = some body -> a ∈ Yw body -> Yfu a = 5 -> @Yma W Tryz.prog a (@Ysp W Xkt)
theorem Xth (meas : [InW] -> List Ed -> Nat) (hyp_ : ∀ (W : InW) xs n i sk is K, Xjk [.ro _ xs, .i n, .i i, .ro _ sk, .ro _ is] K -> ∀ A : List Ed -> Prop, (∀ e, meas e < meas [.ro _ xs, .i n, .i i, .ro _ sk, .ro _ is] -> Xjk e K -> A e) -> Xim xs n i sk is A K) : Xj9 :=
 LE.okOf' (fun W => @TT W) (fun W => @Xb W) Xa T7q 1000 50 (by kernel_rfl) Xkt (fun W => @meas W) fun W xs n i sk is K hs =>
  (Xsc W xs n i sk is (fun e => meas e < meas [.ro _ xs, .i n, .i i, .ro _ sk, .ro _ is] /\ Xjk e K) K).mpr (hyp_ W xs n i sk is K hs _ fun e h1 h2 => ⟨h1, h2⟩)
def Xjm [InW] (e : List Ed) (K : Nat -> List Ed -> Prop) : Prop := match e with
 | [.ro _ xs, .i n, .i i, .ro _ sk, .ro _ is] => Pre (xs.xs = is.xs /\ n = (is.xs.length : Int) /\ 0 <= i /\ i <= n) (Vif (Sq.hasE (Sq.inErr is.xs) i.toNat (is.xs.length - i.toNat))
   (K 1 [.i (Sq.idxE (Sq.inErr is.xs) i.toNat (is.xs.length - i.toNat)), .i (Sq.inErr is.xs (Sq.idxE (Sq.inErr is.xs) i.toNat (is.xs.length - i.toNat)))]) (K 0 []))
 | _ => False
noncomputable def Xkv : LC where
 len := 107
 T := [(1, (.ptr 1 0)), (78, .rs Jb), (79, .int .i64), (80, .int .i64)]
 H := [(1, .blk 25 [.rs Ja, .rs Jb])]
 W := ([2, 3, 4, 7, 8] ++ rgg 81 26)
 outs := [⟨.exit 3, [], [], (rgg 1 4 ++ [7, 8] ++ rgg 78 29)⟩, ⟨.ret, [(2, (.lit (.int .i64 3))), (3, .int .i64), (4, .int .i64)], [], ([1, 7, 8] ++ rgg 78 29)⟩]
 spec := Xjm
def Zi [W : InW] (i : Int) (is : Ro Jb) := List.drop Zh (List.take i.toNat is.xs)
def Zj [W : InW] (xs : Ro Jb) (n i : Int) (sk : Ro Ja) (is : Ro Jb) (A : List Ed -> Prop) (K : Nat -> List Ed -> Prop) := Pre True (Vif (!decide (Sq.spanE (cel xs.xs i.toNat (0+1)).int (cel xs.xs i.toNat (Zh + 1 + 1)).int (-300 : Int) (300 : Int) = 0)) (K (0+1) [.i i, .i (Sq.spanE (cel xs.xs i.toNat (0+1)).int (cel xs.xs i.toNat (Zh + 1 + 1)).int (-300 : Int) (300 : Int))]) (Ar .i64 (i + 1) fun z => A [.ro _ xs, .i n, .i z, .ro _ sk, .ro _ is]))
def Xio [W : InW] (xs : Ro Jb) (n i : Int) (sk : Ro Ja) (is : Ro Jb) (A : List Ed -> Prop) (K : Nat -> List Ed -> Prop) : Prop :=
 Vif (decide (i < n)) (Need (decide (0 <= i) && decide (i < (↑(xs.xs.length) : Int))) (Need (decide (i.toNat < xs.xs.length)) (Pre True (Vif (!Bk.nameOk (cel xs.xs i.toNat Zh).str) (K (0+1) [.i i, .i (6 : Int)]) (Need (decide (0 <= i)) (Need (decide (Zh <= i.toNat) && decide (i.toNat <= is.xs.length)) (Pre ((↑(Zi i is).length : Int) = (↑(Zi i is).length : Int) /\ Ze <= 0 /\ Ze <= (↑(Zi i is).length : Int)) (Vif (Sq.dup (Zi i is) (cel xs.xs i.toNat Zh).str (Int.toNat Ze) ((Zi i is).length - Int.toNat Ze)) (Vif (decide (Ze <= (↑(Sq.dupI (Zi i is) (cel xs.xs i.toNat Zh).str (Int.toNat Ze) ((Zi i is).length - Int.toNat Ze)) : Int))) (K (0+1) [.i i, .i (5 : Int)]) (Zj xs n i sk is A K)) (Zj xs n i sk is A K))))))))) (K 0 [])
theorem Xse (W : InW) (xs n i sk is A K) : Ye9 { cxT Tryz.prog TT T7q 1000 50 with fn := 67 } 1000 (Ynh Tryz.prog 67 17) (Ydy 107 [(1, .ptr 1 0), (78, .rs _ xs), (79, .si .i64 n), (80, .si .i64 i)] ([2, 3, 4, 7, 8] ++ rgg 81 26)) [(1, .blk 25 [.rs _ sk, .rs _ is])] (Yth Xkv A K) = Xio xs n i sk is A K := by kernel_rfl
def Xkb : Prop := ∀ (W : InW) (body a : Code), (Tryz.prog.funcs[67]?).bind (·.body) = some body -> a ∈ Yw body -> Yfu a = 17 -> @Yma W Tryz.prog a (@Ysp W Xkv)
theorem Xtj (meas : [InW] -> List Ed -> Nat) (hyp_ : ∀ (W : InW) xs n i sk is K, Xjm [.ro _ xs, .i n, .i i, .ro _ sk, .ro _ is] K -> ∀ A : List Ed -> Prop, (∀ e, meas e < meas [.ro _ xs, .i n, .i i, .ro _ sk, .ro _ is] -> Xjm e K -> A e) -> Xio xs n i sk is A K) : Xkb :=
 LE.okOf' (fun W => @TT W) (fun W => @Xb W) Xa T7q 1000 50 (by kernel_rfl) Xkv (fun W => @meas W) fun W xs n i sk is K hs =>
  (Xse W xs n i sk is (fun e => meas e < meas [.ro _ xs, .i n, .i i, .ro _ sk, .ro _ is] /\ Xjm e K) K).mpr (hyp_ W xs n i sk is K hs _ fun e h1 h2 => ⟨h1, h2⟩)
theorem Xv8 : Xj9 := Xth (fun e => match e with | _ :: .i n :: .i i :: _ => (n - i).toNat | _ => 0) fun W xs n i sk is K hs A hA => by
 obtain ⟨⟨hcs, rfl, h0, h1⟩, hk⟩ := hs;unfold Xim;delta Zf Zg Zh Ze;have hm := sk.len;simp only [maxLen] at hm;simp only [List.drop_zero, hcs, Nat.zero_add, Nat.reduceAdd, out4];refine vifd (fun e => ?_) fun e => ?_
 ·rw [show sk.xs.length - i.toNat = (sk.xs.length - (i.toNat + 1)) + 1 by omega] at hk;obtain ⟨g1, g2⟩ := Xi2 (K1 := fun j e => K 1 [.i j, .i e]) hk;rw [Int.toNat_of_nonneg h0] at g1;have ez : (i + 1).toNat = i.toNat + 1 := by omega
  have hA' : Sq.skErr sk.xs i.toNat = 0 -> A [.ro _ xs, .i sk.xs.length, .i (i + 1), .ro _ sk, .ro _ is] := fun f => hA _ (by show ((sk.xs.length : Int) - (i + 1)).toNat < ((sk.xs.length : Int) - i).toNat; omega) ⟨⟨hcs, rfl, by omega, by omega⟩, by rw [ez]; exact g2 f⟩;have bad : ∀ n, Sq.skErr sk.xs i.toNat = n -> n ≠ 0 -> K 1 [.i i, .i n] := fun n hn h => by rw [<- hn]; exact g1 (by rw [hn]; exact h)
  have htl : (sk.xs.take i.toNat).length = i.toNat := by rw [List.length_take]; omega
  have hdt := Xdq (xs := sk.xs) (name := (cel sk.xs i.toNat 0).str) (m := i.toNat) i.toNat 0 (by omega);have eN : Sq.nameErr sk.xs i.toNat = if Bk.nameOk (cel sk.xs i.toNat 0).str then (if Sq.dup sk.xs (cel sk.xs i.toNat 0).str 0 i.toNat then 5 else 0) else 6 := rfl
  have eS := Lib.hid (show Sq.skErr sk.xs i.toNat = if Sq.nameErr sk.xs i.toNat = 0 then (if Sq.inr (cel sk.xs i.toNat 1).int 0 1000 && (Sq.inr (cel sk.xs i.toNat 2).int 0 1000 && (Sq.inr (cel sk.xs i.toNat 3).int 0 1000 && Sq.inr (cel sk.xs i.toNat 4).int 0 1000)) then (if (cel sk.xs i.toNat 2).int < (cel sk.xs i.toNat 1).int \/ (cel sk.xs i.toNat 4).int < (cel sk.xs i.toNat 3).int then 2 else 0) else 7) else Sq.nameErr sk.xs i.toNat from rfl);rw [eN] at eS;clear g1 g2 hk hA eN;rw [htl, show Int.toNat 0 = 0 from rfl, Nat.sub_zero, hdt];clear htl hdt;generalize Bk.nameOk (cel sk.xs i.toNat 0).str = a at *;generalize Sq.dup sk.xs (cel sk.xs i.toNat 0).str 0 i.toNat = b at *;generalize Sq.skErr sk.xs i.toNat = F at *;generalize Sq.inr (cel sk.xs i.toNat 1).int 0 1000 = c1 at *;generalize Sq.inr (cel sk.xs i.toNat 2).int 0 1000 = c2 at *;generalize Sq.inr (cel sk.xs i.toNat 3).int 0 1000 = c3 at *;generalize Sq.inr (cel sk.xs i.toNat 4).int 0 1000 = c4 at *;generalize (cel sk.xs i.toNat 1).int = d1 at *;generalize (cel sk.xs i.toNat 2).int = d2 at *;generalize (cel sk.xs i.toNat 3).int = d3 at *;generalize (cel sk.xs i.toNat 4).int = d4 at *
  repeat' (first | omega|intro _|with_reducible first|apply vifd|apply vifn|apply vifq|apply vifq0|apply vifq1|apply vifb|apply vif|apply nedd|apply ned2|apply ned|apply ar64|apply X2|exact True.intro|assumption|rfl|apply And.intro)
  all_goals first | exact bad _ (by rw [eS.out]; (repeat' split) <;> first | omega | simp_all) (by omega) | exact hA' (by rw [eS.out]; (repeat' split) <;> first | omega | simp_all)
 ·rw [show sk.xs.length - i.toNat = 0 by omega] at hk;exact hk.2 rfl
theorem Xwa : Xkb := Xtj (fun e => match e with | _ :: .i n :: .i i :: _ => (n - i).toNat | _ => 0) fun W xs n i sk is K hs A hA => by
 obtain ⟨⟨hcs, rfl, h0, h1⟩, hk⟩ := hs;unfold Xio;delta Zj Zi Zh Ze;have hm := is.len;simp only [maxLen] at hm;simp only [List.drop_zero, hcs, Nat.zero_add, Nat.reduceAdd, out4];refine vifd (fun e => ?_) fun e => ?_
 ·rw [show is.xs.length - i.toNat = (is.xs.length - (i.toNat + 1)) + 1 by omega] at hk;obtain ⟨g1, g2⟩ := Xi2 (K1 := fun j e => K 1 [.i j, .i e]) hk;rw [Int.toNat_of_nonneg h0] at g1;have ez : (i + 1).toNat = i.toNat + 1 := by omega
  have hA' : Sq.inErr is.xs i.toNat = 0 -> A [.ro _ xs, .i is.xs.length, .i (i + 1), .ro _ sk, .ro _ is] := fun f => hA _ (by show ((is.xs.length : Int) - (i + 1)).toNat < ((is.xs.length : Int) - i).toNat; omega) ⟨⟨hcs, rfl, by omega, by omega⟩, by rw [ez]; exact g2 f⟩;have bad : ∀ n, Sq.inErr is.xs i.toNat = n -> n ≠ 0 -> K 1 [.i i, .i n] := fun n hn h => by rw [<- hn]; exact g1 (by rw [hn]; exact h)
  have htl : (is.xs.take i.toNat).length = i.toNat := by rw [List.length_take]; omega
  have hdt := Xdq (xs := is.xs) (name := (cel is.xs i.toNat 0).str) (m := i.toNat) i.toNat 0 (by omega);have eN : Sq.nameErr is.xs i.toNat = if Bk.nameOk (cel is.xs i.toNat 0).str then (if Sq.dup is.xs (cel is.xs i.toNat 0).str 0 i.toNat then 5 else 0) else 6 := rfl
  have eS := Lib.hid (show Sq.inErr is.xs i.toNat = if Sq.nameErr is.xs i.toNat = 0 then Sq.spanE (cel is.xs i.toNat 1).int (cel is.xs i.toNat 2).int (-300) 300 else Sq.nameErr is.xs i.toNat from rfl);rw [eN] at eS;clear g1 g2 hk hA eN;rw [htl, show Int.toNat 0 = 0 from rfl, Nat.sub_zero, hdt];clear htl hdt;generalize Bk.nameOk (cel is.xs i.toNat 0).str = a at *;generalize Sq.dup is.xs (cel is.xs i.toNat 0).str 0 i.toNat = b at *;generalize Sq.inErr is.xs i.toNat = F at *;generalize Sq.spanE (cel is.xs i.toNat 1).int (cel is.xs i.toNat 2).int (-300) 300 = S at *
  repeat' (first | omega|intro _|with_reducible first|apply vifd|apply vifn|apply vifq|apply vifq0|apply vifq1|apply vifb|apply vif|apply nedd|apply ned2|apply ned|apply ar64|apply X2|exact True.intro|assumption|rfl|apply And.intro)
  all_goals first | exact bad _ (by rw [eS.out]; (repeat' split) <;> first | omega | simp_all) (by omega) | exact hA' (by rw [eS.out]; (repeat' split) <;> first | omega | simp_all)
 ·rw [show is.xs.length - i.toNat = 0 by omega] at hk;exact hk.2 rfl
noncomputable def Xwu : LE Tryz.prog := ⟨67, 5, fun W => @Ysp W Xkt, Xv8⟩
noncomputable def Xww : LE Tryz.prog := ⟨67, 17, fun W => @Ysp W Xkv, Xwa⟩
noncomputable def T8 : Tab Tryz.prog := ⟨T3q.pcs, [Xwu, Xww], []⟩
def Xc4 [W : InW] (s_Skills : Ro Ja) (s_Instrs : Ro Jb) (Q : DS -> Prop) : Prop :=
 Pre True (Vif (Sq.out (1 : Int) (5 : Int) [[Cl.i (↑(s_Skills.xs.length) : Int)]]) (Q [[Cl.i 1], [Cl.i 0], [Cl.i 3]]) (Vif (decide ((6 : Int) < (↑(s_Instrs.xs.length) : Int))) (Q [[Cl.i 1], [Cl.i 0], [Cl.i 3]]) (Pre (s_Skills.xs = s_Skills.xs /\ (↑(s_Skills.xs.length) : Int) = (↑(s_Skills.xs.length) : Int) /\ Ze <= 0 /\ Ze <= (↑(s_Skills.xs.length) : Int)) (Vif (Sq.hasE (Sq.skErr s_Skills.xs) Zd (s_Skills.xs.length - Int.toNat Ze)) (Q [[Cl.i 2], [Cl.i (↑(Sq.idxE (Sq.skErr s_Skills.xs) Zd (s_Skills.xs.length - Int.toNat Ze)) : Int)], [Cl.i (Sq.skErr s_Skills.xs (Sq.idxE (Sq.skErr s_Skills.xs) Zd (s_Skills.xs.length - Int.toNat Ze)))]]) (Pre (s_Instrs.xs = s_Instrs.xs /\ (↑(s_Instrs.xs.length) : Int) = (↑(s_Instrs.xs.length) : Int) /\ Ze <= 0 /\ Ze <= (↑(s_Instrs.xs.length) : Int)) (Vif (Sq.hasE (Sq.inErr s_Instrs.xs) Zd (s_Instrs.xs.length - Int.toNat Ze)) (Q [[Cl.i 3], [Cl.i (↑(Sq.idxE (Sq.inErr s_Instrs.xs) Zd (s_Instrs.xs.length - Int.toNat Ze)) : Int)], [Cl.i (Sq.inErr s_Instrs.xs (Sq.idxE (Sq.inErr s_Instrs.xs) Zd (s_Instrs.xs.length - Int.toNat Ze)))]]) (Q [[Cl.i 0], [Cl.i 0], [Cl.i 0]])))))))
theorem Xlk (W : InW) (s_Skills s_Instrs Q) : Yvp (cxT Tryz.prog TT T8 1000 50) 1000 67 [.agg [.rs _ s_Skills, .rs _ s_Instrs]] [] 0 (Yzq [(false, [.int .i64]), (false, [.int .i64]), (false, [.int .i64])] Q) (fun _ _ _ _ => Stuck 421) = Xc4 s_Skills s_Instrs Q := by kernel_rfl
abbrev Xcl : List AT := [.agg [.sl Ja, .sl Jb]]
theorem Xlt {pre : DS -> Prop} {res : DS -> DS} (hyp_ : ∀ (W : InW) (s_Skills : Ro Ja) (s_Instrs : Ro Jb), pre [[.l s_Skills.xs, .l s_Instrs.xs]] -> ∀ Q : DS -> Prop, Q (res [[.l s_Skills.xs, .l s_Instrs.xs]]) -> Xc4 s_Skills s_Instrs Q) : PureOk Tryz.prog 67 Xcl [(false, [.int .i64]), (false, [.int .i64]), (false, [.int .i64])] pre res :=
 PureOk.of' (fun W => @TT W) (fun W => @Xb W) Xa T8 1000 50 fun W s_Skills s_Instrs hp =>
  (Xlk W s_Skills s_Instrs (fun o => o = res [[.l s_Skills.xs, .l s_Instrs.xs]])).mpr (hyp_ W s_Skills s_Instrs hp _ rfl)
theorem Xm5 : PureOk Tryz.prog 67 Xcl [(false, [.int .i64]), (false, [.int .i64]), (false, [.int .i64])] (fun _ => True) Xbq :=
 Xlt fun W sk is _ Q h => by
  unfold Xc4;delta Zd Ze;simp only [Xbq, Sq.chkP, Sq.chkI, Sq.chkE, Sq.check] at h;simp only [Xmw];rw [show Int.toNat 0 = 0 from rfl, Nat.sub_zero, Nat.sub_zero];refine ⟨trivial, vifb (fun e1 => ?_) fun e1 => vifd (fun e2 => ?_) fun e2 => ?_⟩
  ·simp_all
  ·simp_all
  ·have i1 := inr_iff.1 e1;refine ⟨⟨trivial, trivial, by omega, by omega⟩, vif (fun e3 => ?_) fun e3 => ⟨⟨trivial, trivial, by omega, by omega⟩, vif (fun e4 => ?_) fun e4 => ?_⟩⟩ <;> simp_all
noncomputable def Xei : PC Tryz.prog := ⟨67, Xcl, [(false, [.int .i64]), (false, [.int .i64]), (false, [.int .i64])], fun _ => True, Xbq, Xm5⟩
namespace Sq
structure SchOk (sk is : Dt) : Prop where
 n1 : 1 <= sk.length
 n5 : sk.length <= 5
 i6 : is.length <= 6
 skN : ∀ i, i < sk.length -> nameErr sk i = 0
 skG : ∀ i, i < sk.length -> 0 <= gLo sk i /\ gLo sk i <= gHi sk i /\ gHi sk i <= 1000
 skF : ∀ i, i < sk.length -> 0 <= fLo sk i /\ fLo sk i <= fHi sk i /\ fHi sk i <= 1000
 isN : ∀ i, i < is.length -> nameErr is i = 0
 isB : ∀ i, i < is.length -> -300 <= bLo is i /\ bLo is i <= bHi is i /\ bHi is i <= 300
end Sq
theorem Xdf {f : Nat -> Int} : ∀ {n i : Nat}, Sq.hasE f i n = false -> ∀ k, i <= k -> k < i + n -> f k = 0
 | 0, i, _, k, h1, h2 => by omega
 | n + 1, i, h, k, h1, h2 => by
  simp only [Sq.hasE, Bool.or_eq_false_iff, Bool.not_eq_false', decide_eq_true_eq] at h;rcases Nat.eq_or_lt_of_le h1 with e | e
  ·rw [<- e]; exact h.1
  ·exact Xdf h.2 k (by omega) (by omega)
theorem Xfd {f : Nat -> Int} : ∀ {n i : Nat}, (∀ k, i <= k -> k < i + n -> f k = 0) -> Sq.hasE f i n = false
 | 0, _, _ => rfl
 | n + 1, i, h => by
  simp only [Sq.hasE, Bool.or_eq_false_iff, Bool.not_eq_false', decide_eq_true_eq];exact ⟨h i (by omega) (by omega), Xfd fun k h1 h2 => h k (by omega) (by omega)⟩
theorem Xff {f : Nat -> Int} : ∀ {n i : Nat}, Sq.hasE f i n = true -> f (Sq.idxE f i n) ≠ 0
 | 0, _, h => by simp [Sq.hasE] at h
 | n + 1, i, h => by
  simp only [Sq.hasE, Sq.idxE] at h ⊢
  by_cases e : f i = 0
  ·rw [if_pos e]; exact Xff (by simpa [e] using h)
  ·rw [if_neg e]; exact e
theorem Xga {sk : Dt} {i : Nat} : Sq.skErr sk i = 0 ↔ Sq.nameErr sk i = 0 /\ (0 <= Sq.gLo sk i /\ Sq.gLo sk i <= Sq.gHi sk i /\ Sq.gHi sk i <= 1000) /\ (0 <= Sq.fLo sk i /\ Sq.fLo sk i <= Sq.fHi sk i /\ Sq.fHi sk i <= 1000) := by
 unfold Sq.skErr
 by_cases hn : Sq.nameErr sk i = 0
 ·rw [if_pos hn]
  by_cases hi : (Sq.inr (Sq.gLo sk i) 0 1000 && (Sq.inr (Sq.gHi sk i) 0 1000 && (Sq.inr (Sq.fLo sk i) 0 1000 && Sq.inr (Sq.fHi sk i) 0 1000))) = true
  ·rw [if_pos hi];simp only [Bool.and_eq_true, inr_iff] at hi
   split <;> omega
  ·rw [if_neg hi];simp only [Bool.and_eq_true, inr_iff] at hi;omega
 ·rw [if_neg hn]; simp [hn]
theorem Xgs {is : Dt} {i : Nat} : Sq.inErr is i = 0 ↔ Sq.nameErr is i = 0 /\ (-300 <= Sq.bLo is i /\ Sq.bLo is i <= Sq.bHi is i /\ Sq.bHi is i <= 300) := by
 unfold Sq.inErr Sq.spanE
 by_cases hn : Sq.nameErr is i = 0
 ·rw [if_pos hn]
  by_cases hi : (Sq.inr (Sq.bLo is i) (-300) 300 && Sq.inr (Sq.bHi is i) (-300) 300) = true
  ·rw [if_pos hi];simp only [Bool.and_eq_true, inr_iff] at hi
   split <;> omega
  ·rw [if_neg hi];simp only [Bool.and_eq_true, inr_iff] at hi;omega
 ·rw [if_neg hn]; simp [hn]
theorem Xhv {sk is : Dt} : Sq.chkE sk is = 0 ↔ Sq.SchOk sk is := by
 unfold Sq.chkE Sq.check
 by_cases h1 : (!(Sq.inr sk.length 1 5) || decide (6 < (is.length : Int))) = true
 ·rw [if_pos h1];refine ⟨fun h => by simp at h, fun h => ?_⟩;have := h.n1; have := h.n5; have := h.i6;simp [Sq.inr] at h1; omega
 ·rw [if_neg h1];simp only [Bool.or_eq_true, Bool.not_eq_true', decide_eq_true_eq, not_or, Xcq] at h1
  by_cases h2 : Sq.hasE (Sq.skErr sk) 0 sk.length = true
  ·rw [if_pos h2];refine ⟨fun h => absurd h (Xff h2), fun h => ?_⟩;rw [Xfd fun k _ hk => Xga.2 ⟨h.skN k (by omega), h.skG k (by omega), h.skF k (by omega)⟩] at h2;cases h2
  ·rw [if_neg h2]
   by_cases h3 : Sq.hasE (Sq.inErr is) 0 is.length = true
   ·rw [if_pos h3];refine ⟨fun h => absurd h (Xff h3), fun h => ?_⟩;rw [Xfd fun k _ hk => Xgs.2 ⟨h.isN k (by omega), h.isB k (by omega)⟩] at h3;cases h3
   ·rw [if_neg h3];have a2 := fun k (hk : k < sk.length) => Xga.1 (Xdf (Bool.not_eq_true _ ▸ h2) k (by omega) (by omega));have a3 := fun k (hk : k < is.length) => Xgs.1 (Xdf (Bool.not_eq_true _ ▸ h3) k (by omega) (by omega));exact ⟨fun _ => ⟨by omega, by omega, by omega, fun k hk => (a2 k hk).1, fun k hk => (a2 k hk).2.1, fun k hk => (a2 k hk).2.2, fun k hk => (a3 k hk).1, fun k hk => (a3 k hk).2⟩, fun _ => rfl⟩
theorem Xc6 : ∀ (k : Nat) (l cs : List Cl) (j : Nat), (Ymx l k cs).getD j .z = if k <= j /\ j < k + cs.length then cs.getD (j - k) .z else l.getD j .z
 | 0, l, cs, j => by
  simp only [Ymx, Nat.zero_le, true_and, Nat.zero_add, Nat.sub_zero, List.getD_eq_getElem?_getD]
  by_cases h : j < cs.length
  ·rw [if_pos h, List.getElem?_append_left h]
  ·rw [if_neg h, List.getElem?_append_right (by omega), List.getElem?_drop, show cs.length + (j - cs.length) = j by omega]
 | k + 1, l, cs, 0 => by cases l <;> simp [Ymx]
 | k + 1, l, cs, j + 1 => by
  have h := Xc6 k l.tail cs j;simp only [Ymx, List.getD_cons_succ, h, Nat.add_sub_add_right];have e : l.tail.getD j .z = l.getD (j + 1) .z := by cases l <;> simp
  rw [e]
  by_cases c : k <= j /\ j < k + cs.length
  ·rw [if_pos c, if_pos (by omega)]
  ·rw [if_neg c, if_neg (by omega)]
theorem Xcr (xs : Dt) (i j k : Nat) (r : List Cl) : cel (xs.set i r) j k = if i = j /\ i < xs.length then r.getD k .z else cel xs j k := by
 unfold cel;simp only [List.getD_eq_getElem?_getD, List.getElem?_set]
 by_cases h : i = j
 ·subst h
  by_cases h2 : i < xs.length
  ·simp [h2]
  ·simp [h2, List.getElem?_eq_none (Nat.le_of_not_lt h2)]
 ·simp [h]
theorem Xlu {xs : Dt} {i k : Nat} {cs : List Cl} (h : i < xs.length) (j m : Nat) : cel (xs.set i (Ymx (xs.getD i []) k cs)) j m = if i = j /\ k <= m /\ m < k + cs.length then cs.getD (m - k) .z else cel xs j m := by
 rw [Xcr, Xc6]
 by_cases e : i = j
 ·subst e
  by_cases c : k <= m /\ m < k + cs.length
  ·rw [if_pos ⟨rfl, h⟩, if_pos c, if_pos ⟨rfl, c⟩]
  ·rw [if_pos ⟨rfl, h⟩, if_neg c, if_neg (fun x => c x.2)]; rfl
 ·rw [if_neg (fun x => e x.1), if_neg (fun x => e x.1)]
namespace Sq
def errE (f : Nat -> Int) (i n : Nat) : Int := if hasE f i n then f (idxE f i n) else 0
def rgE (rg : Dt) (i : Nat) : Int := spanE (cel rg i 0).int (cel rg i 1).int 0 1000
def rgsE (n : Int) (rg : Dt) : Int := if (rg.length : Int) = n then errE (rgE rg) 0 rg.length else 3
end Sq
theorem Xny {f : Nat -> Int} {i n : Nat} : (f i ≠ 0 -> Sq.errE f i (n + 1) = f i) /\ (f i = 0 -> Sq.errE f i (n + 1) = Sq.errE f (i + 1) n) := by
 unfold Sq.errE;rw [show Sq.hasE f i (n + 1) = (!decide (f i = 0) || Sq.hasE f (i + 1) n) from rfl, show Sq.idxE f i (n + 1) = (if f i = 0 then Sq.idxE f (i + 1) n else i) from rfl];refine ⟨fun e => ?_, fun e => ?_⟩
 ·rw [if_pos (by simp only [e, decide_false, Bool.not_false, Bool.true_or]), if_neg e]
 ·rw [if_pos e, show (!decide (f i = 0) || Sq.hasE f (i + 1) n) = Sq.hasE f (i + 1) n by simp only [e, decide_true, Bool.not_true, Bool.false_or]]
noncomputable def Tf : Tab Tryz.prog := ⟨[Xgf, Xcx, Xrh, Xjr, Xei, Xgg], [], []⟩
theorem Xru {a b : Dt} (h : a.length = b.length) (hj : ∀ j, j < a.length -> a.getD j [] = b.getD j []) : a = b := by
 apply List.ext_getElem h;intro j h1 h2;have := hj j h1;simpa [List.getD_eq_getElem?_getD, List.getElem?_eq_getElem h1, List.getElem?_eq_getElem h2] using this
theorem Xfg {xs : Dt} {i : Nat} {r : List Cl} (j : Nat) : (xs.set i r).getD j [] = if i = j /\ i < xs.length then r else xs.getD j [] := by
 simp only [List.getD_eq_getElem?_getD, List.getElem?_set]
 by_cases h : i = j
 ·subst h
  by_cases h2 : i < xs.length
  ·simp [h2]
  ·simp [h2, List.getElem?_eq_none (Nat.le_of_not_lt h2)]
 ·simp [h]
namespace Sq
def rLo (rg : Dt) (k : Nat) : Int := (cel rg k 0).int
def rHi (rg : Dt) (k : Nat) : Int := (cel rg k 1).int
end Sq
def Xi7 [InW] (e : List Ed) (K : Nat -> List Ed -> Prop) : Prop := match e with
 | [.ro _ rg, .i n, .i i] => Pre (n = (rg.xs.length : Int) /\ 0 <= i /\ i <= n) (Vif (decide (Sq.errE (Sq.rgE rg.xs) i.toNat (rg.xs.length - i.toNat) = 0)) (K 0 []) (K 1 [.i (Sq.errE (Sq.rgE rg.xs) i.toNat (rg.xs.length - i.toNat))]))
 | _ => False
noncomputable def Xkg : LC where
 len := 26
 T := [(14, .rs Jc), (15, .int .i64), (16, .int .i64)]
 H := []
 W := ([4, 6, 7] ++ rgg 17 9)
 outs := [⟨.exit 0, [], [], ([4, 6, 7] ++ rgg 14 12)⟩, ⟨.ret, [(4, .int .i64)], [], ([6, 7] ++ rgg 14 12)⟩]
 spec := Xi7
def Xh9 [W : InW] (rg : Ro Jc) (n i : Int) (A : List Ed -> Prop) (K : Nat -> List Ed -> Prop) : Prop :=
 Vif (decide (i < n)) (Need (decide (0 <= i) && decide (i < (↑(rg.xs.length) : Int))) (Need (decide (i.toNat < rg.xs.length)) (Pre True (Vif (!decide (Sq.spanE (cel rg.xs i.toNat (0 : Nat)).int (cel rg.xs i.toNat (0+1)).int (0 : Int) (1000 : Int) = 0)) (K (0+1) [.i (Sq.spanE (cel rg.xs i.toNat (0 : Nat)).int (cel rg.xs i.toNat (0+1)).int (0 : Int) (1000 : Int))]) (Ar .i64 (i + 1) fun z => A [.ro _ rg, .i n, .i z]))))) (K 0 [])
theorem Xrz (W : InW) (rg n i A K) : Ye9 { cxT Tryz.prog TT Tf 1000 50 with fn := 68 } 1000 (Ynh Tryz.prog 68 5) (Ydy 26 [(14, .rs _ rg), (15, .si .i64 n), (16, .si .i64 i)] ([4, 6, 7] ++ rgg 17 9)) [] (Yth Xkg A K) = Xh9 rg n i A K := by kernel_rfl
def Xjw : Prop := ∀ (W : InW) (body a : Code), (Tryz.prog.funcs[68]?).bind (·.body) = some body -> a ∈ Yw body -> Yfu a = 5 -> @Yma W Tryz.prog a (@Ysp W Xkg)
theorem Xs4 (meas : [InW] -> List Ed -> Nat) (hyp_ : ∀ (W : InW) rg n i K, Xi7 [.ro _ rg, .i n, .i i] K -> ∀ A : List Ed -> Prop, (∀ e, meas e < meas [.ro _ rg, .i n, .i i] -> Xi7 e K -> A e) -> Xh9 rg n i A K) : Xjw :=
 LE.okOf' (fun W => @TT W) (fun W => @Xb W) Xa Tf 1000 50 (by kernel_rfl) Xkg (fun W => @meas W) fun W rg n i K hs =>
  (Xrz W rg n i (fun e => meas e < meas [.ro _ rg, .i n, .i i] /\ Xi7 e K) K).mpr (hyp_ W rg n i K hs _ fun e h1 h2 => ⟨h1, h2⟩)
theorem Xvv : Xjw := Xs4 (fun e => match e with | _ :: .i n :: .i i :: _ => (n - i).toNat | _ => 0) fun W rg n i K hs A hA => by
 obtain ⟨⟨rfl, h0, h1⟩, hk⟩ := hs;unfold Xh9;have hm := rg.len;simp only [maxLen] at hm;simp only [Nat.zero_add, Nat.reduceAdd];refine vifd (fun e => ?_) fun e => ?_
 ·rw [show rg.xs.length - i.toNat = (rg.xs.length - (i.toNat + 1)) + 1 by omega] at hk;have ez : (i + 1).toNat = i.toNat + 1 := by omega
  have st := Xny (f := Sq.rgE rg.xs) (i := i.toNat) (n := rg.xs.length - (i.toNat + 1));have hE : Sq.spanE (cel rg.xs i.toNat 0).int (cel rg.xs i.toNat 1).int 0 1000 = Sq.rgE rg.xs i.toNat := rfl;refine ned (by simp; omega) (nedd (by omega) ⟨trivial, ?_⟩);rw [hE];refine vifn (fun e2 => ?_) fun e2 => ar64 (by omega) (hA _ (by show ((rg.xs.length : Int) - (i + 1)).toNat < ((rg.xs.length : Int) - i).toNat; omega) ⟨⟨rfl, by omega, by omega⟩, by rw [ez, <- st.2 e2]; exact hk⟩);rw [st.1 e2] at hk;exact hk.2 (by simp [e2])
 ·rw [show rg.xs.length - i.toNat = 0 by omega] at hk;exact hk.1 rfl
noncomputable def Xwj : LE Tryz.prog := ⟨68, 5, fun W => @Ysp W Xkg, Xvv⟩
noncomputable def Tl : Tab Tryz.prog := ⟨Tf.pcs, [Xwj], []⟩
def Xd3 [W : InW] (s_Skills : Ro Ja) (s_Instrs : Ro Jb) (rg : Ro Jc) (Q : DS -> Prop) : Prop :=
 Vif (!decide ((↑(rg.xs.length) : Int) = (↑(s_Skills.xs.length) : Int))) (Q [[Cl.i 3]]) (Pre ((↑(rg.xs.length) : Int) = (↑(rg.xs.length) : Int) /\ Ze <= 0 /\ Ze <= (↑(rg.xs.length) : Int)) (Vif (decide (Sq.errE (Sq.rgE rg.xs) (Int.toNat Ze) (rg.xs.length - Int.toNat Ze) = 0)) (Q [[Cl.i 0]]) (Q [[Cl.i (Sq.errE (Sq.rgE rg.xs) (Int.toNat Ze) (rg.xs.length - Int.toNat Ze))]])))
theorem Xlz (W : InW) (s_Skills s_Instrs rg Q) : Yvp (cxT Tryz.prog TT Tl 1000 50) 1000 68 [.agg [.rs _ s_Skills, .rs _ s_Instrs], .rs _ rg] [] 0 (Yzq [(false, [.int .i64])] Q) (fun _ _ _ _ => Stuck 421) = Xd3 s_Skills s_Instrs rg Q := by kernel_rfl
abbrev Xcz : List AT := [.agg [.sl Ja, .sl Jb], .one (.sl Jc)]
theorem Xm6 {pre : DS -> Prop} {res : DS -> DS} (hyp_ : ∀ (W : InW) (s_Skills : Ro Ja) (s_Instrs : Ro Jb) (rg : Ro Jc), pre [[.l s_Skills.xs, .l s_Instrs.xs], [.l rg.xs]] -> ∀ Q : DS -> Prop, Q (res [[.l s_Skills.xs, .l s_Instrs.xs], [.l rg.xs]]) -> Xd3 s_Skills s_Instrs rg Q) : PureOk Tryz.prog 68 Xcz [(false, [.int .i64])] pre res :=
 PureOk.of' (fun W => @TT W) (fun W => @Xb W) Xa Tl 1000 50 fun W s_Skills s_Instrs rg hp =>
  (Xlz W s_Skills s_Instrs rg (fun o => o = res [[.l s_Skills.xs, .l s_Instrs.xs], [.l rg.xs]])).mpr (hyp_ W s_Skills s_Instrs rg hp _ rfl)
abbrev Xcu (ds : DS) : DS := match ds with | [[.l sk, _], [.l rg]] => [[.i (Sq.rgsE sk.length rg)]] | _ => []
theorem Xps : PureOk Tryz.prog 68 Xcz [(false, [.int .i64])] (fun _ => True) Xcu :=
 Xm6 fun W sk is rg _ Q h => by
  unfold Xd3;delta Ze;simp only [Xcu, Sq.rgsE] at h;simp only [show Int.toNat 0 = 0 from rfl, Nat.sub_zero]
  repeat' (first | omega|intro _|with_reducible first|apply vifd|apply vifn|apply vifq|apply vifq0|apply vifq1|apply vifb|apply vif|apply nedd|apply ned2|apply ned|apply ar64|apply X2|exact True.intro|assumption|rfl|apply And.intro)
  all_goals ((repeat' split at h) <;> first | exact h | omega | (simp_all; done) | (simp_all; omega))
noncomputable def Xmr : PC Tryz.prog := ⟨68, Xcz, [(false, [.int .i64])], fun _ => True, Xcu, Xps⟩
namespace Sq
def RgOk (rg : Dt) : Prop := ∀ i, i < rg.length -> 0 <= rLo rg i /\ rLo rg i <= rHi rg i /\ rHi rg i <= 1000
end Sq
theorem Xur {f : Nat -> Int} {n : Nat} (h : Sq.errE f 0 n = 0) : ∀ k, k < n -> f k = 0 := by
 unfold Sq.errE at h
 by_cases e : Sq.hasE f 0 n = true
 ·rw [if_pos e] at h; exact absurd h (Xff e)
 ·exact fun k hk => Xdf (Bool.not_eq_true _ ▸ e) k (by omega) (by omega)
theorem Xuq {f : Nat -> Int} {n : Nat} (h : ∀ k, k < n -> f k = 0) : Sq.errE f 0 n = 0 := by
 unfold Sq.errE;rw [Xfd fun k _ hk => h k (by omega)];rfl
theorem Xmn {rg : Dt} {i : Nat} : Sq.rgE rg i = 0 ↔ 0 <= Sq.rLo rg i /\ Sq.rLo rg i <= Sq.rHi rg i /\ Sq.rHi rg i <= 1000 := by
 unfold Sq.rgE Sq.spanE;rw [show (cel rg i 0).int = Sq.rLo rg i from rfl, show (cel rg i 1).int = Sq.rHi rg i from rfl]
 by_cases h : (Sq.inr (Sq.rLo rg i) 0 1000 && Sq.inr (Sq.rHi rg i) 0 1000) = true
 ·rw [if_pos h];simp only [Bool.and_eq_true, inr_iff] at h
  split <;> omega
 ·rw [if_neg h];simp only [Bool.and_eq_true, inr_iff] at h;omega
theorem Xmm {n : Nat} {rg : Dt} : Sq.rgsE n rg = 0 ↔ rg.length = n /\ Sq.RgOk rg := by
 unfold Sq.rgsE
 by_cases h : (rg.length : Int) = n
 ·rw [if_pos h];exact ⟨fun e => ⟨by omega, fun i hi => Xmn.1 (Xur e i hi)⟩, fun e => Xuq fun k hk => Xmn.2 (e.2 k hk)⟩
 ·rw [if_neg h];exact ⟨fun e => by omega, fun e => by omega⟩
theorem Xbx [InW] {p q : Prop} {_ : Decidable p} {_ : Decidable q} {A : Prop} (h : p /\ q) (h2 : A) : Need (decide p && decide q) A := ⟨by simp [h.1, h.2], h2⟩
namespace Sq
def evW (ev : Dt) (i : Nat) : Int := (cel ev i 0).int
def evK (ev : Dt) (i : Nat) : Int := (cel ev i 1).int
def evS (ev : Dt) (i : Nat) : Int := (cel ev i 2).int
def evI (ev : Dt) (i : Nat) : Int := (cel ev i 3).int
def evM (ev : Dt) (i : Nat) : Int := (cel ev i 4).int
def fdLo (sk rg : Dt) (k : Int) (i : Nat) : Int := max 0 (rLo rg i - fHi sk i * k)
def fdHi (sk rg : Dt) (k : Int) (i : Nat) : Int := max 0 (rHi rg i - fLo sk i * k)
def fadF (sk rg : Dt) (k : Int) (i : Nat) : Dt := (List.range rg.length).map fun j => if j < i then rg.getD j [] else [.i (fdLo sk rg k j), .i (fdHi sk rg k j)]
def fadeD (sk rg : Dt) (k : Int) : Dt := fadF sk rg k 0
def Two (rg : Dt) : Prop := ∀ i, i < rg.length -> ∃ a b, rg.getD i [] = [.i a, .i b]
def FdOk (sk : Dt) : Prop := ∀ i, i < sk.length -> 0 <= fLo sk i /\ fLo sk i <= fHi sk i /\ fHi sk i <= 1000
end Sq
noncomputable def Tp0 : Tab Tryz.prog := ⟨[], [], []⟩
def Xpj [InW] (e : List Ed) (K : Nat -> List Ed -> Prop) : Prop := match e with
 | [.ro _ sk2, .i n, .i i, .i w, .ro _ sk, .ro _ is, .i wk, .l rg] => Pre (sk2.xs = sk.xs /\ n = (sk.xs.length : Int) /\ rg.length = sk.xs.length /\ 0 <= i /\ i <= n /\ Sq.FdOk sk.xs /\ 0 <= w - wk /\ -100000 <= wk /\ w <= 100000 /\ Sq.RgOk rg /\ Sq.Two rg) (K 0 [.i w, .ro _ sk, .ro _ is, .i wk, .l (Sq.fadF sk.xs rg (w - wk) i.toNat)])
 | _ => False
noncomputable def Xqz : LC where
 len := 48
 T := [(2, (.ptr 4 0)), (3, (.ptr 7 0)), (11, .rs Ja), (12, .int .i64), (13, .int .i64)]
 H := [(4, .blk 107 [(.ptr 1 0)]), (7, .blk 3 [.int .i64]), (1, .blk 112 [.rs Ja, .rs Jb, (.row 6), .int .i64]), (6, .arr 29 Jc)]
 W := ([4, 5, 6] ++ rgg 14 30)
 outs := [⟨.exit 0, [(2, (.ptr 4 0)), (3, (.ptr 7 0))], [(4, .blk 107 [(.ptr 1 0)]), (7, .blk 3 [.int .i64]), (1, .blk 112 [.rs Ja, .rs Jb, (.row 12), .int .i64]), (12, .arr 29 Jc)], ([4, 5, 6] ++ rgg 11 33)⟩]
 spec := Xpj
def Xog [W : InW] (sk2 : Ro Ja) (n i w : Int) (sk : Ro Ja) (is : Ro Jb) (wk : Int) (rg : Dt) (A : List Ed -> Prop) (K : Nat -> List Ed -> Prop) : Prop :=
 Vif (decide (i < n)) (Need (decide (0 <= i) && decide (i < (↑(sk2.xs.length) : Int))) (Need (decide (i.toNat < sk2.xs.length)) (Need (decide (0 <= i) && decide (i < (↑(rg.length) : Int))) (Need (decide (i.toNat < rg.length)) (Ar .i64 (w - wk) fun z => Ar .i64 ((cel sk2.xs i.toNat (Zh + 1 + 1 + 1 + 1)).int * z) fun z => Ar .i64 ((cel rg i.toNat Zh).int - z) fun z => Need (decide (i.toNat < rg.length)) (Need (decide (0 <= i) && decide (i < (↑(List.set rg i.toNat (Ymx (List.getD rg i.toNat []) Zh [Cl.i (max Ze z)])).length : Int))) (Need (decide (i.toNat < (List.set rg i.toNat (Ymx (List.getD rg i.toNat []) Zh [Cl.i (max Ze z)])).length)) (Ar .i64 (w - wk) fun z_1 => Ar .i64 ((cel sk2.xs i.toNat (Zh + 1 + 1 + 1)).int * z_1) fun z_2 => Ar .i64 ((cel (List.set rg i.toNat (Ymx (List.getD rg i.toNat []) Zh [Cl.i (max Ze z)])) i.toNat (0+1)).int - z_2) fun z_3 => Need (decide (i.toNat < (List.set rg i.toNat (Ymx (List.getD rg i.toNat []) Zh [Cl.i (max Ze z)])).length)) (Ar .i64 (i + 1) fun z_4 => A [.ro _ sk2, .i n, .i z_4, .i w, .ro _ sk, .ro _ is, .i wk, .l ((List.set rg i.toNat (Ymx (List.getD rg i.toNat []) Zh [Cl.i (max Ze z)])).set i.toNat (Ymx ((List.set rg i.toNat (Ymx (List.getD rg i.toNat []) Zh [Cl.i (max Ze z)])).getD i.toNat []) (0+1) [Cl.i (max Ze z_3)]))]))))))))) (K 0 [.i w, .ro _ sk, .ro _ is, .i wk, .l rg])
theorem Xuw (W : InW) (sk2 n i w sk is wk rg A K) : Ye9 { cxT Tryz.prog TT Tp0 1000 50 with fn := 44 } 1000 (Ynh Tryz.prog 44 3) (Ydy 48 [(2, .ptr 4 0), (3, .ptr 7 0), (11, .rs _ sk2), (12, .si .i64 n), (13, .si .i64 i)] ([4, 5, 6] ++ rgg 14 30)) [(4, .blk 107 [.ptr 1 0]), (7, .blk 3 [.si .i64 w]), (1, .blk 112 [.rs _ sk, .rs _ is, .rw 6, .si .i64 wk]), (6, .arr 29 Jc rg)] (Yth Xqz A K) = Xog sk2 n i w sk is wk rg A K := by kernel_rfl
def Xnl : Prop := ∀ (W : InW) (body a : Code), (Tryz.prog.funcs[44]?).bind (·.body) = some body -> a ∈ Yw body -> Yfu a = 3 -> @Yma W Tryz.prog a (@Ysp W Xqz)
theorem Xvf (meas : [InW] -> List Ed -> Nat) (hyp_ : ∀ (W : InW) sk2 n i w sk is wk rg K, Xpj [.ro _ sk2, .i n, .i i, .i w, .ro _ sk, .ro _ is, .i wk, .l rg] K -> ∀ A : List Ed -> Prop, (∀ e, meas e < meas [.ro _ sk2, .i n, .i i, .i w, .ro _ sk, .ro _ is, .i wk, .l rg] -> Xpj e K -> A e) -> Xog sk2 n i w sk is wk rg A K) : Xnl :=
 LE.okOf' (fun W => @TT W) (fun W => @Xb W) Xa Tp0 1000 50 (by kernel_rfl) Xqz (fun W => @meas W) fun W sk2 n i w sk is wk rg K hs =>
  (Xuw W sk2 n i w sk is wk rg (fun e => meas e < meas [.ro _ sk2, .i n, .i i, .i w, .ro _ sk, .ro _ is, .i wk, .l rg] /\ Xpj e K) K).mpr (hyp_ W sk2 n i w sk is wk rg K hs _ fun e h1 h2 => ⟨h1, h2⟩)
theorem Xdo (sk rg : Dt) (k : Int) (i : Nat) : (Sq.fadF sk rg k i).length = rg.length := by simp [Sq.fadF]
theorem Xdp {sk rg : Dt} {k : Int} {i j : Nat} (h : j < rg.length) : (Sq.fadF sk rg k i).getD j [] = if j < i then rg.getD j [] else [.i (Sq.fdLo sk rg k j), .i (Sq.fdHi sk rg k j)] := by
 simp [Sq.fadF, List.getD_eq_getElem?_getD, List.getElem?_range h]
theorem Xup {sk rg : Dt} {k : Int} : Sq.fadF sk rg k rg.length = rg :=
 Xru (Xdo _ _ _ _) fun j hj => by
  rw [Xdo] at hj;rw [Xdp hj, if_pos hj]
theorem Xgb {rg : Dt} {i j : Nat} {a b : Int} (h : i < rg.length) : Sq.rLo (rg.set i [.i a, .i b]) j = (if i = j then a else Sq.rLo rg j) /\ Sq.rHi (rg.set i [.i a, .i b]) j = (if i = j then b else Sq.rHi rg j) := by
 unfold Sq.rLo Sq.rHi;rw [Xcr, Xcr]
 by_cases e : i = j
 ·rw [if_pos ⟨e, h⟩, if_pos e, if_pos ⟨e, h⟩, if_pos e]; exact ⟨rfl, rfl⟩
 ·rw [if_neg (fun x => e x.1), if_neg e, if_neg (fun x => e x.1), if_neg e]; exact ⟨rfl, rfl⟩
theorem Xq2 {sk rg : Dt} {k : Int} {i : Nat} (h : i < rg.length) : Sq.fadF sk (rg.set i [.i (Sq.fdLo sk rg k i), .i (Sq.fdHi sk rg k i)]) k (i + 1) = Sq.fadF sk rg k i :=
 Xru (by simp [Xdo]) fun j hj => by
  rw [Xdo, List.length_set] at hj;rw [Xdp (by simpa using hj), Xdp hj, Xfg];unfold Sq.fdLo Sq.fdHi;rw [(Xgb h).1, (Xgb h).2]
  by_cases e : i = j
  ·subst e;rw [if_pos (show i < i + 1 by omega), if_pos ⟨rfl, h⟩, if_neg (show ¬ i < i by omega)]
  ·rw [if_neg e, if_neg e, if_neg (show ¬ (i = j /\ i < rg.length) from fun x => e x.1)]
   by_cases c : j < i
   ·rw [if_pos (show j < i + 1 by omega), if_pos c]
   ·rw [if_neg (show ¬ j < i + 1 by omega), if_neg c]
theorem Xme {rg : Dt} {i : Nat} {a b : Int} (h : Sq.Two rg) : Sq.Two (rg.set i [.i a, .i b]) := fun j hj => by
 rw [Xfg]
 split
 ·exact ⟨a, b, rfl⟩
 ·exact h j (by simpa using hj)
theorem Xjp {rg : Dt} {i : Nat} {a b : Int} (h : Sq.RgOk rg) (hi : i < rg.length) (h0 : 0 <= a) (h1 : a <= b) (h2 : b <= 1000) : Sq.RgOk (rg.set i [.i a, .i b]) := fun j hj => by
 rw [(Xgb hi).1, (Xgb hi).2];have := h j (by simpa using hj)
 split <;> omega
theorem Xwy {sk rg : Dt} {k : Int} {j : Nat} (hR : Sq.RgOk rg) (hF : Sq.FdOk sk) (hk : 0 <= k) (h1 : j < rg.length) (h2 : j < sk.length) : 0 <= Sq.fdLo sk rg k j /\ Sq.fdLo sk rg k j <= Sq.fdHi sk rg k j /\ Sq.fdHi sk rg k j <= 1000 /\ 0 <= Sq.fHi sk j * k /\ Sq.fHi sk j * k <= 1000 * k /\ 0 <= Sq.fLo sk j * k /\ Sq.fLo sk j * k <= 1000 * k := by
 have a := hR j h1;have b := hF j h2;have c := Int.mul_le_mul_of_nonneg_right b.2.1 hk;have d := Int.mul_nonneg b.1 hk;have e := Int.mul_le_mul_of_nonneg_right b.2.2 hk;unfold Sq.fdLo Sq.fdHi;omega
theorem Xhh {rg : Dt} {i : Nat} {a b : Int} (h : Sq.Two rg) (hi : i < rg.length) : (rg.set i (Ymx (rg.getD i []) 0 [.i a])).set i (Ymx ((rg.set i (Ymx (rg.getD i []) 0 [.i a])).getD i []) 1 [.i b]) = rg.set i [.i a, .i b] := by
 obtain ⟨x, y, e⟩ := h i hi;rw [List.set_set, Xfg, if_pos ⟨rfl, hi⟩, e];rfl
theorem Xut {rg : Dt} {i : Nat} {a : Int} (hi : i < rg.length) : (cel (rg.set i (Ymx (rg.getD i []) 0 [.i a])) i 1).int = Sq.rHi rg i := by
 rw [Xlu hi, if_neg (by simp)];rfl
theorem okLwt : Xnl := Xvf (fun e => match e with | _ :: .i n :: .i i :: _ => (n - i).toNat | _ => 0) fun W sk2 n i w sk is wk rg K hs A hA => by
 obtain ⟨⟨e2, rfl, hl, h0, h1, hF, hk0, w0, w1, hR, hT⟩, hk⟩ := hs;unfold Xog;delta Ze Zh;rw [e2];have hm := sk.len;simp only [maxLen] at hm;refine vifd (fun e => ?_) fun e => ?_
 ·have e1 : (i + 1).toNat = i.toNat + 1 := by omega
  have hi : i.toNat < rg.length := by omega
  have hb := Xwy hR hF hk0 hi (by omega);have hr := hR i.toNat hi;have hA' := hA [.ro _ sk2, .i sk.xs.length, .i (i + 1), .i w, .ro _ sk, .ro _ is, .i wk, .l (rg.set i.toNat [.i (Sq.fdLo sk.xs rg (w - wk) i.toNat), .i (Sq.fdHi sk.xs rg (w - wk) i.toNat)])] (by show ((sk.xs.length : Int) - (i + 1)).toNat < ((sk.xs.length : Int) - i).toNat; omega) ⟨⟨e2, rfl, by simpa using hl, by omega, by omega, hF, hk0, w0, w1, Xjp hR hi hb.1 hb.2.1 hb.2.2.1, Xme hT⟩, by
   rw [e1, Xq2 hi];exact hk⟩
  rw [<- Xhh hT hi] at hA';unfold Sq.fdLo Sq.fdHi at hA' hb;unfold Sq.rLo Sq.rHi at hr;clear hA hk hF hR hT;simp only [Nat.zero_add, Nat.reduceAdd, Xut hi, List.length_set];unfold Sq.fHi Sq.fLo Sq.rLo Sq.rHi at *;refine Xbx (by omega) (nedd (by omega) (Xbx (by omega) (nedd (by omega) (ar64 (by omega) (ar64 (by omega) (ar64 (by omega) (nedd (by omega) (Xbx (by omega) (nedd (by omega) (ar64 (by omega) (ar64 (by omega) (ar64 (by omega) (nedd (by omega) (ar64 (by omega) hA'))))))))))))))
 ·rw [show i.toNat = rg.length by omega, Xup] at hk;exact hk
noncomputable def le_wt : LE Tryz.prog := ⟨44, 3, fun W => @Ysp W Xqz, okLwt⟩
noncomputable def Tp1 : Tab Tryz.prog := ⟨[], [le_wt], []⟩
def Xmf [InW] (e : List Ed) (K : Nat -> List Ed -> Prop) : Prop := match e with
 | [.i w, .ro _ sk, .ro _ is, .i wk, .l rg] => Pre (rg.length = sk.xs.length /\ Sq.FdOk sk.xs /\ wk <= w /\ -100000 <= wk /\ w <= 100000 /\ Sq.RgOk rg /\ Sq.Two rg) (K 0 [.ro _ sk, .ro _ is, .i w, .l (Sq.fadeD sk.xs rg (w - wk))])
 | _ => False
noncomputable def Xb3 : CC where
 g := 44
 args := [(.ptr 1 0), .int .i64]
 H := [(1, .blk 112 [.rs Ja, .rs Jb, (.row 6), .int .i64]), (6, .arr 29 Jc)]
 outs := [⟨false, .tup [], [(1, .blk 112 [.rs Ja, .rs Jb, (.row 12), .int .i64]), (12, .arr 29 Jc)], false⟩]
 spec := Xmf
def Xf2 [W : InW] (w : Int) (sk : Ro Ja) (is : Ro Jb) (wk : Int) (rg : Dt) (K : Nat -> List Ed -> Prop) : Prop :=
 Pre (sk.xs = sk.xs /\ (↑(sk.xs.length) : Int) = (↑(sk.xs.length) : Int) /\ rg.length = sk.xs.length /\ Ze <= 0 /\ Ze <= (↑(sk.xs.length) : Int) /\ Sq.FdOk sk.xs /\ 0 <= w - wk /\ (-100000 : Int) <= wk /\ w <= 100000 /\ Sq.RgOk rg /\ Sq.Two rg) (K 0 [.ro _ sk, .ro _ is, .i w, .l (Sq.fadF sk.xs rg (w - wk) (Int.toNat Ze))])
theorem Xot (W : InW) (w sk is wk rg K) : Yvm (cxT Tryz.prog TT Tp1 1000 50) 1000 44 [.ptr 1 0, .si .i64 w] [(1, .blk 112 [.rs _ sk, .rs _ is, .rw 6, .si .i64 wk]), (6, .arr 29 Jc rg)] (fun v h => outC Xb3.H [.ro _ sk, .ro _ is, .i wk, .l rg] Xb3.outs 0 false v h K) (fun v h => outC Xb3.H [.ro _ sk, .ro _ is, .i wk, .l rg] Xb3.outs 0 true v h K) = Xf2 w sk is wk rg K := by kernel_rfl
theorem Xp5 (hyp_ : ∀ (W : InW) w sk is wk rg K, Xmf [.i w, .ro _ sk, .ro _ is, .i wk, .l rg] K -> Xf2 w sk is wk rg K) : ∀ W : InW, @CallC W Tryz.prog Xb3 :=
 CC.okOf (fun W => @TT W) (fun W => @Xb W) Xa Tp1 1000 50 Xb3 fun W w sk is wk rg K hs => (Xot W w sk is wk rg K).mpr (hyp_ W w sk is wk rg K hs)
theorem Xno : ∀ W : InW, @CallC W Tryz.prog Xb3 := Xp5 fun W w sk is wk rg K hs => by
 obtain ⟨⟨hl, hF, h0, h1, h2, hR, hT⟩, hk⟩ := hs;unfold Xf2;delta Ze;exact ⟨⟨rfl, rfl, hl, by omega, by omega, hF, by omega, h1, h2, hR, hT⟩, hk⟩
namespace Sq
def hpLo (sk is rg ev : Dt) (i : Nat) : Int := if evK ev i = 0 then lev (rLo rg (evS ev i).toNat + gLo sk (evS ev i).toNat) else max (rLo rg (evS ev i).toNat) (bhLo (bHi is (evI ev i).toNat) (evM ev i))
def hpHi (sk is rg ev : Dt) (i : Nat) : Int := if evK ev i = 0 then lev (rHi rg (evS ev i).toNat + gHi sk (evS ev i).toNat) else min (rHi rg (evS ev i).toNat) (bhHi (bLo is (evI ev i).toNat) (evM ev i))
def hpD (sk is rg ev : Dt) (i : Nat) : Dt := rg.set (evS ev i).toNat [.i (hpLo sk is rg ev i), .i (hpHi sk is rg ev i)]
def lvS (sk is ev : Dt) : Nat -> Nat -> Int -> Dt -> Bool × Int × Dt
 | 0, _, w, rg => (true, w, rg)
 | n + 1, i, w, rg => if hpHi sk is (fadeD sk rg (evW ev i - w)) ev i < hpLo sk is (fadeD sk rg (evW ev i - w)) ev i then (false, evW ev i, hpD sk is (fadeD sk rg (evW ev i - w)) ev i) else lvS sk is ev n (i + 1) (evW ev i) (hpD sk is (fadeD sk rg (evW ev i - w)) ev i)
structure EvOk (sk is ev : Dt) : Prop where
 l60 : ev.length <= 60
 wk : ∀ i, i < ev.length -> 0 <= evW ev i /\ evW ev i <= 200
 up : ∀ i, i + 1 < ev.length -> evW ev i <= evW ev (i + 1)
 kd : ∀ i, i < ev.length -> evK ev i = 0 \/ evK ev i = 1
 sk : ∀ i, i < ev.length -> 0 <= evS ev i /\ evS ev i < sk.length
 is : ∀ i, i < ev.length -> evK ev i = 1 -> 0 <= evI ev i /\ evI ev i < is.length /\ 0 <= evM ev i /\ evM ev i <= 1000
end Sq
noncomputable def Tq : Tab Tryz.prog := ⟨[Xri, Xms], [], []⟩
def Xq5 [InW] (e : List Ed) (K : Nat -> List Ed -> Prop) : Prop := match e with
 | [.i ew, .i ek, .i es, .i ei, .i em, .ro _ sk, .ro _ is, .i wk, .l rg] => Pre (0 <= es /\ es < sk.xs.length /\ rg.length = sk.xs.length /\ Sq.SchOk sk.xs is.xs /\ Sq.RgOk rg /\ Sq.Two rg) (K 0 [.ro _ sk, .ro _ is, .i wk, .l (rg.set es.toNat [.i (Sq.lev (Sq.rLo rg es.toNat + Sq.gLo sk.xs es.toNat)), .i (Sq.lev (Sq.rHi rg es.toNat + Sq.gHi sk.xs es.toNat))])])
 | _ => False
noncomputable def Xc7 : CC where
 g := 73
 args := [(.ptr 1 0), .agg [.int .i64, .int .i64, .int .i64, .int .i64, .int .i64]]
 H := [(1, .blk 112 [.rs Ja, .rs Jb, (.row 6), .int .i64]), (6, .arr 29 Jc)]
 outs := [⟨false, .tup [], [(1, .blk 112 [.rs Ja, .rs Jb, (.row 12), .int .i64]), (12, .arr 29 Jc)], false⟩]
 spec := Xq5
def Xiq [W : InW] (ew ek es ei em : Int) (sk : Ro Ja) (is : Ro Jb) (wk : Int) (rg : Dt) (K : Nat -> List Ed -> Prop) : Prop :=
 Need (decide (0 <= es) && decide (es < (↑(rg.length) : Int))) (Need (decide (0 <= es) && decide (es < (↑(sk.xs.length) : Int))) (Need (decide (es.toNat < sk.xs.length)) (Need (decide (es.toNat < rg.length)) (Ar .i64 ((cel rg es.toNat Zh).int + (cel sk.xs es.toNat (0+1)).int) fun z => Pre True (Need (decide (es.toNat < rg.length)) (Ar .i64 ((cel rg es.toNat (0+1)).int + (cel sk.xs es.toNat (Zh + 1 + 1)).int) fun z_1 => Pre True (Need (decide (es.toNat < rg.length)) (Need (decide (es.toNat < (List.set rg es.toNat (Ymx (List.getD rg es.toNat []) Zh [Cl.i (Sq.lev z)])).length)) (K 0 [.ro _ sk, .ro _ is, .i wk, .l ((List.set rg es.toNat (Ymx (List.getD rg es.toNat []) Zh [Cl.i (Sq.lev z)])).set es.toNat (Ymx ((List.set rg es.toNat (Ymx (List.getD rg es.toNat []) Zh [Cl.i (Sq.lev z)])).getD es.toNat []) (0+1) [Cl.i (Sq.lev z_1)]))])))))))))
theorem Xsg (W : InW) (ew ek es ei em sk is wk rg K) : Yvm (cxT Tryz.prog TT Tq 1000 50) 1000 73 [.ptr 1 0, .agg [.si .i64 ew, .si .i64 ek, .si .i64 es, .si .i64 ei, .si .i64 em]] [(1, .blk 112 [.rs _ sk, .rs _ is, .rw 6, .si .i64 wk]), (6, .arr 29 Jc rg)] (fun v h => outC Xc7.H [.ro _ sk, .ro _ is, .i wk, .l rg] Xc7.outs 0 false v h K) (fun v h => outC Xc7.H [.ro _ sk, .ro _ is, .i wk, .l rg] Xc7.outs 0 true v h K) = Xiq ew ek es ei em sk is wk rg K := by kernel_rfl
theorem Xtl (hyp_ : ∀ (W : InW) ew ek es ei em sk is wk rg K, Xq5 [.i ew, .i ek, .i es, .i ei, .i em, .ro _ sk, .ro _ is, .i wk, .l rg] K -> Xiq ew ek es ei em sk is wk rg K) : ∀ W : InW, @CallC W Tryz.prog Xc7 :=
 CC.okOf (fun W => @TT W) (fun W => @Xb W) Xa Tq 1000 50 Xc7 fun W ew ek es ei em sk is wk rg K hs => (Xsg W ew ek es ei em sk is wk rg K).mpr (hyp_ W ew ek es ei em sk is wk rg K hs)
def Xq6 [InW] (e : List Ed) (K : Nat -> List Ed -> Prop) : Prop := match e with
 | [.i ew, .i ek, .i es, .i ei, .i em, .ro _ sk, .ro _ is, .i wk, .l rg] => Pre (0 <= es /\ es < sk.xs.length /\ 0 <= ei /\ ei < is.xs.length /\ 0 <= em /\ em <= 1000 /\ rg.length = sk.xs.length /\ Sq.SchOk sk.xs is.xs /\ Sq.Two rg)
  (Vif (decide (min (Sq.rHi rg es.toNat) (Sq.bhHi (Sq.bLo is.xs ei.toNat) em) < max (Sq.rLo rg es.toNat) (Sq.bhLo (Sq.bHi is.xs ei.toNat) em)))
   (K 1 [.ro _ sk, .ro _ is, .i wk, .l (rg.set es.toNat [.i (max (Sq.rLo rg es.toNat) (Sq.bhLo (Sq.bHi is.xs ei.toNat) em)), .i (min (Sq.rHi rg es.toNat) (Sq.bhHi (Sq.bLo is.xs ei.toNat) em))])])
   (K 0 [.ro _ sk, .ro _ is, .i wk, .l (rg.set es.toNat [.i (max (Sq.rLo rg es.toNat) (Sq.bhLo (Sq.bHi is.xs ei.toNat) em)), .i (min (Sq.rHi rg es.toNat) (Sq.bhHi (Sq.bLo is.xs ei.toNat) em))])]))
 | _ => False
noncomputable def Xc8 : CC where
 g := 74
 args := [(.ptr 1 0), .agg [.int .i64, .int .i64, .int .i64, .int .i64, .int .i64]]
 H := [(1, .blk 112 [.rs Ja, .rs Jb, (.row 6), .int .i64]), (6, .arr 29 Jc)]
 outs := [⟨false, .tup [], [(1, .blk 112 [.rs Ja, .rs Jb, (.row 12), .int .i64]), (12, .arr 29 Jc)], false⟩, ⟨true, (.lit (.iface 41 (.int .i64 9))), [(1, .blk 112 [.rs Ja, .rs Jb, (.row 12), .int .i64]), (12, .arr 29 Jc)], false⟩]
 spec := Xq6
def Zl [W : InW] (es ei em : Int) (is : Ro Jb) (rg : Dt) := List.set rg es.toNat (Ymx (List.getD rg es.toNat []) Zh [Cl.i (max (cel rg es.toNat Zh).int (Sq.bhLo (cel is.xs ei.toNat (Zh + 1 + 1)).int em))])
def Zk [W : InW] (es ei em : Int) (is : Ro Jb) (rg : Dt) := (Zl es ei em is rg).set es.toNat (Ymx ((Zl es ei em is rg).getD es.toNat []) (0+1) [Cl.i (min (cel rg es.toNat (0+1)).int (Sq.bhHi (cel is.xs ei.toNat (0+1)).int em))])
def Xir [W : InW] (ew ek es ei em : Int) (sk : Ro Ja) (is : Ro Jb) (wk : Int) (rg : Dt) (K : Nat -> List Ed -> Prop) : Prop :=
 Need (decide (0 <= es) && decide (es < (↑(rg.length) : Int))) (Need (decide (0 <= ei) && decide (ei < (↑(is.xs.length) : Int))) (Need (decide (ei.toNat < is.xs.length)) (Pre (Sq.Small (cel is.xs ei.toNat (0+1)).int /\ Sq.Small (cel is.xs ei.toNat (Zh + 1 + 1)).int /\ Sq.Small em) (Need (decide (es.toNat < rg.length)) (Need (decide (es.toNat < rg.length)) (Need (decide (es.toNat < rg.length)) (Need (decide (es.toNat < (Zl es ei em is rg).length)) (Need (decide (es.toNat < (Zk es ei em is rg).length)) (Need (decide (es.toNat < (Zk es ei em is rg).length)) (Vif (decide ((cel (Zk es ei em is rg) es.toNat (0+1)).int < (cel (Zk es ei em is rg) es.toNat Zh).int)) (K (0+1) [.ro _ sk, .ro _ is, .i wk, .l (Zk es ei em is rg)]) (K 0 [.ro _ sk, .ro _ is, .i wk, .l (Zk es ei em is rg)])))))))))))
theorem Xsh (W : InW) (ew ek es ei em sk is wk rg K) : Yvm (cxT Tryz.prog TT Tq 1000 50) 1000 74 [.ptr 1 0, .agg [.si .i64 ew, .si .i64 ek, .si .i64 es, .si .i64 ei, .si .i64 em]] [(1, .blk 112 [.rs _ sk, .rs _ is, .rw 6, .si .i64 wk]), (6, .arr 29 Jc rg)] (fun v h => outC Xc8.H [.ro _ sk, .ro _ is, .i wk, .l rg] Xc8.outs 0 false v h K) (fun v h => outC Xc8.H [.ro _ sk, .ro _ is, .i wk, .l rg] Xc8.outs 0 true v h K) = Xir ew ek es ei em sk is wk rg K := by kernel_rfl
theorem Xtm (hyp_ : ∀ (W : InW) ew ek es ei em sk is wk rg K, Xq6 [.i ew, .i ek, .i es, .i ei, .i em, .ro _ sk, .ro _ is, .i wk, .l rg] K -> Xir ew ek es ei em sk is wk rg K) : ∀ W : InW, @CallC W Tryz.prog Xc8 :=
 CC.okOf (fun W => @TT W) (fun W => @Xb W) Xa Tq 1000 50 Xc8 fun W ew ek es ei em sk is wk rg K hs => (Xsh W ew ek es ei em sk is wk rg K).mpr (hyp_ W ew ek es ei em sk is wk rg K hs)
theorem Xw1 {rg : Dt} {i : Nat} {a b : Int} (hi : i < rg.length) : (cel (rg.set i [.i a, .i b]) i 0).int = a := by rw [Xcr, if_pos ⟨rfl, hi⟩]; rfl
theorem Xw0 {rg : Dt} {i : Nat} {a b : Int} (hi : i < rg.length) : (cel (rg.set i [.i a, .i b]) i 1).int = b := by rw [Xcr, if_pos ⟨rfl, hi⟩]; rfl
theorem Xwc : ∀ W : InW, @CallC W Tryz.prog Xc7 := Xtl fun W ew ek es ei em sk is wk rg K hs => by
 obtain ⟨⟨h0, h1, hl, hS, hR, hT⟩, hk⟩ := hs;unfold Xiq;delta Zh;have hi : es.toNat < rg.length := by omega
 have hg := hS.skG es.toNat (by omega);have hr := hR es.toNat hi;simp only [Nat.zero_add, Nat.reduceAdd, List.length_set, Xhh hT hi];unfold Sq.gLo Sq.gHi at hk hg;unfold Sq.rLo Sq.rHi at hk hr;clear hS hR hT;exact Xbx (by omega) (Xbx (by omega) (nedd (by omega) (nedd (by omega) (ar64 (by omega) ⟨trivial, nedd (by omega) (ar64 (by omega) ⟨trivial, nedd (by omega) (nedd (by omega) hk)⟩)⟩))))
theorem Xwd : ∀ W : InW, @CallC W Tryz.prog Xc8 := Xtm fun W ew ek es ei em sk is wk rg K hs => by
 obtain ⟨⟨h0, h1, h2, h3, h4, h5, hl, hS, hT⟩, hk⟩ := hs;unfold Xir;delta Zk Zl Zh;have hi : es.toNat < rg.length := by omega
 have hb := hS.isB ei.toNat (by omega);simp only [Nat.zero_add, Nat.reduceAdd, Xhh hT hi, List.length_set, Xw1 hi, Xw0 hi];unfold Sq.bLo Sq.bHi at hk hb;unfold Sq.rLo Sq.rHi at hk;clear hS hT;exact Xbx (by omega) (Xbx (by omega) (nedd (by omega) ⟨⟨by unfold Sq.Small; omega, by unfold Sq.Small; omega, by unfold Sq.Small; omega⟩, nedd (by omega) (nedd (by omega) (nedd (by omega) (nedd (by omega) (nedd (by omega) (nedd (by omega) hk)))))⟩))
noncomputable def Tq0 : Tab Tryz.prog := ⟨[], [], [ceOf Xb3 Xno, ceOf Xc7 Xwc, ceOf Xc8 Xwd]⟩
def Xpk [InW] (e : List Ed) (K : Nat -> List Ed -> Prop) : Prop := match e with
 | [.ro _ ev, .i n, .i i, .i er, .ro _ sk, .ro _ is, .i wk, .l rg] => Pre (n = (ev.xs.length : Int) /\ 0 <= i /\ i <= n /\ Sq.SchOk sk.xs is.xs /\ Sq.EvOk sk.xs is.xs ev.xs /\ rg.length = sk.xs.length /\ 0 <= wk /\ wk <= 200 /\ (i < n -> wk <= Sq.evW ev.xs i.toNat) /\ Sq.RgOk rg /\ Sq.Two rg)
  (Vif (Sq.lvS sk.xs is.xs ev.xs (n - i).toNat i.toNat wk rg).1 (K 0 [.i er, .ro _ sk, .ro _ is, .i (Sq.lvS sk.xs is.xs ev.xs (n - i).toNat i.toNat wk rg).2.1, .l (Sq.lvS sk.xs is.xs ev.xs (n - i).toNat i.toNat wk rg).2.2]) (K 1 [.i er, .ro _ sk, .ro _ is, .i (Sq.lvS sk.xs is.xs ev.xs (n - i).toNat i.toNat wk rg).2.1, .l (Sq.lvS sk.xs is.xs ev.xs (n - i).toNat i.toNat wk rg).2.2]))
 | _ => False
noncomputable def Xq0 : LC where
 len := 41
 T := [(6, (.ptr 4 0)), (7, (.ptr 7 0)), (8, (.ptr 10 0)), (22, .rs Iv5), (23, .int .i64), (24, .int .i64), (40, (.held ((.fn (.func 72) [] [(.ptr 4 0), (.ptr 7 0)]))))]
 H := [(4, .blk 107 [(.ptr 1 0)]), (7, .blk 41 [.int .i64]), (1, .blk 112 [.rs Ja, .rs Jb, (.row 6), .int .i64]), (10, .blk 141 [(.fn (.func 73) [(.ptr 1 0)] []), (.fn (.func 74) [(.ptr 1 0)] [])]), (6, .arr 29 Jc)]
 W := ([10] ++ rgg 25 14)
 outs := [⟨.exit 0, [(6, (.ptr 4 0)), (7, (.ptr 7 0)), (40, (.held ((.fn (.func 72) [] [(.ptr 4 0), (.ptr 7 0)]))))], [(4, .blk 107 [(.ptr 1 0)]), (7, .blk 41 [.int .i64]), (1, .blk 112 [.rs Ja, .rs Jb, (.row 12), .int .i64]), (12, .arr 29 Jc)], ([8, 10] ++ rgg 22 17)⟩, ⟨.pan (Value.iface 41 (Value.int .i64 9)), [(6, (.ptr 4 0)), (7, (.ptr 7 0)), (40, (.held ((.fn (.func 72) [] [(.ptr 4 0), (.ptr 7 0)]))))], [(4, .blk 107 [(.ptr 1 0)]), (7, .blk 41 [.int .i64]), (1, .blk 112 [.rs Ja, .rs Jb, (.row 15), .int .i64]), (15, .arr 29 Jc)], ([8, 10] ++ rgg 22 17)⟩]
 spec := Xpk
def Zn [W : InW] (ev : Ro Iv5) (i : Int) := cel ev.xs i.toNat (Zh + 1 + 1)
def Zm [W : InW] (ev : Ro Iv5) (i : Int) (sk : Ro Ja) (wk : Int) (rg : Dt) := Sq.fadeD sk.xs rg ((cel ev.xs i.toNat Zh).int - wk)
def Zq [W : InW] (ev : Ro Iv5) (i : Int) := cel ev.xs i.toNat (Zh + 1 + 1 + 1)
def Zp [W : InW] (ev : Ro Iv5) (i : Int) := cel ev.xs i.toNat (Zh + 1 + 1 + 1 + 1)
def Zo [W : InW] (ev : Ro Iv5) (i : Int) (sk : Ro Ja) (is : Ro Jb) (wk : Int) (rg : Dt) := List.set (Zm ev i sk wk rg) (Zn ev i).int.toNat [Cl.i (max (Sq.rLo (Zm ev i sk wk rg) (Zn ev i).int.toNat) (Sq.bhLo (Sq.bHi is.xs (Zq ev i).int.toNat) (Zp ev i).int)), Cl.i (min (Sq.rHi (Zm ev i sk wk rg) (Zn ev i).int.toNat) (Sq.bhHi (Sq.bLo is.xs (Zq ev i).int.toNat) (Zp ev i).int))]
def Xoh [W : InW] (ev : Ro Iv5) (n i er : Int) (sk : Ro Ja) (is : Ro Jb) (wk : Int) (rg : Dt) (A : List Ed -> Prop) (K : Nat -> List Ed -> Prop) : Prop :=
 Vif (decide (i < n)) (Need (decide (0 <= i) && decide (i < (↑(ev.xs.length) : Int))) (Need (decide (i.toNat < ev.xs.length)) (Pre (rg.length = sk.xs.length /\ Sq.FdOk sk.xs /\ wk <= (cel ev.xs i.toNat Zh).int /\ (-100000 : Int) <= wk /\ (cel ev.xs i.toNat Zh).int <= 100000 /\ Sq.RgOk rg /\ Sq.Two rg) (Need (decide (Ze <= (cel ev.xs i.toNat (0+1)).int) && decide ((cel ev.xs i.toNat (0+1)).int < (↑(2 : Nat) : Int))) (Vif (decide ((cel ev.xs i.toNat (0+1)).int = (↑Zh : Int))) (Pre (Ze <= (Zn ev i).int /\ (Zn ev i).int < (↑(sk.xs.length) : Int) /\ List.length (Zm ev i sk wk rg) = sk.xs.length /\ Sq.SchOk sk.xs is.xs /\ Sq.RgOk (Zm ev i sk wk rg) /\ Sq.Two (Zm ev i sk wk rg)) (Ar .i64 (i + 1) fun z => A [.ro _ ev, .i n, .i z, .i er, .ro _ sk, .ro _ is, .i (cel ev.xs i.toNat Zh).int, .l (List.set (Zm ev i sk wk rg) (Zn ev i).int.toNat [Cl.i (Sq.lev (Sq.rLo (Zm ev i sk wk rg) (Zn ev i).int.toNat + Sq.gLo sk.xs (Zn ev i).int.toNat)), Cl.i (Sq.lev (Sq.rHi (Zm ev i sk wk rg) (Zn ev i).int.toNat + Sq.gHi sk.xs (Zn ev i).int.toNat))])])) (Pre (Ze <= (Zn ev i).int /\ (Zn ev i).int < (↑(sk.xs.length) : Int) /\ Ze <= (Zq ev i).int /\ (Zq ev i).int < (↑(is.xs.length) : Int) /\ Ze <= (Zp ev i).int /\ (Zp ev i).int <= 1000 /\ List.length (Zm ev i sk wk rg) = sk.xs.length /\ Sq.SchOk sk.xs is.xs /\ Sq.Two (Zm ev i sk wk rg)) (Vif (decide (min (Sq.rHi (Zm ev i sk wk rg) (Zn ev i).int.toNat) (Sq.bhHi (Sq.bLo is.xs (Zq ev i).int.toNat) (Zp ev i).int) < max (Sq.rLo (Zm ev i sk wk rg) (Zn ev i).int.toNat) (Sq.bhLo (Sq.bHi is.xs (Zq ev i).int.toNat) (Zp ev i).int))) (K (0+1) [.i er, .ro _ sk, .ro _ is, .i (cel ev.xs i.toNat Zh).int, .l (Zo ev i sk is wk rg)]) (Ar .i64 (i + 1) fun z => A [.ro _ ev, .i n, .i z, .i er, .ro _ sk, .ro _ is, .i (cel ev.xs i.toNat Zh).int, .l (Zo ev i sk is wk rg)])))))))) (K 0 [.i er, .ro _ sk, .ro _ is, .i wk, .l rg])
theorem Xux (W : InW) (ev n i er sk is wk rg A K) : Ye9 { cxT Tryz.prog TT Tq0 1000 50 with fn := 43 } 1000 (Ynh Tryz.prog 43 6) (Ydy 41 [(6, .ptr 4 0), (7, .ptr 7 0), (8, .ptr 10 0), (22, .rs _ ev), (23, .si .i64 n), (24, .si .i64 i), (40, .held (.fn (.func 72) [] [.ptr 4 0, .ptr 7 0]))] ([10] ++ rgg 25 14)) [(4, .blk 107 [.ptr 1 0]), (7, .blk 41 [.si .i64 er]), (1, .blk 112 [.rs _ sk, .rs _ is, .rw 6, .si .i64 wk]), (10, .blk 141 [.fn (.func 73) [.ptr 1 0] [], .fn (.func 74) [.ptr 1 0] []]), (6, .arr 29 Jc rg)] (Yth Xq0 A K) = Xoh ev n i er sk is wk rg A K := by kernel_rfl
def Xnm : Prop := ∀ (W : InW) (body a : Code), (Tryz.prog.funcs[43]?).bind (·.body) = some body -> a ∈ Yw body -> Yfu a = 6 -> @Yma W Tryz.prog a (@Ysp W Xq0)
theorem Xvg (meas : [InW] -> List Ed -> Nat) (hyp_ : ∀ (W : InW) ev n i er sk is wk rg K, Xpk [.ro _ ev, .i n, .i i, .i er, .ro _ sk, .ro _ is, .i wk, .l rg] K -> ∀ A : List Ed -> Prop, (∀ e, meas e < meas [.ro _ ev, .i n, .i i, .i er, .ro _ sk, .ro _ is, .i wk, .l rg] -> Xpk e K -> A e) -> Xoh ev n i er sk is wk rg A K) : Xnm :=
 LE.okOf' (fun W => @TT W) (fun W => @Xb W) Xa Tq0 1000 50 (by kernel_rfl) Xq0 (fun W => @meas W) fun W ev n i er sk is wk rg K hs =>
  (Xux W ev n i er sk is wk rg (fun e => meas e < meas [.ro _ ev, .i n, .i i, .i er, .ro _ sk, .ro _ is, .i wk, .l rg] /\ Xpk e K) K).mpr (hyp_ W ev n i er sk is wk rg K hs _ fun e h1 h2 => ⟨h1, h2⟩)
theorem Xwz {sk rg : Dt} {k : Int} {j : Nat} (h : j < rg.length) : Sq.rLo (Sq.fadeD sk rg k) j = Sq.fdLo sk rg k j /\ Sq.rHi (Sq.fadeD sk rg k) j = Sq.fdHi sk rg k j := by
 have e : (Sq.fadeD sk rg k).getD j [] = [.i (Sq.fdLo sk rg k j), .i (Sq.fdHi sk rg k j)] := by rw [Sq.fadeD, Xdp h, if_neg (Nat.not_lt_zero j)]
 refine ⟨?_, ?_⟩
 ·show (((Sq.fadeD sk rg k).getD j []).getD 0 .z).int = _
  rw [e]; rfl
 ·show (((Sq.fadeD sk rg k).getD j []).getD 1 .z).int = _
  rw [e]; rfl
theorem Xem (sk rg : Dt) (k : Int) : (Sq.fadeD sk rg k).length = rg.length := Xdo _ _ _ _
theorem Xnv (sk rg : Dt) (k : Int) : Sq.Two (Sq.fadeD sk rg k) := fun j hj => by
 rw [Xem] at hj;exact ⟨_, _, by rw [Sq.fadeD, Xdp hj, if_neg (Nat.not_lt_zero j)]⟩
theorem Xuo {sk rg : Dt} {k : Int} (hR : Sq.RgOk rg) (hF : Sq.FdOk sk) (hk : 0 <= k) (hl : rg.length = sk.length) : Sq.RgOk (Sq.fadeD sk rg k) := fun j hj => by
 rw [Xem] at hj;have := Xwy hR hF hk hj (by omega);rw [(Xwz hj).1, (Xwz hj).2];omega
theorem Xnt {sk is rg ev : Dt} {i : Nat} (h : Sq.Two rg) : Sq.Two (Sq.hpD sk is rg ev i) := Xme h
theorem Xun {sk is rg ev : Dt} {i : Nat} (hS : Sq.SchOk sk is) (hE : Sq.EvOk sk is ev) (hi : i < ev.length) (hl : rg.length = sk.length) (hR : Sq.RgOk rg) (h : ¬ Sq.hpHi sk is rg ev i < Sq.hpLo sk is rg ev i) : Sq.RgOk (Sq.hpD sk is rg ev i) := by
 have hs := hE.sk i hi;have hr := hR (Sq.evS ev i).toNat (by omega);refine Xjp hR (by omega) ?_ (by omega) ?_
 ·unfold Sq.hpLo Sq.lev
  split <;> omega
 ·unfold Sq.hpHi Sq.lev
  split <;> omega
theorem hp_up {sk is rg ev : Dt} {i : Nat} (hS : Sq.SchOk sk is) (hE : Sq.EvOk sk is ev) (hi : i < ev.length) (hl : rg.length = sk.length) (hR : Sq.RgOk rg) (h : Sq.evK ev i = 0) : ¬ Sq.hpHi sk is rg ev i < Sq.hpLo sk is rg ev i := by
 have hs := hE.sk i hi;have hr := hR (Sq.evS ev i).toNat (by omega);have hg := hS.skG (Sq.evS ev i).toNat (by omega);unfold Sq.hpLo Sq.hpHi Sq.lev;rw [if_pos h, if_pos h];omega
theorem Xhr {sk is ev rg : Dt} {n i : Nat} {w : Int} :
  (Sq.hpHi sk is (Sq.fadeD sk rg (Sq.evW ev i - w)) ev i < Sq.hpLo sk is (Sq.fadeD sk rg (Sq.evW ev i - w)) ev i -> Sq.lvS sk is ev (n + 1) i w rg = (false, Sq.evW ev i, Sq.hpD sk is (Sq.fadeD sk rg (Sq.evW ev i - w)) ev i)) /\
  (¬ Sq.hpHi sk is (Sq.fadeD sk rg (Sq.evW ev i - w)) ev i < Sq.hpLo sk is (Sq.fadeD sk rg (Sq.evW ev i - w)) ev i -> Sq.lvS sk is ev (n + 1) i w rg = Sq.lvS sk is ev n (i + 1) (Sq.evW ev i) (Sq.hpD sk is (Sq.fadeD sk rg (Sq.evW ev i - w)) ev i)) :=
 ⟨fun h => by rw [Sq.lvS, if_pos h], fun h => by rw [Sq.lvS, if_neg h]⟩
theorem okLlv : Xnm := Xvg (fun e => match e with | .ro _ ev :: _ :: .i i :: _ => (ev.xs.length - i).toNat | _ => 0) fun W ev n i er sk is wk rg K hs A hA => by
 obtain ⟨⟨rfl, h0, h1, hS, hE, hl, w0, w1, hw, hR, hT⟩, hk⟩ := hs;unfold Xoh;delta Zo Zp Zq Zn Zm Zh Ze;have hm := ev.len;simp only [maxLen] at hm;refine vifd (fun e => ?_) fun e => ?_
 ·have e1 : (i + 1).toNat = i.toNat + 1 := by omega
  have hi : i.toNat < ev.xs.length := by omega
  have qw := hE.wk i.toNat hi;have qk := hE.kd i.toNat hi;have qs := hE.sk i.toNat hi;have hw' := hw e;have hF : Sq.FdOk sk.xs := fun j hj => hS.skF j hj;have f1 := Xuo hR hF (show 0 <= Sq.evW ev.xs i.toNat - wk by omega) hl;have f2 := Xnv sk.xs rg (Sq.evW ev.xs i.toNat - wk);have f3 := Xem sk.xs rg (Sq.evW ev.xs i.toNat - wk);rw [show ((ev.xs.length : Int) - i).toNat = ((ev.xs.length : Int) - (i + 1)).toNat + 1 by omega] at hk;have st := Xhr (sk := sk.xs) (is := is.xs) (ev := ev.xs) (rg := rg) (n := ((ev.xs.length : Int) - (i + 1)).toNat) (i := i.toNat) (w := wk);have go : ¬ Sq.hpHi sk.xs is.xs (Sq.fadeD sk.xs rg (Sq.evW ev.xs i.toNat - wk)) ev.xs i.toNat < Sq.hpLo sk.xs is.xs (Sq.fadeD sk.xs rg (Sq.evW ev.xs i.toNat - wk)) ev.xs i.toNat -> A [.ro _ ev, .i ev.xs.length, .i (i + 1), .i er, .ro _ sk, .ro _ is, .i (Sq.evW ev.xs i.toNat), .l (Sq.hpD sk.xs is.xs (Sq.fadeD sk.xs rg (Sq.evW ev.xs i.toNat - wk)) ev.xs i.toNat)] := fun hd => hA _ (by show ((ev.xs.length : Int) - (i + 1)).toNat < ((ev.xs.length : Int) - i).toNat; omega)
   ⟨⟨rfl, by omega, by omega, hS, hE, by rw [Sq.hpD, List.length_set, f3]; exact hl, qw.1, qw.2, fun hj => by rw [e1]; exact hE.up i.toNat (by omega), Xun hS hE hi (by rw [f3]; exact hl) f1 hd, Xnt f2⟩, by
    rw [st.2 hd] at hk;rw [e1];exact hk⟩
  refine Xbx (by omega) (nedd (by omega) ⟨⟨hl, hF, hw', by omega, by show Sq.evW ev.xs i.toNat <= 100000; omega, hR, hT⟩, Xbx (by show 0 <= Sq.evK ev.xs i.toNat /\ Sq.evK ev.xs i.toNat < 2; omega) (vifd (fun ek => ?_) fun ek => ?_)⟩)
  ·have hd := hp_up hS hE hi (show (Sq.fadeD sk.xs rg (Sq.evW ev.xs i.toNat - wk)).length = sk.xs.length by rw [f3]; exact hl) f1 ek;have g := go hd;unfold Sq.hpD Sq.hpLo Sq.hpHi at g;rw [if_pos (show Sq.evK ev.xs i.toNat = 0 from ek), if_pos (show Sq.evK ev.xs i.toNat = 0 from ek)] at g;exact ⟨⟨qs.1, qs.2, f3.trans hl, hS, f1, f2⟩, ar64 (by omega) g⟩
  ·have ek1 : ¬ Sq.evK ev.xs i.toNat = 0 := ek;have qi := hE.is i.toNat hi (by omega);refine ⟨⟨qs.1, qs.2, qi.1, qi.2.1, qi.2.2.1, qi.2.2.2, f3.trans hl, hS, f2⟩, vifd (fun hd => ?_) fun hd => ar64 (by omega) ?_⟩
   ·have hd' : Sq.hpHi sk.xs is.xs (Sq.fadeD sk.xs rg (Sq.evW ev.xs i.toNat - wk)) ev.xs i.toNat < Sq.hpLo sk.xs is.xs (Sq.fadeD sk.xs rg (Sq.evW ev.xs i.toNat - wk)) ev.xs i.toNat := by
     unfold Sq.hpHi Sq.hpLo;rw [if_neg ek1, if_neg ek1];exact hd
    rw [st.1 hd'] at hk;have := hk.2 rfl;unfold Sq.hpD Sq.hpLo Sq.hpHi at this;rw [if_neg ek1, if_neg ek1] at this;exact this
   ·have hd' : ¬ Sq.hpHi sk.xs is.xs (Sq.fadeD sk.xs rg (Sq.evW ev.xs i.toNat - wk)) ev.xs i.toNat < Sq.hpLo sk.xs is.xs (Sq.fadeD sk.xs rg (Sq.evW ev.xs i.toNat - wk)) ev.xs i.toNat := by
     unfold Sq.hpHi Sq.hpLo;rw [if_neg ek1, if_neg ek1];exact hd
    have g := go hd';unfold Sq.hpD Sq.hpLo Sq.hpHi at g;rw [if_neg ek1, if_neg ek1] at g;exact g
 ·rw [show ((ev.xs.length : Int) - i).toNat = 0 by omega] at hk;exact hk.1 rfl
noncomputable def le_lv : LE Tryz.prog := ⟨43, 6, fun W => @Ysp W Xq0, okLlv⟩
namespace Sq
def ev1 (n m : Int) (ev : Dt) (i : Nat) (w : Int) : Int :=
 if inr (evW ev i) 0 200 then (if evW ev i < w \/ inr (evK ev i) 0 1 = false then 2 else (if inr (evS ev i) 0 (n - 1) = false \/ (evK ev i = 1 /\ inr (evI ev i) 0 (m - 1) = false) then 4 else (if evK ev i = 1 /\ inr (evM ev i) 0 1000 = false then 7 else 0))) else 7
def evsF (n m : Int) (ev : Dt) : Nat -> Nat -> Int -> Int
 | 0, _, _ => 0
 | k + 1, i, w => if ev1 n m ev i w = 0 then evsF n m ev k (i + 1) (evW ev i) else ev1 n m ev i w
def evsE (n m : Int) (ev : Dt) : Int := if (60 : Int) < ev.length then 3 else evsF n m ev ev.length 0 0
def hisE (sk is st ev : Dt) : Int := if chkE sk is = 0 then (if rgsE sk.length st = 0 then evsE sk.length is.length ev else rgsE sk.length st) else chkE sk is
end Sq
noncomputable def Tr0 : Tab Tryz.prog := ⟨[Xgf, Xcx], [], []⟩
def Xjg [InW] (e : List Ed) (K : Nat -> List Ed -> Prop) : Prop := match e with
 | [.i w, .ro _ ev, .i n, .i i, .ro _ sk, .ro _ is] => Pre (n = (ev.xs.length : Int) /\ 0 <= i /\ i <= n) (Vif (decide (Sq.evsF sk.xs.length is.xs.length ev.xs (n - i).toNat i.toNat w = 0)) (K 0 []) (K 1 [.i (Sq.evsF sk.xs.length is.xs.length ev.xs (n - i).toNat i.toNat w)]))
 | _ => False
noncomputable def Xkp : LC where
 len := 91
 T := [(3, (.ptr 1 0)), (11, .int .i64), (33, .rs Iv5), (34, .int .i64), (35, .int .i64)]
 H := [(1, .blk 25 [.rs Ja, .rs Jb])]
 W := ([6, 13, 14] ++ rgg 36 55)
 outs := [⟨.exit 0, [], [], ([3, 6, 11, 13, 14] ++ rgg 33 58)⟩, ⟨.ret, [(6, .int .i64)], [], ([3, 11, 13, 14] ++ rgg 33 58)⟩]
 spec := Xjg
def Zr [W : InW] (ev : Ro Iv5) (n i : Int) (sk : Ro Ja) (is : Ro Jb) (A : List Ed -> Prop) (K : Nat -> List Ed -> Prop) := Vif (decide ((cel ev.xs i.toNat (0+1)).int = 1)) (Pre True (Vif (Sq.out Ze (1000 : Int) [[Cl.i (cel ev.xs i.toNat (Zh + 1 + 1 + 1 + 1)).int]]) (K (0+1) [.i (7 : Int)]) (Ar .i64 (i + 1) fun z => A [.i (cel ev.xs i.toNat Zh).int, .ro _ ev, .i n, .i z, .ro _ sk, .ro _ is]))) (Ar .i64 (i + 1) fun z => A [.i (cel ev.xs i.toNat Zh).int, .ro _ ev, .i n, .i z, .ro _ sk, .ro _ is])
def Xii [W : InW] (w : Int) (ev : Ro Iv5) (n i : Int) (sk : Ro Ja) (is : Ro Jb) (A : List Ed -> Prop) (K : Nat -> List Ed -> Prop) : Prop :=
 Vif (decide (i < n)) (Need (decide (0 <= i) && decide (i < (↑(ev.xs.length) : Int))) (Need (decide (i.toNat < ev.xs.length)) (Pre True (Vif (Sq.out Ze (200 : Int) [[Cl.i (cel ev.xs i.toNat Zh).int]]) (K (0+1) [.i (7 : Int)]) (Vif (decide ((cel ev.xs i.toNat Zh).int < w)) (K (0+1) [.i (2 : Int)]) (Pre True (Vif (Sq.out Ze (1 : Int) [[Cl.i (cel ev.xs i.toNat (0+1)).int]]) (K (0+1) [.i (2 : Int)]) (Ar .i64 ((↑(sk.xs.length) : Int) - 1) fun z => Pre True (Vif (Sq.out Ze z [[Cl.i (cel ev.xs i.toNat (Zh + 1 + 1)).int]]) (K (0+1) [.i (4 : Int)]) (Vif (decide ((cel ev.xs i.toNat (0+1)).int = 1)) (Ar .i64 ((↑(is.xs.length) : Int) - 1) fun z => Pre True (Vif (Sq.out Ze z [[Cl.i (cel ev.xs i.toNat (Zh + 1 + 1 + 1)).int]]) (K (0+1) [.i (4 : Int)]) (Zr ev n i sk is A K))) (Zr ev n i sk is A K))))))))))) (K 0 [])
theorem Xr8 (W : InW) (w ev n i sk is A K) : Ye9 { cxT Tryz.prog TT Tr0 1000 50 with fn := 41 } 1000 (Ynh Tryz.prog 41 12) (Ydy 91 [(3, .ptr 1 0), (11, .si .i64 w), (33, .rs _ ev), (34, .si .i64 n), (35, .si .i64 i)] ([6, 13, 14] ++ rgg 36 55)) [(1, .blk 25 [.rs _ sk, .rs _ is])] (Yth Xkp A K) = Xii w ev n i sk is A K := by kernel_rfl
def Xj5 : Prop := ∀ (W : InW) (body a : Code), (Tryz.prog.funcs[41]?).bind (·.body) = some body -> a ∈ Yw body -> Yfu a = 12 -> @Yma W Tryz.prog a (@Ysp W Xkp)
theorem Xtd (meas : [InW] -> List Ed -> Nat) (hyp_ : ∀ (W : InW) w ev n i sk is K, Xjg [.i w, .ro _ ev, .i n, .i i, .ro _ sk, .ro _ is] K -> ∀ A : List Ed -> Prop, (∀ e, meas e < meas [.i w, .ro _ ev, .i n, .i i, .ro _ sk, .ro _ is] -> Xjg e K -> A e) -> Xii w ev n i sk is A K) : Xj5 :=
 LE.okOf' (fun W => @TT W) (fun W => @Xb W) Xa Tr0 1000 50 (by kernel_rfl) Xkp (fun W => @meas W) fun W w ev n i sk is K hs =>
  (Xr8 W w ev n i sk is (fun e => meas e < meas [.i w, .ro _ ev, .i n, .i i, .ro _ sk, .ro _ is] /\ Xjg e K) K).mpr (hyp_ W w ev n i sk is K hs _ fun e h1 h2 => ⟨h1, h2⟩)
theorem Xfh {n m : Int} {ev : Dt} {k i : Nat} {w : Int} : (Sq.ev1 n m ev i w ≠ 0 -> Sq.evsF n m ev (k + 1) i w = Sq.ev1 n m ev i w) /\ (Sq.ev1 n m ev i w = 0 -> Sq.evsF n m ev (k + 1) i w = Sq.evsF n m ev k (i + 1) (Sq.evW ev i)) :=
 ⟨fun h => by rw [Sq.evsF, if_neg h], fun h => by rw [Sq.evsF, if_pos h]⟩
theorem Xv4 : Xj5 := Xtd (fun e => match e with | _ :: _ :: .i n :: .i i :: _ => (n - i).toNat | _ => 0) fun W w ev n i sk is K hs A hA => by
 obtain ⟨⟨rfl, h0, h1⟩, hk⟩ := hs;unfold Xii;delta Zr Zh Ze;have hm := ev.len;have hm2 := sk.len;have hm3 := is.len;simp only [maxLen] at hm hm2 hm3;simp only [Nat.zero_add, Nat.reduceAdd, Xmw];refine vifd (fun e => ?_) fun e => ?_
 ·rw [show ((ev.xs.length : Int) - i).toNat = ((ev.xs.length : Int) - (i + 1)).toNat + 1 by omega] at hk;have ez : (i + 1).toNat = i.toNat + 1 := by omega
  have st := Xfh (n := sk.xs.length) (m := is.xs.length) (ev := ev.xs) (k := ((ev.xs.length : Int) - (i + 1)).toNat) (i := i.toNat) (w := w);have bad : ∀ n, Sq.ev1 sk.xs.length is.xs.length ev.xs i.toNat w = n -> n ≠ 0 -> K 1 [.i n] := fun n hn h => by
   have := st.1 (by omega);rw [this, hn] at hk;exact hk.2 (by simp [h])
  have hA' : Sq.ev1 sk.xs.length is.xs.length ev.xs i.toNat w = 0 -> A [.i (Sq.evW ev.xs i.toNat), .ro _ ev, .i ev.xs.length, .i (i + 1), .ro _ sk, .ro _ is] := fun f => hA _ (by show ((ev.xs.length : Int) - (i + 1)).toNat < ((ev.xs.length : Int) - i).toNat; omega) ⟨⟨rfl, by omega, by omega⟩, by rw [ez, <- st.2 f]; exact hk⟩;have eS := Lib.hid (show Sq.ev1 sk.xs.length is.xs.length ev.xs i.toNat w = if Sq.inr (cel ev.xs i.toNat 0).int 0 200 then (if (cel ev.xs i.toNat 0).int < w \/ Sq.inr (cel ev.xs i.toNat 1).int 0 1 = false then 2 else (if Sq.inr (cel ev.xs i.toNat 2).int 0 (sk.xs.length - 1) = false \/ ((cel ev.xs i.toNat 1).int = 1 /\ Sq.inr (cel ev.xs i.toNat 3).int 0 (is.xs.length - 1) = false) then 4 else (if (cel ev.xs i.toNat 1).int = 1 /\ Sq.inr (cel ev.xs i.toNat 4).int 0 1000 = false then 7 else 0))) else 7 from rfl);unfold Sq.evW at hA';clear hk hA st
  repeat' (first | omega|intro _|with_reducible first|apply vifd|apply vifn|apply vifq|apply vifq0|apply vifq1|apply vifb|apply vif|apply nedd|apply ned2|apply ned|apply ar64|apply X2|exact True.intro|assumption|rfl|apply And.intro)
  all_goals first | exact bad _ (by rw [eS.out]; simp_all) (by omega) | exact hA' (by rw [eS.out]; simp_all)
 ·rw [show ((ev.xs.length : Int) - i).toNat = 0 by omega] at hk;exact hk.1 rfl
noncomputable def Xwq : LE Tryz.prog := ⟨41, 12, fun W => @Ysp W Xkp, Xv4⟩
noncomputable def Tr1 : Tab Tryz.prog := ⟨[Xei, Xmr], [Xwq], []⟩
def Zs [W : InW] (ev : Ro Iv5) := (↑(ev.xs.length) : Int)
def Xc3 [W : InW] (s_Skills : Ro Ja) (s_Instrs : Ro Jb) (st : Ro Jc) (ev : Ro Iv5) (Q : DS -> Prop) : Prop :=
 Pre True (Vif (!decide (Sq.chkE s_Skills.xs s_Instrs.xs = 0)) (Q [[Cl.i (Sq.chkE s_Skills.xs s_Instrs.xs)]]) (Pre True (Vif (!decide (Sq.rgsE (↑(s_Skills.xs.length) : Int) st.xs = 0)) (Q [[Cl.i (Sq.rgsE (↑(s_Skills.xs.length) : Int) st.xs)]]) (Vif (decide ((60 : Int) < (Zs ev))) (Q [[Cl.i 3]]) (Pre ((Zs ev) = (Zs ev) /\ Ze <= 0 /\ Ze <= (Zs ev)) (Vif (decide (Sq.evsF (↑(s_Skills.xs.length) : Int) (↑(s_Instrs.xs.length) : Int) ev.xs ((Zs ev) - 0).toNat (Int.toNat Ze) Ze = 0)) (Q [[Cl.i 0]]) (Q [[Cl.i (Sq.evsF (↑(s_Skills.xs.length) : Int) (↑(s_Instrs.xs.length) : Int) ev.xs ((Zs ev) - 0).toNat (Int.toNat Ze) Ze)]])))))))
theorem Xlj (W : InW) (s_Skills s_Instrs st ev Q) : Yvp (cxT Tryz.prog TT Tr1 1000 50) 1000 41 [.agg [.rs _ s_Skills, .rs _ s_Instrs], .rs _ st, .rs _ ev] [] 0 (Yzq [(false, [.int .i64])] Q) (fun _ _ _ _ => Stuck 421) = Xc3 s_Skills s_Instrs st ev Q := by kernel_rfl
abbrev Xck : List AT := [.agg [.sl Ja, .sl Jb], .one (.sl Jc), .one (.sl Iv5)]
theorem Xls {pre : DS -> Prop} {res : DS -> DS} (hyp_ : ∀ (W : InW) (s_Skills : Ro Ja) (s_Instrs : Ro Jb) (st : Ro Jc) (ev : Ro Iv5), pre [[.l s_Skills.xs, .l s_Instrs.xs], [.l st.xs], [.l ev.xs]] -> ∀ Q : DS -> Prop, Q (res [[.l s_Skills.xs, .l s_Instrs.xs], [.l st.xs], [.l ev.xs]]) -> Xc3 s_Skills s_Instrs st ev Q) : PureOk Tryz.prog 41 Xck [(false, [.int .i64])] pre res :=
 PureOk.of' (fun W => @TT W) (fun W => @Xb W) Xa Tr1 1000 50 fun W s_Skills s_Instrs st ev hp =>
  (Xlj W s_Skills s_Instrs st ev (fun o => o = res [[.l s_Skills.xs, .l s_Instrs.xs], [.l st.xs], [.l ev.xs]])).mpr (hyp_ W s_Skills s_Instrs st ev hp _ rfl)
abbrev Xcj (ds : DS) : DS := match ds with | [[.l sk, .l is], [.l st], [.l ev]] => [[.i (Sq.hisE sk is st ev)]] | _ => []
namespace Sq
structure HisOk (sk is st ev : Dt) : Prop where
 sch : SchOk sk is
 len : st.length = sk.length
 rg : RgOk st
 ev : EvOk sk is ev
def lvA (sk is st ev : Dt) : Bool × Int × Dt := lvS sk is ev ev.length 0 0 st
def aftE (sk is st ev : Dt) (w : Int) : Int := if hisE sk is st ev = 0 then (if inr w 0 200 then (if 0 < ev.length /\ w < evW ev (ev.length - 1) then 2 else (if (lvA sk is st ev).1 then 0 else 9)) else 7) else hisE sk is st ev
def aftD (sk is st ev : Dt) (w : Int) : Dt := if aftE sk is st ev w = 0 then fadeD sk (lvA sk is st ev).2.2 (w - (lvA sk is st ev).2.1) else []
end Sq
theorem Xnx {n m : Int} {ev : Dt} {i : Nat} {w : Int} : Sq.ev1 n m ev i w = 0 ↔ (0 <= Sq.evW ev i /\ Sq.evW ev i <= 200) /\ w <= Sq.evW ev i /\ (Sq.evK ev i = 0 \/ Sq.evK ev i = 1) /\ (0 <= Sq.evS ev i /\ Sq.evS ev i < n) /\ (Sq.evK ev i = 1 -> 0 <= Sq.evI ev i /\ Sq.evI ev i < m /\ 0 <= Sq.evM ev i /\ Sq.evM ev i <= 1000) := by
 unfold Sq.ev1
 by_cases h1 : Sq.inr (Sq.evW ev i) 0 200 = true
 ·rw [if_pos h1];rw [inr_iff] at h1
  by_cases h2 : Sq.evW ev i < w \/ Sq.inr (Sq.evK ev i) 0 1 = false
  ·rw [if_pos h2];rw [Xcq] at h2;omega
  ·rw [if_neg h2];rw [Xcq] at h2
   by_cases h3 : Sq.inr (Sq.evS ev i) 0 (n - 1) = false \/ (Sq.evK ev i = 1 /\ Sq.inr (Sq.evI ev i) 0 (m - 1) = false)
   ·rw [if_pos h3];rw [Xcq, Xcq] at h3;refine ⟨fun e => by omega, fun e => ?_⟩;have := e.2.2.2.2;omega
   ·rw [if_neg h3];rw [Xcq, Xcq] at h3
    by_cases h4 : Sq.evK ev i = 1 /\ Sq.inr (Sq.evM ev i) 0 1000 = false
    ·rw [if_pos h4];rw [Xcq] at h4;refine ⟨fun e => by omega, fun e => ?_⟩;have := e.2.2.2.2 h4.1;omega
    ·rw [if_neg h4];rw [Xcq] at h4;exact ⟨fun _ => ⟨h1, by omega, by omega, by omega, fun e => by omega⟩, fun _ => rfl⟩
 ·rw [if_neg h1];rw [inr_iff] at h1;exact ⟨fun e => by omega, fun e => absurd e.1 h1⟩
theorem Xrt {n m : Int} {ev : Dt} : ∀ {k i : Nat} {w : Int}, Sq.evsF n m ev k i w = 0 -> ∀ j, i <= j -> j < i + k -> Sq.ev1 n m ev j (if j = i then w else Sq.evW ev (j - 1)) = 0
 | 0, i, w, _, j, h1, h2 => by omega
 | k + 1, i, w, h, j, h1, h2 => by
  have st := Xfh (n := n) (m := m) (ev := ev) (k := k) (i := i) (w := w);have h0 : Sq.ev1 n m ev i w = 0 := by
   by_cases e : Sq.ev1 n m ev i w = 0
   ·exact e
   ·rw [st.1 e] at h; exact h
  rw [st.2 h0] at h
  by_cases e : j = i
  ·rw [if_pos e, e]; exact h0
  ·rw [if_neg e];have := Xrt h j (by omega) (by omega)
   by_cases e2 : j = i + 1
   ·rw [if_pos e2] at this;rw [e2] at this ⊢;exact this
   ·rwa [if_neg e2] at this
theorem Xrs {n m : Int} {ev : Dt} : ∀ {k i : Nat} {w : Int}, (∀ j, i <= j -> j < i + k -> Sq.ev1 n m ev j (if j = i then w else Sq.evW ev (j - 1)) = 0) -> Sq.evsF n m ev k i w = 0
 | 0, _, _, _ => rfl
 | k + 1, i, w, h => by
  have st := Xfh (n := n) (m := m) (ev := ev) (k := k) (i := i) (w := w);have h0 := h i (by omega) (by omega);rw [if_pos rfl] at h0;rw [st.2 h0];refine Xrs fun j h1 h2 => ?_;have := h j (by omega) (by omega);rw [if_neg (by omega)] at this
  by_cases e2 : j = i + 1
  ·rw [if_pos e2];rw [e2] at this ⊢;exact this
  ·rwa [if_neg e2]
theorem Xnw {sk is ev : Dt} : Sq.evsE sk.length is.length ev = 0 ↔ Sq.EvOk sk is ev := by
 unfold Sq.evsE
 by_cases h6 : (60 : Int) < ev.length
 ·rw [if_pos h6];exact ⟨fun e => by omega, fun e => by have := e.l60; omega⟩
 ·rw [if_neg h6];refine ⟨fun e => ?_, fun e => Xrs fun j h1 h2 => ?_⟩
  ·have a := fun j (hj : j < ev.length) => Xnx.1 (Xrt e j (by omega) (by omega));refine ⟨by omega, fun j hj => (a j hj).1, fun j hj => ?_, fun j hj => (a j hj).2.2.1, fun j hj => (a j hj).2.2.2.1, fun j hj => (a j hj).2.2.2.2⟩;have := (a (j + 1) hj).2.1;rw [if_neg (by omega)] at this;exact this
  ·rw [Nat.zero_add] at h2;refine Xnx.2 ⟨e.wk j h2, ?_, e.kd j h2, e.sk j h2, e.is j h2⟩
   by_cases e0 : j = 0
   ·rw [if_pos e0]; exact (e.wk j h2).1
   ·rw [if_neg e0];have := e.up (j - 1) (by omega);rwa [show j - 1 + 1 = j by omega] at this
theorem Xfc {sk is st ev : Dt} : Sq.hisE sk is st ev = 0 ↔ Sq.HisOk sk is st ev := by
 unfold Sq.hisE
 by_cases h1 : Sq.chkE sk is = 0
 ·rw [if_pos h1]
  by_cases h2 : Sq.rgsE sk.length st = 0
  ·rw [if_pos h2];have := Xmm.1 h2;exact ⟨fun e => ⟨Xhv.1 h1, this.1, this.2, Xnw.1 e⟩, fun e => Xnw.2 e.ev⟩
  ·rw [if_neg h2];exact ⟨fun e => absurd e h2, fun e => absurd (Xmm.2 ⟨e.len, e.rg⟩) h2⟩
 ·rw [if_neg h1];exact ⟨fun e => absurd e h1, fun e => absurd (Xhv.2 e.sch) h1⟩
theorem Xm2 : PureOk Tryz.prog 41 Xck [(false, [.int .i64])] (fun _ => True) Xcj :=
 Xls fun W sk is st ev _ Q h => by
  unfold Xc3;delta Ze Zs;simp only [Xcj, Sq.hisE, Sq.evsE] at h;refine ⟨trivial, vifn (fun e1 => ?_) fun e1 => ⟨trivial, vifn (fun e2 => ?_) fun e2 => vifd (fun e3 => ?_) fun e3 => ⟨⟨rfl, by omega, by omega⟩, ?_⟩⟩⟩
  ·rw [if_neg e1] at h; exact h
  ·rw [if_pos e1, if_neg e2] at h; exact h
  ·rw [if_pos e1, if_pos e2, if_pos e3] at h; exact h
  ·rw [if_pos e1, if_pos e2, if_neg e3] at h;rw [show ((ev.xs.length : Int) - 0).toNat = ev.xs.length by omega, show Int.toNat 0 = 0 from rfl];exact vifd (fun e => by rw [e] at h; exact h) fun e => h
noncomputable def Xln : PC Tryz.prog := ⟨41, Xck, [(false, [.int .i64])], fun _ => True, Xcj, Xm2⟩
theorem Xud {sk is ev : Dt} (hS : Sq.SchOk sk is) (hE : Sq.EvOk sk is ev) : ∀ (n i : Nat) (w : Int) (rg : Dt), i + n <= ev.length -> rg.length = sk.length -> Sq.RgOk rg -> Sq.Two rg -> (0 < n -> w <= Sq.evW ev i) -> (Sq.lvS sk is ev n i w rg).1 = true ->
  (Sq.lvS sk is ev n i w rg).2.1 = (if n = 0 then w else Sq.evW ev (i + n - 1)) /\ (Sq.lvS sk is ev n i w rg).2.2.length = sk.length /\ Sq.RgOk (Sq.lvS sk is ev n i w rg).2.2 /\ Sq.Two (Sq.lvS sk is ev n i w rg).2.2
 | 0, i, w, rg, _, hl, hR, hT, _, _ => ⟨rfl, hl, hR, hT⟩
 | n + 1, i, w, rg, hi, hl, hR, hT, hw, h => by
  have st := Xhr (sk := sk) (is := is) (ev := ev) (rg := rg) (n := n) (i := i) (w := w);have hF : Sq.FdOk sk := fun j hj => hS.skF j hj;have f1 := Xuo hR hF (show 0 <= Sq.evW ev i - w by have := hw (by omega); omega) hl;have f3 := Xem sk rg (Sq.evW ev i - w)
  by_cases hd : Sq.hpHi sk is (Sq.fadeD sk rg (Sq.evW ev i - w)) ev i < Sq.hpLo sk is (Sq.fadeD sk rg (Sq.evW ev i - w)) ev i
  ·rw [st.1 hd] at h; cases h
  ·rw [st.2 hd] at h ⊢;have r := Xud hS hE n (i + 1) (Sq.evW ev i) _ (by omega) (by rw [Sq.hpD, List.length_set, f3]; exact hl) (Xun hS hE (by omega) (by rw [f3]; exact hl) f1 hd) (Xnt (Xnv _ _ _)) (fun _ => hE.up i (by omega)) h;refine ⟨?_, r.2⟩;rw [r.1, if_neg (Nat.succ_ne_zero n)]
   by_cases e : n = 0
   ·rw [if_pos e, e]; rfl
   ·rw [if_neg e, show i + 1 + n - 1 = i + (n + 1) - 1 by omega]
noncomputable def Tq2 : Tab Tryz.prog := ⟨[], [le_lv], []⟩
def Xq7 [InW] (e : List Ed) (K : Nat -> List Ed -> Prop) : Prop := match e with
 | [.ro _ sk, .ro _ is, .ro _ st, .ro _ ev] => Pre (Sq.HisOk sk.xs is.xs st.xs ev.xs /\ Sq.Two st.xs) (Vif (Sq.lvA sk.xs is.xs st.xs ev.xs).1 (K 0 [.ro _ sk, .ro _ is, .i (Sq.lvA sk.xs is.xs st.xs ev.xs).2.1, .l (Sq.lvA sk.xs is.xs st.xs ev.xs).2.2]) (K 1 []))
 | _ => False
noncomputable def Xc9 : CC where
 g := 43
 args := [.agg [.rs Ja, .rs Jb], .rs Jc, .rs Iv5]
 H := []
 outs := [⟨false, .tup [(.ptr 6 0), (.lit (.int .i64 0))], [(6, .blk 112 [.rs Ja, .rs Jb, (.row 12), .int .i64]), (12, .arr 29 Jc)], false⟩, ⟨false, .tup [(.lit (.pointer none)), (.lit (.int .i64 9))], [], false⟩]
 spec := Xq7
def Zt [W : InW] (ev : Ro Iv5) := (↑(ev.xs.length) : Int)
def Zu := Int.toNat Ze
def Xis [W : InW] (sk : Ro Ja) (is : Ro Jb) (st : Ro Jc) (ev : Ro Iv5) (K : Nat -> List Ed -> Prop) : Prop :=
 Vif (match st.v with | Value.slice none len cap => true | x => false) (Pre ((Zt ev) = (Zt ev) /\ Ze <= 0 /\ Ze <= (Zt ev) /\ Sq.SchOk sk.xs is.xs /\ Sq.EvOk sk.xs is.xs ev.xs /\ (0 : Nat) = sk.xs.length /\ Ze <= 0 /\ Ze <= 200 /\ (Ze < (Zt ev) -> Ze <= Sq.evW ev.xs Zu) /\ Sq.RgOk [] /\ Sq.Two []) (Vif (Sq.lvS sk.xs is.xs ev.xs ((Zt ev) - 0).toNat Zu Ze []).1 (K 0 [Ed.ro _ sk, Ed.ro _ is, Ed.i (Sq.lvS sk.xs is.xs ev.xs ((Zt ev) - 0).toNat Zu Ze []).snd.1, Ed.l (Sq.lvS sk.xs is.xs ev.xs ((Zt ev) - 0).toNat Zu Ze []).snd.2]) (K (0+1) []))) (Need (decide (((0 : Nat) + st.xs.length) * 16 <= 140737488355328)) (Pre ((Zt ev) = (Zt ev) /\ Ze <= 0 /\ Ze <= (Zt ev) /\ Sq.SchOk sk.xs is.xs /\ Sq.EvOk sk.xs is.xs ev.xs /\ st.xs.length = sk.xs.length /\ Ze <= 0 /\ Ze <= 200 /\ (Ze < (Zt ev) -> Ze <= Sq.evW ev.xs Zu) /\ Sq.RgOk st.xs /\ Sq.Two st.xs) (Vif (Sq.lvS sk.xs is.xs ev.xs ((Zt ev) - 0).toNat Zu Ze ([] ++ st.xs)).1 (K 0 [Ed.ro _ sk, Ed.ro _ is, Ed.i (Sq.lvS sk.xs is.xs ev.xs ((Zt ev) - 0).toNat Zu Ze ([] ++ st.xs)).snd.1, Ed.l (Sq.lvS sk.xs is.xs ev.xs ((Zt ev) - 0).toNat Zu Ze ([] ++ st.xs)).snd.2]) (K (0+1) []))))
theorem Xsi (W : InW) (sk is st ev K) : Yvm (cxT Tryz.prog TT Tq2 1000 50) 1000 43 [.agg [.rs _ sk, .rs _ is], .rs _ st, .rs _ ev] [] (fun v h => outC Xc9.H [] Xc9.outs 0 false v h K) (fun v h => outC Xc9.H [] Xc9.outs 0 true v h K) = Xis sk is st ev K := by kernel_rfl
theorem Xtn (hyp_ : ∀ (W : InW) sk is st ev K, Xq7 [.ro _ sk, .ro _ is, .ro _ st, .ro _ ev] K -> Xis sk is st ev K) : ∀ W : InW, @CallC W Tryz.prog Xc9 :=
 CC.okOf (fun W => @TT W) (fun W => @Xb W) Xa Tq2 1000 50 Xc9 fun W sk is st ev K hs => (Xsi W sk is st ev K).mpr (hyp_ W sk is st ev K hs)
theorem Xwe : ∀ W : InW, @CallC W Tryz.prog Xc9 := Xtn fun W sk is st ev K hs => by
 obtain ⟨⟨hH, hT⟩, hk⟩ := hs;unfold Xis;delta Zu Ze Zt;have n1 := hH.sch.n1;have n5 := hH.sch.n5;have hl := hH.len;have e0 : ((ev.xs.length : Int) - 0).toNat = ev.xs.length := by omega
 refine vif (fun e => ?_) fun e => nedd (by omega) ⟨⟨rfl, by omega, by omega, hH.sch, hH.ev, hl, by omega, by omega, fun h => (hH.ev.wk 0 (by omega)).1, hH.rg, hT⟩, ?_⟩
 ·have := Y2m (r := st) e;rw [this] at hl;exact absurd hl (by simp; omega)
 ·rw [e0];exact hk
noncomputable def Ts : Tab Tryz.prog := ⟨[Xcx, Xln], [], [ceOf Xc9 Xwe, ceOf Xb3 Xno]⟩
def Zv [W : InW] (s_Skills : Ro Ja) (s_Instrs : Ro Jb) (st : Ro Jc) (ev : Ro Iv5) (w : Int) (Q : DS -> Prop) := Pre (Sq.HisOk s_Skills.xs s_Instrs.xs st.xs ev.xs /\ Sq.Two st.xs) (Vif (Sq.lvA s_Skills.xs s_Instrs.xs st.xs ev.xs).1 (Pre (List.length (Sq.lvA s_Skills.xs s_Instrs.xs st.xs ev.xs).snd.2 = s_Skills.xs.length /\ Sq.FdOk s_Skills.xs /\ (Sq.lvA s_Skills.xs s_Instrs.xs st.xs ev.xs).snd.1 <= w /\ (-100000 : Int) <= (Sq.lvA s_Skills.xs s_Instrs.xs st.xs ev.xs).snd.1 /\ w <= 100000 /\ Sq.RgOk (Sq.lvA s_Skills.xs s_Instrs.xs st.xs ev.xs).snd.2 /\ Sq.Two (Sq.lvA s_Skills.xs s_Instrs.xs st.xs ev.xs).snd.2) (Q [[Cl.l (Sq.fadeD s_Skills.xs (Sq.lvA s_Skills.xs s_Instrs.xs st.xs ev.xs).snd.2 (w - (Sq.lvA s_Skills.xs s_Instrs.xs st.xs ev.xs).snd.1))], [Cl.i 0]])) (Q [[Cl.l []], [Cl.i 9]]))
def Xfr [W : InW] (s_Skills : Ro Ja) (s_Instrs : Ro Jb) (st : Ro Jc) (ev : Ro Iv5) (w : Int) (Q : DS -> Prop) : Prop :=
 Pre True (Vif (!decide (Sq.hisE s_Skills.xs s_Instrs.xs st.xs ev.xs = 0)) (Q [[Cl.l []], [Cl.i (Sq.hisE s_Skills.xs s_Instrs.xs st.xs ev.xs)]]) (Pre True (Vif (Sq.out (0 : Int) (200 : Int) [[Cl.i w]]) (Q [[Cl.l []], [Cl.i 7]]) (Vif (decide ((0 : Int) < (↑(ev.xs.length) : Int))) (Ar .i64 ((↑(ev.xs.length) : Int) - 1) fun z => Need (decide (0 <= z) && decide (z < (↑(ev.xs.length) : Int))) (Need (decide (z.toNat < ev.xs.length)) (Vif (decide (w < (cel ev.xs z.toNat (0 : Nat)).int)) (Q [[Cl.l []], [Cl.i 2]]) (Zv s_Skills s_Instrs st ev w Q)))) (Zv s_Skills s_Instrs st ev w Q)))))
theorem Xpi (W : InW) (s_Skills s_Instrs st ev w Q) : Yvp (cxT Tryz.prog TT Ts 1000 50) 1000 9 [.agg [.rs _ s_Skills, .rs _ s_Instrs], .rs _ st, .rs _ ev, .si .i64 w] [] 0 (Yzq [(false, [.row 29 Jc]), (false, [.int .i64])] Q) (fun _ _ _ _ => Stuck 421) = Xfr s_Skills s_Instrs st ev w Q := by kernel_rfl
abbrev Xd2 : List AT := [.agg [.sl Ja, .sl Jb], .one (.sl Jc), .one (.sl Iv5), .one (.int .i64)]
theorem Xqw {pre : DS -> Prop} {res : DS -> DS} (hyp_ : ∀ (W : InW) (s_Skills : Ro Ja) (s_Instrs : Ro Jb) (st : Ro Jc) (ev : Ro Iv5) (w : Int), pre [[.l s_Skills.xs, .l s_Instrs.xs], [.l st.xs], [.l ev.xs], [.i w]] -> ∀ Q : DS -> Prop, Q (res [[.l s_Skills.xs, .l s_Instrs.xs], [.l st.xs], [.l ev.xs], [.i w]]) -> Xfr s_Skills s_Instrs st ev w Q) : PureOk Tryz.prog 9 Xd2 [(false, [.row 29 Jc]), (false, [.int .i64])] pre res :=
 PureOk.of' (fun W => @TT W) (fun W => @Xb W) Xa Ts 1000 50 fun W s_Skills s_Instrs st ev w hp =>
  (Xpi W s_Skills s_Instrs st ev w (fun o => o = res [[.l s_Skills.xs, .l s_Instrs.xs], [.l st.xs], [.l ev.xs], [.i w]])).mpr (hyp_ W s_Skills s_Instrs st ev w hp _ rfl)
abbrev Xge (ds : DS) : Prop := match ds with | [_, [.l st], _, _] => Sq.Two st | _ => False
abbrev Xdj (ds : DS) : DS := match ds with | [[.l sk, .l is], [.l st], [.l ev], [.i w]] => [[.l (Sq.aftD sk is st ev w)], [.i (Sq.aftE sk is st ev w)]] | _ => []
theorem Xwf {sk is st ev : Dt} (hH : Sq.HisOk sk is st ev) (hT : Sq.Two st) (h : (Sq.lvA sk is st ev).1 = true) :
  (Sq.lvA sk is st ev).2.1 = (if ev.length = 0 then 0 else Sq.evW ev (ev.length - 1)) /\ (Sq.lvA sk is st ev).2.2.length = sk.length /\ Sq.RgOk (Sq.lvA sk is st ev).2.2 /\ Sq.Two (Sq.lvA sk is st ev).2.2 := by
 have := Xud hH.sch hH.ev ev.length 0 0 st (by omega) hH.len hH.rg hT (fun h => (hH.ev.wk 0 h).1) h;rwa [Nat.zero_add] at this
theorem Xob [InW] {sk is st ev : Dt} {w : Int} {Q : DS -> Prop} (hH : Sq.HisOk sk is st ev) (hT : Sq.Two st) (w0 : 0 <= w) (w1 : w <= 200) (hw : ¬ (0 < ev.length /\ w < Sq.evW ev (ev.length - 1))) (h : Q [[.l (Sq.aftD sk is st ev w)], [.i (Sq.aftE sk is st ev w)]]) :
  Pre (Sq.HisOk sk is st ev /\ Sq.Two st) (Vif (Sq.lvA sk is st ev).1 (Pre ((Sq.lvA sk is st ev).2.2.length = sk.length /\ Sq.FdOk sk /\ (Sq.lvA sk is st ev).2.1 <= w /\ -100000 <= (Sq.lvA sk is st ev).2.1 /\ w <= 100000 /\ Sq.RgOk (Sq.lvA sk is st ev).2.2 /\ Sq.Two (Sq.lvA sk is st ev).2.2) (Q [[.l (Sq.fadeD sk (Sq.lvA sk is st ev).2.2 (w - (Sq.lvA sk is st ev).2.1))], [.i 0]])) (Q [[.l []], [.i 9]])) := by
 have hE : Sq.aftE sk is st ev w = if (Sq.lvA sk is st ev).1 then 0 else 9 := by rw [Sq.aftE, if_pos (Xfc.2 hH), if_pos (inr_iff.2 ⟨w0, w1⟩), if_neg hw]
 rw [Sq.aftD, hE] at h;refine ⟨⟨hH, hT⟩, vif (fun e => ?_) fun e => ?_⟩
 ·have r := Xwf hH hT e;rw [e, if_pos rfl, if_pos rfl] at h;refine ⟨⟨r.2.1, fun j hj => hH.sch.skF j hj, ?_, ?_, by omega, r.2.2.1, r.2.2.2⟩, h⟩
  ·rw [r.1]
   split
   ·omega
   ·omega
  ·rw [r.1]
   split
   ·omega
   ·have := hH.ev.wk (ev.length - 1) (by omega);omega
 ·rw [e, if_neg (show ¬ false = true by decide), if_neg (show ¬ (9 : Int) = 0 by decide)] at h;exact h
theorem Xuc : PureOk Tryz.prog 9 Xd2 [(false, [.row 29 Jc]), (false, [.int .i64])] Xge Xdj :=
 Xqw fun W sk is st ev w hp Q h => by
  unfold Xfr;delta Zv;simp only [Xdj] at h;refine ⟨trivial, vifn (fun e1 => ?_) fun e1 => ⟨trivial, vif (fun e2 => ?_) fun e2 => vifd (fun e3 => ?_) fun e3 => ?_⟩⟩
  ·rw [Sq.aftD, Sq.aftE, if_neg e1, if_neg e1] at h; exact h
  ·rw [Xmw] at e2;rw [Sq.aftD, Sq.aftE, if_pos e1, if_neg (show ¬ Sq.inr w 0 200 = true by rw [notT e2]; decide), if_neg (show ¬ (7 : Int) = 0 by decide)] at h; exact h
  ·rw [Xmw] at e2;have e2 := notF e2;have w0 := inr_iff.1 e2;have hm := ev.len;simp only [maxLen] at hm;have ez : ((ev.xs.length : Int) - 1).toNat = ev.xs.length - 1 := by omega
   refine ar64 (by omega) (Xbx (by omega) (nedd (by omega) (vifd (fun e4 => ?_) fun e4 => ?_)))
   ·rw [ez] at e4;have c : 0 < ev.xs.length /\ w < Sq.evW ev.xs (ev.xs.length - 1) := ⟨by omega, e4⟩;rw [Sq.aftD, Sq.aftE, if_pos e1, if_pos e2, if_pos c, if_neg (show ¬ (2 : Int) = 0 by decide)] at h; exact h
   ·rw [ez] at e4;exact Xob (Xfc.1 e1) hp w0.1 w0.2 (fun c => e4 c.2) h
  ·rw [Xmw] at e2;have w0 := inr_iff.1 (notF e2);exact Xob (Xfc.1 e1) hp w0.1 w0.2 (fun c => by omega) h
noncomputable def Xpo : PC Tryz.prog := ⟨9, Xd2, [(false, [.row 29 Jc]), (false, [.int .i64])], Xge, Xdj, Xuc⟩
namespace Tt
def endA (f g T : Int) : Int -> Int -> List (Int × Bool) -> Int
 | w, v, [] => max 0 (v - f * (T - w))
 | w, v, e :: L => endA f g T e.1 (if e.2 then Sq.lev (max 0 (v - f * (e.1 - w)) + g) else max 0 (v - f * (e.1 - w))) L
def Up (T : Int) : Int -> List (Int × Bool) -> Prop
 | w, [] => w <= T
 | w, e :: L => w <= e.1 /\ Up T e.1 L
theorem Up.le {T : Int} : ∀ {L : List (Int × Bool)} {w w' : Int}, Up T w L -> w' <= w -> Up T w' L
 | [], w, w', h, hl => by have h : w <= T := h; exact (show w' <= T by omega)
 | e :: L, w, w', h, hl => ⟨by have := h.1; omega, h.2⟩
theorem end_mono {f g T : Int} : ∀ (L : List (Int × Bool)) (w v v' : Int), v <= v' -> endA f g T w v L <= endA f g T w v' L
 | [], w, v, v', h => by
  show max 0 (v - f * (T - w)) <= max 0 (v' - f * (T - w))
  generalize f * (T - w) = c;omega
 | e :: L, w, v, v', h => by
  refine end_mono L e.1 _ _ ?_;generalize f * (e.1 - w) = c
  split
  ·unfold Sq.lev; omega
  ·omega
theorem end_wait {f g T : Int} (hf : 0 <= f) : ∀ (L : List (Int × Bool)) (w w' v : Int), w <= w' -> Up T w' L -> endA f g T w' (max 0 (v - f * (w' - w))) L = endA f g T w v L := by
 have key : ∀ a w w' v : Int, w <= w' -> w' <= a -> max 0 (max 0 (v - f * (w' - w)) - f * (a - w')) = max 0 (v - f * (a - w)) := fun a w w' v h1 h2 => by
  have e : f * (a - w) = f * (w' - w) + f * (a - w') := by rw [<- Int.mul_add]; congr 1; omega
  have h3 : 0 <= f * (a - w') := Int.mul_nonneg hf (by omega);have h4 : 0 <= f * (w' - w) := Int.mul_nonneg hf (by omega);rw [e];generalize f * (w' - w) = x at *;generalize f * (a - w') = y at *;omega
 intro L w w' v hw hU;cases L with
 | nil => exact key T w w' v hw hU
 | cons e L =>
  simp only [endA];rw [key e.1 w w' v hw hU.1]
theorem end_skip {f g T : Int} (hf : 0 <= f) (hg : 0 <= g) {e : Int × Bool} {L : List (Int × Bool)} {w v : Int} (hv : v <= 1000) (hU : Up T w (e :: L)) : endA f g T w v L <= endA f g T w v (e :: L) := by
 rw [<- end_wait hf L w e.1 v hU.1 hU.2];refine end_mono L e.1 _ _ ?_;have h3 : 0 <= f * (e.1 - w) := Int.mul_nonneg hf (by have := hU.1; omega);generalize f * (e.1 - w) = x at *
 split
 ·unfold Sq.lev; omega
 ·omega
theorem end_sub {f g T : Int} (hf : 0 <= f) (hg : 0 <= g) {L' L : List (Int × Bool)} (h : L'.Sublist L) : ∀ (w v : Int), v <= 1000 -> Up T w L -> endA f g T w v L' <= endA f g T w v L := by
 induction h with
 | slnil => exact fun w v _ _ => Int.le_refl _
 | cons e h ih => exact fun w v hv hU => Int.le_trans (ih w v hv (hU.2.le hU.1)) (end_skip hf hg hv hU)
 | cons_cons e h ih =>
  intro w v hv hU;refine ih e.1 _ ?_ hU.2;have h3 : 0 <= f * (e.1 - w) := Int.mul_nonneg hf (by have := hU.1; omega);generalize f * (e.1 - w) = x at *
  split
  ·unfold Sq.lev; omega
  ·omega
def evl (s : Nat) (ev : Dt) : Nat -> Nat -> List (Int × Bool)
 | _, 0 => []
 | i, n + 1 => (Sq.evW ev i, decide (Sq.evS ev i = s)) :: evl s ev (i + 1) n
end Tt
theorem Xrp {sk is ev : Dt} (hS : Sq.SchOk sk is) (hE : Sq.EvOk sk is ev) (hK : ∀ i, i < ev.length -> Sq.evK ev i = 0) {T : Int} : ∀ (n i : Nat) (w : Int) (rg : Dt), i + n <= ev.length -> rg.length = sk.length -> Sq.RgOk rg -> Sq.Two rg -> (0 < n -> w <= Sq.evW ev i) ->
  (Sq.lvS sk is ev n i w rg).1 = true /\ ∀ s, s < sk.length -> Sq.rLo (Sq.fadeD sk (Sq.lvS sk is ev n i w rg).2.2 (T - (Sq.lvS sk is ev n i w rg).2.1)) s = Tt.endA (Sq.fHi sk s) (Sq.gLo sk s) T w (Sq.rLo rg s) (Tt.evl s ev i n) /\ Sq.rHi (Sq.fadeD sk (Sq.lvS sk is ev n i w rg).2.2 (T - (Sq.lvS sk is ev n i w rg).2.1)) s = Tt.endA (Sq.fLo sk s) (Sq.gHi sk s) T w (Sq.rHi rg s) (Tt.evl s ev i n)
 | 0, i, w, rg, hi, hl, hR, hT, hw => ⟨rfl, fun s hs => by
  have e := Xdp (sk := sk) (rg := rg) (k := T - w) (i := 0) (j := s) (by omega);rw [if_neg (Nat.not_lt_zero s)] at e;constructor
  ·show ((List.getD (Sq.fadF sk rg (T - w) 0) s []).getD 0 .z).int = _
   rw [e]; rfl
  ·show ((List.getD (Sq.fadF sk rg (T - w) 0) s []).getD 1 .z).int = _
   rw [e]; rfl⟩
 | n + 1, i, w, rg, hi, hl, hR, hT, hw => by
  have st := Xhr (sk := sk) (is := is) (ev := ev) (rg := rg) (n := n) (i := i) (w := w);have hF : Sq.FdOk sk := fun j hj => hS.skF j hj;have f1 := Xuo hR hF (show 0 <= Sq.evW ev i - w by have := hw (by omega); omega) hl;have f3 := Xem sk rg (Sq.evW ev i - w);have k0 := hK i (by omega);have hs := hE.sk i (by omega);have hg := hS.skG (Sq.evS ev i).toNat (by omega);have hr := f1 (Sq.evS ev i).toNat (by rw [f3]; omega);have eLo : Sq.hpLo sk is (Sq.fadeD sk rg (Sq.evW ev i - w)) ev i = Sq.lev (Sq.rLo (Sq.fadeD sk rg (Sq.evW ev i - w)) (Sq.evS ev i).toNat + Sq.gLo sk (Sq.evS ev i).toNat) := by unfold Sq.hpLo; rw [if_pos k0]
  have eHi : Sq.hpHi sk is (Sq.fadeD sk rg (Sq.evW ev i - w)) ev i = Sq.lev (Sq.rHi (Sq.fadeD sk rg (Sq.evW ev i - w)) (Sq.evS ev i).toNat + Sq.gHi sk (Sq.evS ev i).toNat) := by unfold Sq.hpHi; rw [if_pos k0]
  have hd : ¬ Sq.hpHi sk is (Sq.fadeD sk rg (Sq.evW ev i - w)) ev i < Sq.hpLo sk is (Sq.fadeD sk rg (Sq.evW ev i - w)) ev i := by
   rw [eLo, eHi];unfold Sq.lev;omega
  have r := Xrp hS hE hK (T := T) n (i + 1) (Sq.evW ev i) (Sq.hpD sk is (Sq.fadeD sk rg (Sq.evW ev i - w)) ev i) (by omega) (by rw [Sq.hpD, List.length_set, f3]; exact hl) (Xun hS hE (by omega) (by rw [f3]; exact hl) f1 hd) (Xnt (Xnv _ _ _)) (fun _ => hE.up i (by omega));rw [st.2 hd];refine ⟨r.1, fun s h2 => ?_⟩;rw [(r.2 s h2).1, (r.2 s h2).2];have g := Xgb (rg := Sq.fadeD sk rg (Sq.evW ev i - w)) (i := (Sq.evS ev i).toNat) (j := s) (a := Sq.hpLo sk is (Sq.fadeD sk rg (Sq.evW ev i - w)) ev i) (b := Sq.hpHi sk is (Sq.fadeD sk rg (Sq.evW ev i - w)) ev i) (by rw [f3]; omega);have e := Xdp (sk := sk) (rg := rg) (k := Sq.evW ev i - w) (i := 0) (j := s) (by omega);rw [if_neg (Nat.not_lt_zero s)] at e;have e1 : Sq.rLo (Sq.fadeD sk rg (Sq.evW ev i - w)) s = max 0 (Sq.rLo rg s - Sq.fHi sk s * (Sq.evW ev i - w)) := by
   show ((List.getD (Sq.fadF sk rg (Sq.evW ev i - w) 0) s []).getD 0 .z).int = _
   rw [e]; rfl
  have e2 : Sq.rHi (Sq.fadeD sk rg (Sq.evW ev i - w)) s = max 0 (Sq.rHi rg s - Sq.fLo sk s * (Sq.evW ev i - w)) := by
   show ((List.getD (Sq.fadF sk rg (Sq.evW ev i - w) 0) s []).getD 1 .z).int = _
   rw [e]; rfl
  simp only [Tt.evl, Tt.endA];unfold Sq.hpD;rw [g.1, g.2]
  by_cases c : Sq.evS ev i = s
  ·have c2 : (Sq.evS ev i).toNat = s := by omega
   rw [if_pos c2, if_pos c2, decide_eq_true c, if_pos rfl, if_pos rfl, eLo, eHi, c2, e1, e2];exact ⟨rfl, rfl⟩
  ·have c2 : ¬ (Sq.evS ev i).toNat = s := by omega
   rw [if_neg c2, if_neg c2, decide_eq_false c, e1, e2];exact ⟨rfl, rfl⟩
namespace Tt
def tk (ls : Dt) (who w : Int) (i : Nat) : Bool := decide ((cel ls i 0).int = who) && (decide (0 <= (cel ls i 2).int) && (decide ((cel ls i 2).int.tdiv 168 = w) && decide (0 <= (cel ls i 1).int)))
def drvn (ls : Dt) (i : Nat) : Bool := decide ((cel ls i 4).int = 2) || decide ((cel ls i 4).int = 3)
def ev1 (ls : Dt) (m w : Int) (i : Nat) : List Cl := [.i w, .i 0, .i ((cel ls i 1).int.tmod m), .i 0, .i 0]
def selA (ls : Dt) (who m w : Int) : Nat -> Nat -> Dt
 | _, 0 => []
 | i, n + 1 => (if tk ls who w i then [ev1 ls m w i] else []) ++ selA ls who m w (i + 1) n
def selD (ls : Dt) (who m w : Int) : Nat -> Nat -> Dt
 | _, 0 => []
 | i, n + 1 => (if tk ls who w i && drvn ls i then [ev1 ls m w i] else []) ++ selD ls who m w (i + 1) n
def wkA (ls : Dt) (who m : Int) : Nat -> Nat -> Dt
 | _, 0 => []
 | w, n + 1 => selA ls who m w 0 ls.length ++ wkA ls who m (w + 1) n
def wkD (ls : Dt) (who m : Int) : Nat -> Nat -> Dt
 | _, 0 => []
 | w, n + 1 => selD ls who m w 0 ls.length ++ wkD ls who m (w + 1) n
theorem sel_sub (ls : Dt) (who m w : Int) : ∀ (n i : Nat), (selD ls who m w i n).Sublist (selA ls who m w i n)
 | 0, i => List.Sublist.slnil
 | n + 1, i => by
  simp only [selA, selD];refine List.Sublist.append ?_ (sel_sub ls who m w n (i + 1));cases tk ls who w i <;> cases drvn ls i <;> simp
theorem wk_sub (ls : Dt) (who m : Int) : ∀ (n w : Nat), (wkD ls who m w n).Sublist (wkA ls who m w n)
 | 0, w => List.Sublist.slnil
 | n + 1, w => (sel_sub ls who m w ls.length 0).append (wk_sub ls who m n (w + 1))
def Row (m lo hi : Int) (r : List Cl) : Prop := ∃ w s, r = [.i w, .i 0, .i s, .i 0, .i 0] /\ (lo <= w /\ w <= hi) /\ 0 <= s /\ s < m
def wkOf (r : List Cl) : Int := (r.getD 0 .z).int
def skOf (r : List Cl) : Int := (r.getD 2 .z).int
theorem sel_rows {ls : Dt} {who m w : Int} (hm : 0 < m) : ∀ (n i : Nat), ∀ r ∈ selA ls who m w i n, Row m w w r
 | 0, i, r, h => by simp [selA] at h
 | n + 1, i, r, h => by
  simp only [selA, List.mem_append] at h;rcases h with h | h
  ·split at h
   ·rename_i c;rw [List.mem_singleton] at h;simp only [tk, Bool.and_eq_true, decide_eq_true_eq] at c;refine ⟨w, (cel ls i 1).int.tmod m, h, ⟨Int.le_refl _, Int.le_refl _⟩, ?_, ?_⟩
    ·rw [Int.tmod_eq_emod_of_nonneg c.2.2.2]; exact Int.emod_nonneg _ (by omega)
    ·rw [Int.tmod_eq_emod_of_nonneg c.2.2.2]; exact Int.emod_lt_of_pos _ hm
   ·simp at h
  ·exact sel_rows hm n (i + 1) r h
theorem wk_rows {ls : Dt} {who m : Int} (hm : 0 < m) : ∀ (n w : Nat), ∀ r ∈ wkA ls who m w n, Row m w (w + n - 1) r
 | 0, w, r, h => by simp [wkA] at h
 | n + 1, w, r, h => by
  simp only [wkA, List.mem_append] at h;rcases h with h | h
  ·obtain ⟨a, s, e, h1, h2⟩ := sel_rows hm _ _ r h;exact ⟨a, s, e, by omega, h2⟩
  ·obtain ⟨a, s, e, h1, h2⟩ := wk_rows hm n (w + 1) r h;exact ⟨a, s, e, by omega, h2⟩
theorem Row.wk {m lo hi : Int} {r : List Cl} (h : Row m lo hi r) : lo <= wkOf r /\ wkOf r <= hi := by
 obtain ⟨w, s, rfl, h1, h2⟩ := h;exact h1
theorem wk_up {ls : Dt} {who m : Int} (hm : 0 < m) : ∀ (n w : Nat), (wkA ls who m w n).Pairwise fun a b => wkOf a <= wkOf b
 | 0, w => List.Pairwise.nil
 | n + 1, w => by
  simp only [wkA];refine List.pairwise_append.2 ⟨?_, wk_up hm n (w + 1), fun a ha b hb => ?_⟩
  ·refine List.Pairwise.imp_of_mem (R := fun _ _ => True) (fun {a b} ha hb _ => ?_) (List.pairwise_of_forall fun _ _ => trivial);have h1 := (sel_rows hm _ _ a ha).wk;have h2 := (sel_rows hm _ _ b hb).wk;omega
  ·have h1 := (sel_rows hm _ _ a ha).wk;have h2 := (wk_rows hm _ _ b hb).wk;omega
def early (ls : Dt) (a b : Int) (i : Nat) : Bool := decide (0 <= (cel ls i 2).int) && (decide (a <= (cel ls i 2).int.tdiv 168) && decide ((cel ls i 2).int.tdiv 168 < b))
def cntE (ls : Dt) (a b : Int) : Nat -> Nat -> Nat
 | _, 0 => 0
 | i, n + 1 => (if early ls a b i then 1 else 0) + cntE ls a b (i + 1) n
theorem cntE_le (ls : Dt) (a b : Int) : ∀ (n i : Nat), cntE ls a b i n <= n
 | 0, i => Nat.le_refl _
 | n + 1, i => by
  have := cntE_le ls a b n (i + 1);simp only [cntE]
  split <;> omega
theorem cntE_add (ls : Dt) (a b c : Int) (h1 : a <= b) (h2 : b <= c) : ∀ (n i : Nat), cntE ls a b i n + cntE ls b c i n = cntE ls a c i n
 | 0, i => rfl
 | n + 1, i => by
  have := cntE_add ls a b c h1 h2 n (i + 1);have e : ∀ p q : Int, (if early ls p q i then (1 : Nat) else 0) = if 0 <= (cel ls i 2).int /\ p <= (cel ls i 2).int.tdiv 168 /\ (cel ls i 2).int.tdiv 168 < q then 1 else 0 := fun p q => by
   unfold early;simp only [Bool.and_eq_true, decide_eq_true_eq]
  simp only [cntE, e]
  split <;> split <;> split <;> omega
theorem selA_len (ls : Dt) (who m w : Int) : ∀ (n i : Nat), (selA ls who m w i n).length <= cntE ls w (w + 1) i n
 | 0, i => Nat.le_refl _
 | n + 1, i => by
  have := selA_len ls who m w n (i + 1);simp only [selA, cntE, List.length_append]
  by_cases c : tk ls who w i = true
  ·have c2 : early ls w (w + 1) i = true := by
    simp only [tk, early, Bool.and_eq_true, decide_eq_true_eq] at c ⊢;omega
   rw [if_pos c, if_pos c2, List.length_singleton];omega
  ·rw [if_neg c, List.length_nil];omega
theorem wkA_len (ls : Dt) (who m : Int) : ∀ (n w : Nat), (wkA ls who m w n).length <= cntE ls w (w + n) 0 ls.length
 | 0, w => Nat.zero_le _
 | n + 1, w => by
  have h1 := selA_len ls who m w ls.length 0;have h2 := wkA_len ls who m n (w + 1);have h3 := cntE_add ls w (w + 1) (w + (n + 1 : Nat)) (by omega) (by omega) ls.length 0;simp only [wkA, List.length_append];rw [show (((w + 1 : Nat) : Int) + (n : Nat)) = (w : Int) + (n + 1 : Nat) by omega, show ((w + 1 : Nat) : Int) = (w : Int) + 1 by omega] at h2;omega
theorem evl_eq (s : Nat) (ev : Dt) : ∀ (n i : Nat), i + n = ev.length -> evl s ev i n = (ev.drop i).map fun r => (wkOf r, decide (skOf r = s))
 | 0, i, h => by rw [List.drop_of_length_le (by omega)]; rfl
 | n + 1, i, h => by
  rw [evl, evl_eq s ev n (i + 1) (by omega), List.drop_eq_getElem_cons (show i < ev.length by omega), List.map_cons];have e : ev.getD i [] = ev[i] := by rw [List.getD_eq_getElem?_getD, List.getElem?_eq_getElem (by omega)]; rfl
  congr 1
  unfold Sq.evW Sq.evS cel wkOf skOf;rw [e]
theorem up_of {T : Int} : ∀ (L : List (Int × Bool)) (w : Int), (∀ e ∈ L, w <= e.1 /\ e.1 <= T) -> L.Pairwise (fun a b => a.1 <= b.1) -> w <= T -> Up T w L
 | [], w, _, _, h => h
 | e :: L, w, h, hp, hw => by
  have h1 := h e List.mem_cons_self;have hp := List.pairwise_cons.1 hp;exact ⟨h1.1, up_of L e.1 (fun x hx => ⟨hp.1 x hx, (h x (List.mem_cons_of_mem _ hx)).2⟩) hp.2 h1.2⟩
structure EvsOk (m : Int) (ev : Dt) : Prop where
 l60 : ev.length <= 60
 row : ∀ r ∈ ev, Row m 0 28 r
 up : ev.Pairwise fun a b => wkOf a <= wkOf b
theorem EvsOk.sub {m : Int} {ev ev' : Dt} (h : EvsOk m ev) (hs : ev'.Sublist ev) : EvsOk m ev' :=
 ⟨Nat.le_trans hs.length_le h.l60, fun r hr => h.row r (hs.subset hr), h.up.sublist hs⟩
theorem wk_ok {ls : Dt} {who m : Int} (hm : 0 < m) (hl : ls.length <= 60) : EvsOk m (wkA ls who m 0 29) := by
 refine ⟨?_, fun r hr => ?_, wk_up hm 29 0⟩
 ·have h1 := wkA_len ls who m 29 0;have h2 := cntE_le ls (0 : Nat) ((0 : Nat) + (29 : Nat)) ls.length 0;omega
 ·obtain ⟨a, s, e, h1, h2⟩ := wk_rows hm 29 0 r hr;exact ⟨a, s, e, by omega, h2⟩
theorem EvsOk.at {m : Int} {ev : Dt} (h : EvsOk m ev) {i : Nat} (hi : i < ev.length) : (0 <= Sq.evW ev i /\ Sq.evW ev i <= 28) /\ Sq.evK ev i = 0 /\ 0 <= Sq.evS ev i /\ Sq.evS ev i < m := by
 obtain ⟨w, s, e, h1, h2⟩ := h.row ev[i] (List.getElem_mem hi);have e2 : ev.getD i [] = [.i w, .i 0, .i s, .i 0, .i 0] := by rw [List.getD_eq_getElem?_getD, List.getElem?_eq_getElem hi, <- e]; rfl
 unfold Sq.evW Sq.evK Sq.evS cel;rw [e2];exact ⟨h1, rfl, h2⟩
theorem EvsOk.evs {sk is ev : Dt} (h : EvsOk sk.length ev) : Sq.EvOk sk is ev where
 l60 := h.l60
 wk := fun i hi => by have := (h.at hi).1; omega
 up := fun i hi => by
  have := List.pairwise_iff_getElem.1 h.up i (i + 1) (by omega) hi (by omega);unfold Sq.evW cel;rw [List.getD_eq_getElem?_getD (l := ev), List.getD_eq_getElem?_getD (l := ev), List.getElem?_eq_getElem (by omega), List.getElem?_eq_getElem hi];exact this
 kd := fun i hi => .inl (h.at hi).2.1
 sk := fun i hi => (h.at hi).2.2
 is := fun i hi e => by rw [(h.at hi).2.1] at e; cases e
def start (n : Nat) : Dt := List.replicate n [.i 300, .i 600]
theorem start_at {n i : Nat} (h : i < n) : Sq.rLo (start n) i = 300 /\ Sq.rHi (start n) i = 600 := by
 have e : (List.replicate n [Cl.i 300, Cl.i 600]).getD i [] = [Cl.i 300, Cl.i 600] := by
  rw [List.getD_eq_getElem?_getD, List.getElem?_replicate, if_pos h];rfl
 unfold Sq.rLo Sq.rHi cel start;rw [e];exact ⟨rfl, rfl⟩
theorem start_two (n : Nat) : Sq.Two (start n) := fun i hi => ⟨300, 600, by
 unfold start at hi ⊢;rw [List.length_replicate] at hi;rw [List.getD_eq_getElem?_getD, List.getElem?_replicate, if_pos hi];rfl⟩
theorem start_len (n : Nat) : (start n).length = n := List.length_replicate
theorem start_ok (n : Nat) : Sq.RgOk (start n) := fun i hi => by
 rw [start_len] at hi;rw [(start_at hi).1, (start_at hi).2];omega
theorem aft {sk is ev : Dt} (hS : Sq.SchOk sk is) (h : EvsOk sk.length ev) : Sq.aftE sk is (start sk.length) ev 30 = 0 /\ (Sq.aftD sk is (start sk.length) ev 30).length = sk.length /\ ∀ s, s < sk.length ->
  Sq.rLo (Sq.aftD sk is (start sk.length) ev 30) s = endA (Sq.fHi sk s) (Sq.gLo sk s) 30 0 300 (ev.map fun r => (wkOf r, decide (skOf r = s))) /\ Sq.rHi (Sq.aftD sk is (start sk.length) ev 30) s = endA (Sq.fLo sk s) (Sq.gHi sk s) 30 0 600 (ev.map fun r => (wkOf r, decide (skOf r = s))) := by
 have hE : Sq.EvOk sk is ev := h.evs;have hH : Sq.HisOk sk is (start sk.length) ev := ⟨hS, start_len _, start_ok _, hE⟩;have r := Xrp hS hE (fun i hi => (h.at hi).2.1) (T := 30) ev.length 0 0 (start sk.length) (by omega) (start_len _) (start_ok _) (start_two _) (fun h0 => (h.at h0).1.1);have r1 : (Sq.lvA sk is (start sk.length) ev).1 = true := r.1;have e0 : Sq.aftE sk is (start sk.length) ev 30 = 0 := by
  rw [Sq.aftE, if_pos (Xfc.2 hH), if_pos (inr_iff.2 (by omega)), if_neg ?_, if_pos r1];rintro ⟨h1, h2⟩;have := (h.at (show ev.length - 1 < ev.length by omega)).1;omega
 have ed : Sq.aftD sk is (start sk.length) ev 30 = Sq.fadeD sk (Sq.lvA sk is (start sk.length) ev).2.2 (30 - (Sq.lvA sk is (start sk.length) ev).2.1) := by rw [Sq.aftD, if_pos e0]
 refine ⟨e0, ?_, fun s hs => ?_⟩
 ·rw [ed, Xem];exact (Xud hS hE ev.length 0 0 (start sk.length) (by omega) (start_len _) (start_ok _) (start_two _) (fun h0 => (h.at h0).1.1) r.1).2.1
 ·have q := r.2 s hs;rw [evl_eq s ev ev.length 0 (by omega), List.drop_zero, (start_at hs).1, (start_at hs).2] at q;rw [ed];exact q
theorem aft_le {sk is ev ev' : Dt} (hS : Sq.SchOk sk is) (h : EvsOk sk.length ev) (hs : ev'.Sublist ev) : ∀ s, s < sk.length ->
  Sq.rLo (Sq.aftD sk is (start sk.length) ev' 30) s <= Sq.rLo (Sq.aftD sk is (start sk.length) ev 30) s /\ Sq.rHi (Sq.aftD sk is (start sk.length) ev' 30) s <= Sq.rHi (Sq.aftD sk is (start sk.length) ev 30) s := fun s h1 => by
 have a := (aft hS h).2.2 s h1;have b := (aft hS (h.sub hs)).2.2 s h1;have hg := hS.skG s h1;have hf := hS.skF s h1;have hU : Up 30 0 (ev.map fun r => (wkOf r, decide (skOf r = s))) := up_of _ _ (fun e he => by
  obtain ⟨r, hr, rfl⟩ := List.mem_map.1 he;have := (h.row r hr).wk;exact ⟨this.1, by have := this.2; show wkOf r <= 30; omega⟩) (List.pairwise_map.2 h.up) (by omega)
 rw [a.1, a.2, b.1, b.2];exact ⟨end_sub (by omega) (by omega) (hs.map _) 0 300 (by omega) hU, end_sub (by omega) (by omega) (hs.map _) 0 600 (by omega) hU⟩
end Tt
abbrev Xeb : List Ty := [.str, .int .i64, .int .i64, .int .i64]
abbrev Xhf : List Ty := [.int .i64, .int .i64]
namespace Sp
def nm (xs : Dt) (i : Nat) : ByteArray := (cel xs i 0).str
def dup (xs : Dt) (name : ByteArray) : Nat -> Nat -> Bool
 | _, 0 => false
 | k, n + 1 => eqS (nm xs k) name || dup xs name (k + 1) n
end Sp
noncomputable def T3 : Tab Tryz.prog := ⟨[pc_in, Xdd, Xjs], [], []⟩
def Xji [InW] (e : List Ed) (K : Nat -> List Ed -> Prop) : Prop := match e with
 | [.i i, .i k, .ro _ cars, .s name] => Pre (0 <= k /\ k <= i /\ i < cars.xs.length) (Vif (Sp.dup cars.xs name k.toNat (i - k).toNat) (K 1 []) (K 0 [.i i, .ro _ cars, .s name]))
 | _ => False
noncomputable def Xkr : LC where
 len := 46
 T := [(1, .int .i64), (2, (.ptr 1 0)), (5, (.ptr 4 0)), (6, .int .i64)]
 H := [(1, .blk 32 [(.opq 7), .rs Xeb, (.opq 10), (.opq 13), (.opq 16), (.opq 19), (.opq 22)]), (4, .blk 119 [.str, (.opq 25), (.opq 28), (.opq 31)])]
 W := (rgg 16 14)
 outs := [⟨.exit 0, [(1, .int .i64), (2, (.ptr 1 0)), (5, (.ptr 4 0))], [(1, .blk 32 [(.opq 7), .rs Xeb, (.opq 10), (.opq 13), (.opq 16), (.opq 19), (.opq 22)]), (4, .blk 119 [.str, (.opq 25), (.opq 28), (.opq 31)])], ([6] ++ rgg 16 14)⟩, ⟨.ret, [(4, (.lit (.int .i64 5)))], [], ([1, 2, 5, 6] ++ rgg 16 14)⟩]
 spec := Xji
def Xik [W : InW] (i k : Int) (cars : Ro Xeb) (name : ByteArray) (A : List Ed -> Prop) (K : Nat -> List Ed -> Prop) : Prop :=
 Vif (decide (k < i)) (Need (decide (0 <= k) && decide (k < (↑(cars.xs.length) : Int))) (Need (decide (k.toNat < cars.xs.length)) (Vif (eqS (cel cars.xs k.toNat (0 : Nat)).str name) (K (0+1) []) (Ar .i64 (k + 1) fun z => A [.i i, .i z, .ro _ cars, .s name])))) (K 0 [.i i, .ro _ cars, .s name])
theorem Xsa (W : InW) (i k cars name A K) : Ye9 { cxT Tryz.prog TT T3 1000 50 with fn := 16 } 1000 (Ynh Tryz.prog 16 6) (Ydy 46 [(1, .si .i64 i), (2, .ptr 1 0), (5, .ptr 4 0), (6, .si .i64 k)] (rgg 16 14)) [(1, .blk 32 [.opq 7, .rs _ cars, .opq 10, .opq 13, .opq 16, .opq 19, .opq 22]), (4, .blk 119 [.ss name, .opq 25, .opq 28, .opq 31])] (Yth Xkr A K) = Xik i k cars name A K := by kernel_rfl
def Xj7 : Prop := ∀ (W : InW) (body a : Code), (Tryz.prog.funcs[16]?).bind (·.body) = some body -> a ∈ Yw body -> Yfu a = 6 -> @Yma W Tryz.prog a (@Ysp W Xkr)
theorem Xtf (meas : [InW] -> List Ed -> Nat) (hyp_ : ∀ (W : InW) i k cars name K, Xji [.i i, .i k, .ro _ cars, .s name] K -> ∀ A : List Ed -> Prop, (∀ e, meas e < meas [.i i, .i k, .ro _ cars, .s name] -> Xji e K -> A e) -> Xik i k cars name A K) : Xj7 :=
 LE.okOf' (fun W => @TT W) (fun W => @Xb W) Xa T3 1000 50 (by kernel_rfl) Xkr (fun W => @meas W) fun W i k cars name K hs =>
  (Xsa W i k cars name (fun e => meas e < meas [.i i, .i k, .ro _ cars, .s name] /\ Xji e K) K).mpr (hyp_ W i k cars name K hs _ fun e h1 h2 => ⟨h1, h2⟩)
theorem Xv6 : Xj7 := Xtf (fun e => match e with | [.i i, .i k, _, _] => (i - k).toNat | _ => 0) fun W i k cars name K hs A hA => by
 obtain ⟨⟨h0, h1, h2⟩, hk⟩ := hs;unfold Xik;have hm := cars.len;refine vifd (fun e => ned (by simp; omega) (nedd (by omega) (vif (fun e2 => ?_) fun e2 => ar64 (by simp only [maxLen] at hm; omega) (hA _ ?_ ?_)))) fun e => ?_
 ·refine hk.1 ?_;rw [show (i - k).toNat = (i - (k + 1)).toNat + 1 by omega];simp only [Sp.dup, Sp.nm, e2, Bool.true_or]
 ·show (i - (k + 1)).toNat < (i - k).toNat
  omega
 ·refine ⟨⟨by omega, by omega, h2⟩, ?_⟩;rw [show (i - k).toNat = (i - (k + 1)).toNat + 1 by omega] at hk;simp only [Sp.dup, Sp.nm, e2, Bool.false_or] at hk;rw [show (k + 1).toNat = k.toNat + 1 by omega];exact hk
 ·refine hk.2 ?_;rw [show (i - k).toNat = 0 by omega];rfl
noncomputable def Xws : LE Tryz.prog := ⟨16, 6, fun W => @Ysp W Xkr, Xv6⟩
noncomputable def T4 : Tab Tryz.prog := ⟨T3.pcs, [Xws], []⟩
def Xof [W : InW] (s_Learners : Ro Jd) (s_Cars : Ro Xeb) (s_Price s_Excess s_Lo s_Hi : Int) (s_Terms : Ro Xhf) (i : Int) (Q : DS -> Prop) : Prop :=
 Need (decide (0 <= i) && decide (i < (↑(s_Cars.xs.length) : Int))) (Need (decide (i.toNat < s_Cars.xs.length)) (Pre ((cel s_Cars.xs i.toNat Zh).str.size <= 9223372036854775807) (Vif (!Bk.nameOk (cel s_Cars.xs i.toNat Zh).str) (Q [[Cl.i 6]]) (Pre (Ze <= 0 /\ 0 <= i /\ i < (↑(s_Cars.xs.length) : Int)) (Vif (Sp.dup s_Cars.xs (cel s_Cars.xs i.toNat Zh).str (Int.toNat Ze) (i - 0).toNat) (Q [[Cl.i 5]]) (Pre True (Vif (!Sp.inr (cel s_Cars.xs i.toNat (0+1)).int Ze (1000000 : Int)) (Q [[Cl.i 7]]) (Pre True (Vif (!Sp.inr (cel s_Cars.xs i.toNat (Zh + 1 + 1)).int (1 : Int) (1000000 : Int)) (Q [[Cl.i 7]]) (Pre True (Vif (!Sp.inr (cel s_Cars.xs i.toNat (Zh + 1 + 1 + 1)).int Ze (255 : Int)) (Q [[Cl.i 7]]) (Q [[Cl.i 0]]))))))))))))
theorem Xu3 (W : InW) (s_Learners s_Cars s_Price s_Excess s_Lo s_Hi s_Terms i Q) : Yvp (cxT Tryz.prog TT T4 1000 50) 1000 16 [.agg [.rs _ s_Learners, .rs _ s_Cars, .si .i64 s_Price, .si .i64 s_Excess, .si .i64 s_Lo, .si .i64 s_Hi, .rs _ s_Terms], .si .i64 i] [] 0 (Yzq [(false, [.int .i64])] Q) (fun _ _ _ _ => Stuck 421) = Xof s_Learners s_Cars s_Price s_Excess s_Lo s_Hi s_Terms i Q := by kernel_rfl
abbrev Xh2 : List AT := [.agg [.sl Jd, .sl Xeb, .int .i64, .int .i64, .int .i64, .int .i64, .sl Xhf], .one (.int .i64)]
theorem Xvp {pre : DS -> Prop} {res : DS -> DS} (hyp_ : ∀ (W : InW) (s_Learners : Ro Jd) (s_Cars : Ro Xeb) (s_Price s_Excess s_Lo s_Hi : Int) (s_Terms : Ro Xhf) (i : Int), pre [[.l s_Learners.xs, .l s_Cars.xs, .i s_Price, .i s_Excess, .i s_Lo, .i s_Hi, .l s_Terms.xs], [.i i]] -> ∀ Q : DS -> Prop, Q (res [[.l s_Learners.xs, .l s_Cars.xs, .i s_Price, .i s_Excess, .i s_Lo, .i s_Hi, .l s_Terms.xs], [.i i]]) -> Xof s_Learners s_Cars s_Price s_Excess s_Lo s_Hi s_Terms i Q) : PureOk Tryz.prog 16 Xh2 [(false, [.int .i64])] pre res :=
 PureOk.of' (fun W => @TT W) (fun W => @Xb W) Xa T4 1000 50 fun W s_Learners s_Cars s_Price s_Excess s_Lo s_Hi s_Terms i hp =>
  (Xu3 W s_Learners s_Cars s_Price s_Excess s_Lo s_Hi s_Terms i (fun o => o = res [[.l s_Learners.xs, .l s_Cars.xs, .i s_Price, .i s_Excess, .i s_Lo, .i s_Hi, .l s_Terms.xs], [.i i]])).mpr (hyp_ W s_Learners s_Cars s_Price s_Excess s_Lo s_Hi s_Terms i hp _ rfl)
namespace Sp
def carErr (cars : Dt) (i : Nat) : Int :=
 if Bk.nameOk (nm cars i) then (if dup cars (nm cars i) 0 i then 5 else if inr (cel cars i 1).int 0 1000000 && inr (cel cars i 2).int 1 1000000 && inr (cel cars i 3).int 0 255 then 0 else 7) else 6
def NamesOk (xs : Dt) : Prop := ∀ i : Nat, (nm xs i).size <= 9223372036854775807
end Sp
abbrev Xhl (ds : DS) : DS := match ds with | [[_, .l cars, _, _, _, _, _], [.i i]] => [[.i (Sp.carErr cars i.toNat)]] | _ => []
abbrev Xmq (ds : DS) : Prop := match ds with | [[_, .l cars, _, _, _, _, _], [.i i]] => 0 <= i /\ i < cars.length /\ Sp.NamesOk cars | _ => False
theorem okcar : PureOk Tryz.prog 16 Xh2 [(false, [.int .i64])] Xmq Xhl :=
 Xvp fun W _ cars _ _ _ _ _ i hp Q h => by
  obtain ⟨h1, h2, h3⟩ := hp;unfold Xof;delta Ze Zh;have hn := h3 i.toNat;simp only [Xhl, Sp.carErr] at h;simp only [Sp.nm] at hn h;refine ned (by simp [h1, h2]) (nedd (by omega) ⟨hn, vif (fun e => ?_) fun e => ⟨by omega, ?_⟩⟩)
  ·simp_all
  rw [show (i - 0).toNat = i.toNat by omega, show Int.toNat 0 = 0 from rfl];refine vif (fun e2 => ?_) fun e2 => ⟨trivial, vif (fun e3 => ?_) fun e3 => ⟨trivial, vif (fun e4 => ?_) fun e4 => ⟨trivial, vif (fun e5 => ?_) fun e5 => ?_⟩⟩⟩ <;> simp_all
noncomputable def Xu5 : PC Tryz.prog := ⟨16, Xh2, [(false, [.int .i64])], Xmq, Xhl, okcar⟩
namespace Sp
def nameErr (xs : Dt) (i : Nat) : Int := if Bk.nameOk (nm xs i) then (if dup xs (nm xs i) 0 i then 5 else 0) else 6
def before (rt : Dt) (i : Nat) : Int := (cel rt i 0).int
def feeOf (rt : Dt) (i : Nat) : Int := (cel rt i 1).int
def termErr (rt : Dt) (i : Nat) : Int :=
 if inr (before rt i) 0 240 && inr (feeOf rt i) 0 1000 then
  (if decide (0 < i) && (decide (before rt (i - 1) <= before rt i) || decide (feeOf rt i < feeOf rt (i - 1))) then 2 else 0) else 7
def hasE (f : Nat -> Int) : Nat -> Nat -> Bool
 | _, 0 => false
 | i, n + 1 => !decide (f i = 0) || hasE f (i + 1) n
def idxE (f : Nat -> Int) : Nat -> Nat -> Nat
 | i, 0 => i
 | i, n + 1 => if f i = 0 then idxE f (i + 1) n else i
end Sp
theorem Xhg [InW] {f : Nat -> Int} {i n : Nat} {K1 : Nat -> Int -> Prop} {K0 : Prop} (h : Vif (Sp.hasE f i (n + 1)) (K1 (Sp.idxE f i (n + 1)) (f (Sp.idxE f i (n + 1)))) K0) :
  (f i ≠ 0 -> K1 i (f i)) /\ (f i = 0 -> Vif (Sp.hasE f (i + 1) n) (K1 (Sp.idxE f (i + 1) n) (f (Sp.idxE f (i + 1) n))) K0) := by
 simp only [Sp.hasE, Sp.idxE] at h;refine ⟨fun e => ?_, fun e => ?_⟩
 ·have := h.1 (by simp [e]);simpa [e] using this
 ·simpa [e] using h
noncomputable def T5 : Tab Tryz.prog := ⟨Xu5 :: T3.pcs, [], []⟩
def Xex [InW] (e : List Ed) (K : Nat -> List Ed -> Prop) : Prop := match e with
 | [.i i, .i k, .ro _ rl, .ro _ rc, .i pr, .i ex, .i lo, .i hi, .ro _ rt] => Pre (0 <= k /\ k <= i /\ i < rl.xs.length) (Vif (Sp.dup rl.xs (Sp.nm rl.xs i.toNat) k.toNat (i - k).toNat) (K 1 [.i i]) (K 0 [.i i, .ro _ rl, .ro _ rc, .i pr, .i ex, .i lo, .i hi, .ro _ rt]))
 | _ => False
noncomputable def Xe9 : LC where
 len := 166
 T := [(1, (.ptr 1 0)), (5, .int .i64), (6, .int .i64)]
 H := [(1, .blk 32 [.rs Jd, .rs Ivs, .int .i64, .int .i64, .int .i64, .int .i64, .rs Jc])]
 W := ([2, 3, 4] ++ rgg 74 17)
 outs := [⟨.exit 2, [(1, (.ptr 1 0)), (5, .int .i64)], [(1, .blk 32 [.rs Jd, .rs Ivs, .int .i64, .int .i64, .int .i64, .int .i64, .rs Jc])], ([2, 3, 4, 6] ++ rgg 74 17)⟩, ⟨.ret, [(2, (.lit (.int .i64 2))), (3, .int .i64), (4, (.lit (.int .i64 5)))], [], ([1, 5, 6] ++ rgg 74 17)⟩]
 spec := Xex
def Xf0 [W : InW] (i k : Int) (rl : Ro Jd) (rc : Ro Ivs) (pr ex lo hi : Int) (rt : Ro Jc) (A : List Ed -> Prop) (K : Nat -> List Ed -> Prop) : Prop :=
 Vif (decide (k < i)) (Need (decide (0 <= k) && decide (k < (↑(rl.xs.length) : Int))) (Need (decide (k.toNat < rl.xs.length)) (Need (decide (0 <= i) && decide (i < (↑(rl.xs.length) : Int))) (Need (decide (i.toNat < rl.xs.length)) (Vif (eqS (cel rl.xs k.toNat (0 : Nat)).str (cel rl.xs i.toNat (0 : Nat)).str) (K (0+1) [.i i]) (Ar .i64 (k + 1) fun z => A [.i i, .i z, .ro _ rl, .ro _ rc, .i pr, .i ex, .i lo, .i hi, .ro _ rt])))))) (K 0 [.i i, .ro _ rl, .ro _ rc, .i pr, .i ex, .i lo, .i hi, .ro _ rt])
theorem Xor (W : InW) (i k rl rc pr ex lo hi rt A K) : Ye9 { cxT Tryz.prog TT T5 1000 50 with fn := 6 } 1000 (Ynh Tryz.prog 6 14) (Ydy 166 [(1, .ptr 1 0), (5, .si .i64 i), (6, .si .i64 k)] ([2, 3, 4] ++ rgg 74 17)) [(1, .blk 32 [.rs _ rl, .rs _ rc, .si .i64 pr, .si .i64 ex, .si .i64 lo, .si .i64 hi, .rs _ rt])] (Yth Xe9 A K) = Xf0 i k rl rc pr ex lo hi rt A K := by kernel_rfl
def Xgq : Prop := ∀ (W : InW) (body a : Code), (Tryz.prog.funcs[6]?).bind (·.body) = some body -> a ∈ Yw body -> Yfu a = 14 -> @Yma W Tryz.prog a (@Ysp W Xe9)
theorem Xp2 (meas : [InW] -> List Ed -> Nat) (hyp_ : ∀ (W : InW) i k rl rc pr ex lo hi rt K, Xex [.i i, .i k, .ro _ rl, .ro _ rc, .i pr, .i ex, .i lo, .i hi, .ro _ rt] K -> ∀ A : List Ed -> Prop, (∀ e, meas e < meas [.i i, .i k, .ro _ rl, .ro _ rc, .i pr, .i ex, .i lo, .i hi, .ro _ rt] -> Xex e K -> A e) -> Xf0 i k rl rc pr ex lo hi rt A K) : Xgq :=
 LE.okOf' (fun W => @TT W) (fun W => @Xb W) Xa T5 1000 50 (by kernel_rfl) Xe9 (fun W => @meas W) fun W i k rl rc pr ex lo hi rt K hs =>
  (Xor W i k rl rc pr ex lo hi rt (fun e => meas e < meas [.i i, .i k, .ro _ rl, .ro _ rc, .i pr, .i ex, .i lo, .i hi, .ro _ rt] /\ Xex e K) K).mpr (hyp_ W i k rl rc pr ex lo hi rt K hs _ fun e h1 h2 => ⟨h1, h2⟩)
theorem Xt9 : Xgq := Xp2 (fun e => match e with | .i i :: .i k :: _ => (i - k).toNat | _ => 0) fun W i k rl rc pr ex lo hi rt K hs A hA => by
 obtain ⟨⟨h0, h1, h2⟩, hk⟩ := hs;unfold Xf0;have hm := rl.len;refine vifd (fun e => ned (by simp; omega) (nedd (by omega) (ned (by simp; omega) (nedd (by omega) (vif (fun e2 => ?_) fun e2 => ar64 (by simp only [maxLen] at hm; omega) (hA _ ?_ ?_)))))) fun e => ?_
 ·refine hk.1 ?_;rw [show (i - k).toNat = (i - (k + 1)).toNat + 1 by omega];simp only [Sp.dup, Sp.nm, e2, Bool.true_or]
 ·show (i - (k + 1)).toNat < (i - k).toNat
  omega
 ·refine ⟨⟨by omega, by omega, h2⟩, ?_⟩;rw [show (i - k).toNat = (i - (k + 1)).toNat + 1 by omega] at hk;simp only [Sp.dup, Sp.nm, e2, Bool.false_or] at hk;rw [show (k + 1).toNat = k.toNat + 1 by omega];exact hk
 ·refine hk.2 ?_;rw [show (i - k).toNat = 0 by omega];rfl
noncomputable def Xnq : LE Tryz.prog := ⟨6, 14, fun W => @Ysp W Xe9, Xt9⟩
noncomputable def T6 : Tab Tryz.prog := ⟨T5.pcs, [Xnq], []⟩
def Xew [InW] (e : List Ed) (K : Nat -> List Ed -> Prop) : Prop := match e with
 | [.i i, .ro _ rl, .ro _ rc, .i pr, .i ex, .i lo, .i hi, .ro _ rt] => Pre (0 <= i /\ i <= rl.xs.length /\ Sp.NamesOk rl.xs) (Vif (Sp.hasE (Sp.nameErr rl.xs) i.toNat (rl.xs.length - i.toNat))
   (K 1 [.i (Sp.idxE (Sp.nameErr rl.xs) i.toNat (rl.xs.length - i.toNat)), .i (Sp.nameErr rl.xs (Sp.idxE (Sp.nameErr rl.xs) i.toNat (rl.xs.length - i.toNat)))]) (K 0 [.ro _ rl, .ro _ rc, .i pr, .i ex, .i lo, .i hi, .ro _ rt]))
 | _ => False
noncomputable def Xe8 : LC where
 len := 166
 T := [(1, (.ptr 1 0)), (5, .int .i64)]
 H := [(1, .blk 32 [.rs Jd, .rs Ivs, .int .i64, .int .i64, .int .i64, .int .i64, .rs Jc])]
 W := ([2, 3, 4, 6] ++ rgg 59 32)
 outs := [⟨.exit 0, [(1, (.ptr 1 0))], [(1, .blk 32 [.rs Jd, .rs Ivs, .int .i64, .int .i64, .int .i64, .int .i64, .rs Jc])], (rgg 2 5 ++ rgg 59 32)⟩, ⟨.ret, [(2, (.lit (.int .i64 2))), (3, .int .i64), (4, .int .i64)], [], ([1, 5, 6] ++ rgg 59 32)⟩]
 spec := Xew
def Xfz [W : InW] (i : Int) (rl : Ro Jd) (rc : Ro Ivs) (pr ex lo hi : Int) (rt : Ro Jc) (A : List Ed -> Prop) (K : Nat -> List Ed -> Prop) : Prop :=
 Vif (decide (i < (↑(rl.xs.length) : Int))) (Need (decide (0 <= i) && decide (i < (↑(rl.xs.length) : Int))) (Need (decide (i.toNat < rl.xs.length)) (Pre ((cel rl.xs i.toNat (0 : Nat)).str.size <= 9223372036854775807) (Vif (!Bk.nameOk (cel rl.xs i.toNat (0 : Nat)).str) (K (0+1) [.i i, .i (6 : Int)]) (Pre ((0 : Int) <= 0 /\ 0 <= i /\ i < (↑(rl.xs.length) : Int)) (Vif (Sp.dup rl.xs (Sp.nm rl.xs i.toNat) Zd (i - 0).toNat) (K (0+1) [.i i, .i (5 : Int)]) (Ar .i64 (i + 1) fun z => A [.i z, .ro _ rl, .ro _ rc, .i pr, .i ex, .i lo, .i hi, .ro _ rt]))))))) (K 0 [.ro _ rl, .ro _ rc, .i pr, .i ex, .i lo, .i hi, .ro _ rt])
theorem Xoq (W : InW) (i rl rc pr ex lo hi rt A K) : Ye9 { cxT Tryz.prog TT T6 1000 50 with fn := 6 } 1000 (Ynh Tryz.prog 6 9) (Ydy 166 [(1, .ptr 1 0), (5, .si .i64 i)] ([2, 3, 4, 6] ++ rgg 59 32)) [(1, .blk 32 [.rs _ rl, .rs _ rc, .si .i64 pr, .si .i64 ex, .si .i64 lo, .si .i64 hi, .rs _ rt])] (Yth Xe8 A K) = Xfz i rl rc pr ex lo hi rt A K := by kernel_rfl
def Xgp : Prop := ∀ (W : InW) (body a : Code), (Tryz.prog.funcs[6]?).bind (·.body) = some body -> a ∈ Yw body -> Yfu a = 9 -> @Yma W Tryz.prog a (@Ysp W Xe8)
theorem Xp1 (meas : [InW] -> List Ed -> Nat) (hyp_ : ∀ (W : InW) i rl rc pr ex lo hi rt K, Xew [.i i, .ro _ rl, .ro _ rc, .i pr, .i ex, .i lo, .i hi, .ro _ rt] K -> ∀ A : List Ed -> Prop, (∀ e, meas e < meas [.i i, .ro _ rl, .ro _ rc, .i pr, .i ex, .i lo, .i hi, .ro _ rt] -> Xew e K -> A e) -> Xfz i rl rc pr ex lo hi rt A K) : Xgp :=
 LE.okOf' (fun W => @TT W) (fun W => @Xb W) Xa T6 1000 50 (by kernel_rfl) Xe8 (fun W => @meas W) fun W i rl rc pr ex lo hi rt K hs =>
  (Xoq W i rl rc pr ex lo hi rt (fun e => meas e < meas [.i i, .ro _ rl, .ro _ rc, .i pr, .i ex, .i lo, .i hi, .ro _ rt] /\ Xew e K) K).mpr (hyp_ W i rl rc pr ex lo hi rt K hs _ fun e h1 h2 => ⟨h1, h2⟩)
theorem Xt8 : Xgp := Xp1 (fun e => match e with | .i i :: .ro _ rl :: _ => (rl.xs.length - i).toNat | _ => 0) fun W i rl rc pr ex lo hi rt K hs A hA => by
 obtain ⟨⟨h0, h1, h2⟩, hk⟩ := hs;unfold Xfz;delta Zd Ze;have hm := rl.len;have hn := h2 i.toNat;refine vifd (fun e => ?_) fun e => ?_
 ·rw [show rl.xs.length - i.toNat = (rl.xs.length - (i.toNat + 1)) + 1 by omega] at hk;obtain ⟨g1, g2⟩ := Xhg (K1 := fun j e => K 1 [.i j, .i e]) hk;rw [Int.toNat_of_nonneg h0] at g1;simp only [Sp.nm] at hn;refine ned (by simp; omega) (nedd (by omega) ⟨hn, vif (fun e2 => ?_) fun e2 => ⟨by omega, ?_⟩⟩)
  ·have f : Sp.nameErr rl.xs i.toNat = 6 := by simp_all [Sp.nameErr, Sp.nm]
   rw [f] at g1;exact g1 (by decide)
  rw [show (i - 0).toNat = i.toNat by omega, show Int.toNat 0 = 0 from rfl];refine vif (fun e3 => ?_) fun e3 => ar64 (by simp only [maxLen] at hm; omega) (hA _ ?_ ?_)
  ·have f : Sp.nameErr rl.xs i.toNat = 5 := by simp_all [Sp.nameErr, Sp.nm]
   rw [f] at g1;exact g1 (by decide)
  ·show (rl.xs.length - (i + 1)).toNat < (rl.xs.length - i).toNat
   omega
  ·have f : Sp.nameErr rl.xs i.toNat = 0 := by simp_all [Sp.nameErr, Sp.nm]
   refine ⟨⟨by omega, by omega, h2⟩, ?_⟩;rw [show (i + 1).toNat = i.toNat + 1 by omega];exact g2 f
 ·rw [show rl.xs.length - i.toNat = 0 by omega] at hk;exact hk.2 rfl
noncomputable def Xul : LE Tryz.prog := ⟨6, 9, fun W => @Ysp W Xe8, Xt8⟩
def Xey [InW] (e : List Ed) (K : Nat -> List Ed -> Prop) : Prop := match e with
 | [.i i, .ro _ rl, .ro _ rc, .i pr, .i ex, .i lo, .i hi, .ro _ rt] => Pre (0 <= i /\ i <= rc.xs.length /\ Sp.NamesOk rc.xs) (Vif (Sp.hasE (Sp.carErr rc.xs) i.toNat (rc.xs.length - i.toNat))
   (K 1 [.i (Sp.idxE (Sp.carErr rc.xs) i.toNat (rc.xs.length - i.toNat)), .i (Sp.carErr rc.xs (Sp.idxE (Sp.carErr rc.xs) i.toNat (rc.xs.length - i.toNat)))]) (K 0 [.ro _ rl, .ro _ rc, .i pr, .i ex, .i lo, .i hi, .ro _ rt]))
 | _ => False
noncomputable def Xfa : LC where
 len := 166
 T := [(1, (.ptr 1 0)), (7, .int .i64)]
 H := [(1, .blk 32 [.rs Jd, .rs Ivs, .int .i64, .int .i64, .int .i64, .int .i64, .rs Jc])]
 W := ([2, 3, 4, 8] ++ rgg 91 14)
 outs := [⟨.exit 4, [(1, (.ptr 1 0))], [(1, .blk 32 [.rs Jd, .rs Ivs, .int .i64, .int .i64, .int .i64, .int .i64, .rs Jc])], ([2, 3, 4, 7, 8] ++ rgg 91 14)⟩, ⟨.ret, [(2, (.lit (.int .i64 3))), (3, .int .i64), (4, .int .i64)], [], ([1, 7, 8] ++ rgg 91 14)⟩]
 spec := Xey
def Xf1 [W : InW] (i : Int) (rl : Ro Jd) (rc : Ro Ivs) (pr ex lo hi : Int) (rt : Ro Jc) (A : List Ed -> Prop) (K : Nat -> List Ed -> Prop) : Prop :=
 Vif (decide (i < (↑(rc.xs.length) : Int))) (Pre (0 <= i /\ i < (↑(rc.xs.length) : Int) /\ Sp.NamesOk rc.xs) (Vif (!decide (Sp.carErr rc.xs i.toNat = 0)) (K (0+1) [.i i, .i (Sp.carErr rc.xs i.toNat)]) (Ar .i64 (i + 1) fun z => A [.i z, .ro _ rl, .ro _ rc, .i pr, .i ex, .i lo, .i hi, .ro _ rt]))) (K 0 [.ro _ rl, .ro _ rc, .i pr, .i ex, .i lo, .i hi, .ro _ rt])
theorem Xos (W : InW) (i rl rc pr ex lo hi rt A K) : Ye9 { cxT Tryz.prog TT T5 1000 50 with fn := 6 } 1000 (Ynh Tryz.prog 6 19) (Ydy 166 [(1, .ptr 1 0), (7, .si .i64 i)] ([2, 3, 4, 8] ++ rgg 91 14)) [(1, .blk 32 [.rs _ rl, .rs _ rc, .si .i64 pr, .si .i64 ex, .si .i64 lo, .si .i64 hi, .rs _ rt])] (Yth Xfa A K) = Xf1 i rl rc pr ex lo hi rt A K := by kernel_rfl
def Xgr : Prop := ∀ (W : InW) (body a : Code), (Tryz.prog.funcs[6]?).bind (·.body) = some body -> a ∈ Yw body -> Yfu a = 19 -> @Yma W Tryz.prog a (@Ysp W Xfa)
theorem Xp3 (meas : [InW] -> List Ed -> Nat) (hyp_ : ∀ (W : InW) i rl rc pr ex lo hi rt K, Xey [.i i, .ro _ rl, .ro _ rc, .i pr, .i ex, .i lo, .i hi, .ro _ rt] K -> ∀ A : List Ed -> Prop, (∀ e, meas e < meas [.i i, .ro _ rl, .ro _ rc, .i pr, .i ex, .i lo, .i hi, .ro _ rt] -> Xey e K -> A e) -> Xf1 i rl rc pr ex lo hi rt A K) : Xgr :=
 LE.okOf' (fun W => @TT W) (fun W => @Xb W) Xa T5 1000 50 (by kernel_rfl) Xfa (fun W => @meas W) fun W i rl rc pr ex lo hi rt K hs =>
  (Xos W i rl rc pr ex lo hi rt (fun e => meas e < meas [.i i, .ro _ rl, .ro _ rc, .i pr, .i ex, .i lo, .i hi, .ro _ rt] /\ Xey e K) K).mpr (hyp_ W i rl rc pr ex lo hi rt K hs _ fun e h1 h2 => ⟨h1, h2⟩)
theorem Xua : Xgr := Xp3 (fun e => match e with | .i i :: .ro _ rl :: .ro _ rc :: _ => (rc.xs.length - i).toNat | _ => 0) fun W i rl rc pr ex lo hi rt K hs A hA => by
 obtain ⟨⟨h0, h1, h2⟩, hk⟩ := hs;unfold Xf1;have hm := rc.len;refine vifd (fun e => ?_) fun e => ?_
 ·rw [show rc.xs.length - i.toNat = (rc.xs.length - (i.toNat + 1)) + 1 by omega] at hk;obtain ⟨g1, g2⟩ := Xhg (K1 := fun j e => K 1 [.i j, .i e]) hk;rw [Int.toNat_of_nonneg h0] at g1;refine ⟨⟨h0, e, h2⟩, vif (fun e2 => g1 (by simpa using e2)) fun e2 => ar64 (by simp only [maxLen] at hm; omega) (hA _ ?_ ?_)⟩
  ·show (rc.xs.length - (i + 1)).toNat < (rc.xs.length - i).toNat
   omega
  ·refine ⟨⟨by omega, by omega, h2⟩, ?_⟩;rw [show (i + 1).toNat = i.toNat + 1 by omega];exact g2 (by simpa using e2)
 ·rw [show rc.xs.length - i.toNat = 0 by omega] at hk;exact hk.2 rfl
noncomputable def Xum : LE Tryz.prog := ⟨6, 19, fun W => @Ysp W Xfa, Xua⟩
def Xev [InW] (e : List Ed) (K : Nat -> List Ed -> Prop) : Prop := match e with
 | [.i i, .ro _ rl, .ro _ rc, .i pr, .i ex, .i lo, .i hi, .ro _ rt] => Pre (0 <= i /\ i <= rt.xs.length) (Vif (Sp.hasE (Sp.termErr rt.xs) i.toNat (rt.xs.length - i.toNat))
   (K 1 [.i (Sp.idxE (Sp.termErr rt.xs) i.toNat (rt.xs.length - i.toNat)), .i (Sp.termErr rt.xs (Sp.idxE (Sp.termErr rt.xs) i.toNat (rt.xs.length - i.toNat)))]) (K 0 []))
 | _ => False
noncomputable def Xe7 : LC where
 len := 166
 T := [(1, (.ptr 1 0)), (9, .int .i64)]
 H := [(1, .blk 32 [.rs Jd, .rs Ivs, .int .i64, .int .i64, .int .i64, .int .i64, .rs Jc])]
 W := ([2, 3, 4] ++ rgg 105 61)
 outs := [⟨.exit 6, [], [], (rgg 1 4 ++ [9] ++ rgg 105 61)⟩, ⟨.ret, [(2, (.lit (.int .i64 4))), (3, .int .i64), (4, .int .i64)], [], ([1, 9] ++ rgg 105 61)⟩]
 spec := Xev
def Zw [W : InW] (i : Int) (rt : Ro Jc) := decide (0 <= i) && decide (i < (↑(rt.xs.length) : Int))
def Xfy [W : InW] (i : Int) (rl : Ro Jd) (rc : Ro Ivs) (pr ex lo hi : Int) (rt : Ro Jc) (A : List Ed -> Prop) (K : Nat -> List Ed -> Prop) : Prop :=
 Vif (decide (i < (↑(rt.xs.length) : Int))) (Need (Zw i rt) (Need (decide (i.toNat < rt.xs.length)) (Pre True (Vif (!Sp.inr (cel rt.xs i.toNat Zh).int (0 : Int) (240 : Int)) (K (0+1) [.i i, .i (7 : Int)]) (Need (Zw i rt) (Need (decide (i.toNat < rt.xs.length)) (Pre True (Vif (!Sp.inr (cel rt.xs i.toNat (0+1)).int (0 : Int) (1000 : Int)) (K (0+1) [.i i, .i (7 : Int)]) (Vif (decide (0 < i)) (Need (Zw i rt) (Need (decide (i.toNat < rt.xs.length)) (Ar .i64 (i - 1) fun z => Need (decide (0 <= z) && decide (z < (↑(rt.xs.length) : Int))) (Need (decide (z.toNat < rt.xs.length)) (Vif (decide ((cel rt.xs z.toNat Zh).int <= (cel rt.xs i.toNat Zh).int)) (K (0+1) [.i i, .i (2 : Int)]) (Need (Zw i rt) (Need (decide (i.toNat < rt.xs.length)) (Ar .i64 (i - 1) fun z => Need (decide (0 <= z) && decide (z < (↑(rt.xs.length) : Int))) (Need (decide (z.toNat < rt.xs.length)) (Vif (decide ((cel rt.xs i.toNat (0+1)).int < (cel rt.xs z.toNat (0+1)).int)) (K (0+1) [.i i, .i (2 : Int)]) (Ar .i64 (i + 1) fun z => A [.i z, .ro _ rl, .ro _ rc, .i pr, .i ex, .i lo, .i hi, .ro _ rt]))))))))))) (Ar .i64 (i + 1) fun z => A [.i z, .ro _ rl, .ro _ rc, .i pr, .i ex, .i lo, .i hi, .ro _ rt])))))))))) (K 0 [])
theorem Xop (W : InW) (i rl rc pr ex lo hi rt A K) : Ye9 { cxT Tryz.prog TT T5 1000 50 with fn := 6 } 1000 (Ynh Tryz.prog 6 25) (Ydy 166 [(1, .ptr 1 0), (9, .si .i64 i)] ([2, 3, 4] ++ rgg 105 61)) [(1, .blk 32 [.rs _ rl, .rs _ rc, .si .i64 pr, .si .i64 ex, .si .i64 lo, .si .i64 hi, .rs _ rt])] (Yth Xe7 A K) = Xfy i rl rc pr ex lo hi rt A K := by kernel_rfl
def Xgo : Prop := ∀ (W : InW) (body a : Code), (Tryz.prog.funcs[6]?).bind (·.body) = some body -> a ∈ Yw body -> Yfu a = 25 -> @Yma W Tryz.prog a (@Ysp W Xe7)
theorem Xp0 (meas : [InW] -> List Ed -> Nat) (hyp_ : ∀ (W : InW) i rl rc pr ex lo hi rt K, Xev [.i i, .ro _ rl, .ro _ rc, .i pr, .i ex, .i lo, .i hi, .ro _ rt] K -> ∀ A : List Ed -> Prop, (∀ e, meas e < meas [.i i, .ro _ rl, .ro _ rc, .i pr, .i ex, .i lo, .i hi, .ro _ rt] -> Xev e K -> A e) -> Xfy i rl rc pr ex lo hi rt A K) : Xgo :=
 LE.okOf' (fun W => @TT W) (fun W => @Xb W) Xa T5 1000 50 (by kernel_rfl) Xe7 (fun W => @meas W) fun W i rl rc pr ex lo hi rt K hs =>
  (Xop W i rl rc pr ex lo hi rt (fun e => meas e < meas [.i i, .ro _ rl, .ro _ rc, .i pr, .i ex, .i lo, .i hi, .ro _ rt] /\ Xev e K) K).mpr (hyp_ W i rl rc pr ex lo hi rt K hs _ fun e h1 h2 => ⟨h1, h2⟩)
theorem Xt7 : Xgo := Xp0 (fun e => match e with | .i i :: .ro _ rl :: .ro _ rc :: .i _ :: .i _ :: .i _ :: .i _ :: .ro _ rt :: _ => (rt.xs.length - i).toNat | _ => 0) fun W i rl rc pr ex lo hi rt K hs A hA => by
 obtain ⟨⟨h0, h1⟩, hk⟩ := hs;unfold Xfy;delta Zw Zh;have hm := rt.len;simp only [maxLen] at hm;refine vifd (fun e => ?_) fun e => ?_
 ·rw [show rt.xs.length - i.toNat = (rt.xs.length - (i.toNat + 1)) + 1 by omega] at hk;obtain ⟨g1, g2⟩ := Xhg (K1 := fun j e => K 1 [.i j, .i e]) hk;rw [Int.toNat_of_nonneg h0] at g1;have hA' : Sp.termErr rt.xs i.toNat = 0 -> A [.i (i + 1), .ro _ rl, .ro _ rc, .i pr, .i ex, .i lo, .i hi, .ro _ rt] := fun f => hA _ (by show (rt.xs.length - (i + 1)).toNat < (rt.xs.length - i).toNat; omega) ⟨by omega, by
   rw [show (i + 1).toNat = i.toNat + 1 by omega];exact g2 f⟩
  have hd : (decide (0 <= i) && decide (i < ↑rt.xs.length)) = true := by simp; omega
  have bad : ∀ n, Sp.termErr rt.xs i.toNat = n -> n ≠ 0 -> K 1 [.i i, .i n] := fun n hn h => by rw [<- hn]; exact g1 (by rw [hn]; exact h)
  refine ned hd (nedd (by omega) ⟨trivial, vif (fun e2 => bad 7 ?_ (by decide)) fun e2 => ned hd (nedd (by omega) ⟨trivial, vif (fun e3 => bad 7 ?_ (by decide)) fun e3 => vifd (fun e4 => ?_) fun e4 => ar64 (by omega) (hA' ?_)⟩)⟩)
  ·clear hA hA' bad g1 g2 hk; simp_all [Sp.termErr, Sp.before]
  ·clear hA hA' bad g1 g2 hk; simp_all [Sp.termErr, Sp.feeOf]
  ·have e5 : (i - 1).toNat = i.toNat - 1 := by omega
   have e6 : 0 < i.toNat := by omega
   refine ned hd (nedd (by omega) (ar64 (by omega) (ned (by simp; omega) (nedd (by omega) (vifd (fun e7 => bad 2 ?_ (by decide)) fun e7 => ned hd (nedd (by omega) (ar64 (by omega) (ned (by simp; omega) (nedd (by omega) (vifd (fun e8 => bad 2 ?_ (by decide)) fun e8 => ar64 (by omega) (hA' ?_)))))))))))
   all_goals clear hA hA' bad g1 g2 hk
   all_goals rw [e5] at e7
   all_goals rw [Bool.not_eq_false'] at e2 e3
   all_goals simp only [Nat.zero_add] at e3
   ·simp [Sp.termErr, Sp.before, Sp.feeOf, e2, e3, e6, e7]
   all_goals rw [e5] at e8
   ·simp [Sp.termErr, Sp.before, Sp.feeOf, e2, e3, e6, e8]
   ·simp only [Nat.zero_add] at e8;simp only [Sp.termErr, Sp.before, Sp.feeOf, e2, e3];simp only [Bool.and_self, if_true, Bool.and_eq_true, Bool.or_eq_true, decide_eq_true_eq, e7, e8, or_self, and_false, if_false]
  ·have e6 : ¬ 0 < i.toNat := by omega
   clear hA hA' bad g1 g2 hk;rw [Bool.not_eq_false'] at e2 e3;simp only [Nat.zero_add] at e3;simp only [Sp.termErr, Sp.before, Sp.feeOf, e2, e3];simp only [Bool.and_self, if_true, Bool.and_eq_true, decide_eq_true_eq, e6, false_and, if_false]
 ·rw [show rt.xs.length - i.toNat = 0 by omega] at hk;exact hk.2 rfl
noncomputable def Xuk : LE Tryz.prog := ⟨6, 25, fun W => @Ysp W Xe7, Xt7⟩
noncomputable def T7 : Tab Tryz.prog := ⟨T5.pcs, [Xnq, Xul, Xum, Xuk], []⟩
def Zy := [[Cl.i 1], [Cl.i 0], [Cl.i 3]]
def Zx := [[Cl.i 1], [Cl.i 0], [Cl.i 7]]
def Xfq [W : InW] (s_Learners : Ro Jd) (s_Cars : Ro Ivs) (s_Price s_Excess s_Lo s_Hi : Int) (s_Terms : Ro Jc) (Q : DS -> Prop) : Prop :=
 Pre True (Vif (!Sp.inr (↑(s_Learners.xs.length) : Int) (1 : Int) (8 : Int)) (Q Zy) (Pre True (Vif (!Sp.inr (↑(s_Cars.xs.length) : Int) (1 : Int) (5 : Int)) (Q Zy) (Vif (decide ((4 : Int) < (↑(s_Terms.xs.length) : Int))) (Q Zy) (Pre True (Vif (!Sp.inr s_Price (1 : Int) (10000 : Int)) (Q Zx) (Pre True (Vif (!Sp.inr s_Excess Ze (10000000 : Int)) (Q Zx) (Pre True (Vif (!Sp.inr s_Lo Ze (24 : Int)) (Q Zx) (Pre True (Vif (!Sp.inr s_Hi Ze (24 : Int)) (Q Zx) (Vif (decide (s_Hi <= s_Lo)) (Q [[Cl.i 1], [Cl.i 0], [Cl.i 2]]) (Pre (Ze <= 0 /\ Ze <= (↑(s_Learners.xs.length) : Int) /\ Sp.NamesOk s_Learners.xs) (Vif (Sp.hasE (Sp.nameErr s_Learners.xs) Zu (s_Learners.xs.length - Int.toNat Ze)) (Q [[Cl.i 2], [Cl.i (↑(Sp.idxE (Sp.nameErr s_Learners.xs) Zu (s_Learners.xs.length - Int.toNat Ze)) : Int)], [Cl.i (Sp.nameErr s_Learners.xs (Sp.idxE (Sp.nameErr s_Learners.xs) Zu (s_Learners.xs.length - Int.toNat Ze)))]]) (Pre (Ze <= 0 /\ Ze <= (↑(s_Cars.xs.length) : Int) /\ Sp.NamesOk s_Cars.xs) (Vif (Sp.hasE (Sp.carErr s_Cars.xs) Zu (s_Cars.xs.length - Int.toNat Ze)) (Q [[Cl.i 3], [Cl.i (↑(Sp.idxE (Sp.carErr s_Cars.xs) Zu (s_Cars.xs.length - Int.toNat Ze)) : Int)], [Cl.i (Sp.carErr s_Cars.xs (Sp.idxE (Sp.carErr s_Cars.xs) Zu (s_Cars.xs.length - Int.toNat Ze)))]]) (Pre (Ze <= 0 /\ Ze <= (↑(s_Terms.xs.length) : Int)) (Vif (Sp.hasE (Sp.termErr s_Terms.xs) Zu (s_Terms.xs.length - Int.toNat Ze)) (Q [[Cl.i 4], [Cl.i (↑(Sp.idxE (Sp.termErr s_Terms.xs) Zu (s_Terms.xs.length - Int.toNat Ze)) : Int)], [Cl.i (Sp.termErr s_Terms.xs (Sp.idxE (Sp.termErr s_Terms.xs) Zu (s_Terms.xs.length - Int.toNat Ze)))]]) (Q [[Cl.i 0], [Cl.i 0], [Cl.i 0]]))))))))))))))))))))
theorem Xph (W : InW) (s_Learners s_Cars s_Price s_Excess s_Lo s_Hi s_Terms Q) : Yvp (cxT Tryz.prog TT T7 1000 50) 1000 6 [.agg [.rs _ s_Learners, .rs _ s_Cars, .si .i64 s_Price, .si .i64 s_Excess, .si .i64 s_Lo, .si .i64 s_Hi, .rs _ s_Terms]] [] 0 (Yzq [(false, [.int .i64]), (false, [.int .i64]), (false, [.int .i64])] Q) (fun _ _ _ _ => Stuck 421) = Xfq s_Learners s_Cars s_Price s_Excess s_Lo s_Hi s_Terms Q := by kernel_rfl
abbrev Xd1 : List AT := [.agg [.sl Jd, .sl Ivs, .int .i64, .int .i64, .int .i64, .int .i64, .sl Jc]]
theorem Xqv {pre : DS -> Prop} {res : DS -> DS} (hyp_ : ∀ (W : InW) (s_Learners : Ro Jd) (s_Cars : Ro Ivs) (s_Price s_Excess s_Lo s_Hi : Int) (s_Terms : Ro Jc), pre [[.l s_Learners.xs, .l s_Cars.xs, .i s_Price, .i s_Excess, .i s_Lo, .i s_Hi, .l s_Terms.xs]] -> ∀ Q : DS -> Prop, Q (res [[.l s_Learners.xs, .l s_Cars.xs, .i s_Price, .i s_Excess, .i s_Lo, .i s_Hi, .l s_Terms.xs]]) -> Xfq s_Learners s_Cars s_Price s_Excess s_Lo s_Hi s_Terms Q) : PureOk Tryz.prog 6 Xd1 [(false, [.int .i64]), (false, [.int .i64]), (false, [.int .i64])] pre res :=
 PureOk.of' (fun W => @TT W) (fun W => @Xb W) Xa T7 1000 50 fun W s_Learners s_Cars s_Price s_Excess s_Lo s_Hi s_Terms hp =>
  (Xph W s_Learners s_Cars s_Price s_Excess s_Lo s_Hi s_Terms (fun o => o = res [[.l s_Learners.xs, .l s_Cars.xs, .i s_Price, .i s_Excess, .i s_Lo, .i s_Hi, .l s_Terms.xs]])).mpr (hyp_ W s_Learners s_Cars s_Price s_Excess s_Lo s_Hi s_Terms hp _ rfl)
namespace Sp
def check (rl rc : Dt) (pr ex lo hi : Int) (rt : Dt) : Int × Int × Int :=
 if !(inr rl.length 1 8 && inr rc.length 1 5) || decide (4 < (rt.length : Int)) then (1, 0, 3)
 else if !(inr pr 1 10000 && inr ex 0 10000000 && inr lo 0 24 && inr hi 0 24) then (1, 0, 7)
 else if decide (hi <= lo) then (1, 0, 2)
 else if hasE (nameErr rl) 0 rl.length then (2, idxE (nameErr rl) 0 rl.length, nameErr rl (idxE (nameErr rl) 0 rl.length))
 else if hasE (carErr rc) 0 rc.length then (3, idxE (carErr rc) 0 rc.length, carErr rc (idxE (carErr rc) 0 rc.length))
 else if hasE (termErr rt) 0 rt.length then (4, idxE (termErr rt) 0 rt.length, termErr rt (idxE (termErr rt) 0 rt.length))
 else (0, 0, 0)
def chkP (rl rc : Dt) (pr ex lo hi : Int) (rt : Dt) : Int := (check rl rc pr ex lo hi rt).1
def chkI (rl rc : Dt) (pr ex lo hi : Int) (rt : Dt) : Int := (check rl rc pr ex lo hi rt).2.1
def chkE (rl rc : Dt) (pr ex lo hi : Int) (rt : Dt) : Int := (check rl rc pr ex lo hi rt).2.2
end Sp
abbrev Xby (ds : DS) : DS := match ds with | [[.l rl, .l rc, .i pr, .i ex, .i lo, .i hi, .l rt]] => [[.i (Sp.chkP rl rc pr ex lo hi rt)], [.i (Sp.chkI rl rc pr ex lo hi rt)], [.i (Sp.chkE rl rc pr ex lo hi rt)]] | _ => []
abbrev Xgd (ds : DS) : Prop := match ds with | [[.l rl, .l rc, _, _, _, _, _]] => Sp.NamesOk rl /\ Sp.NamesOk rc | _ => False
theorem Xub : PureOk Tryz.prog 6 Xd1 [(false, [.int .i64]), (false, [.int .i64]), (false, [.int .i64])] Xgd Xby :=
 Xqv fun W rl rc pr ex lo hi rt hp Q h => by
  obtain ⟨h1, h2⟩ := hp;unfold Xfq;delta Zu Ze Zx Zy;simp only [Xby, Sp.chkP, Sp.chkI, Sp.chkE, Sp.check] at h;rw [show Int.toNat 0 = 0 from rfl, Nat.sub_zero, Nat.sub_zero, Nat.sub_zero];refine ⟨trivial, vif (fun e1 => ?_) fun e1 => ⟨trivial, vif (fun e2 => ?_) fun e2 => vif (fun e3 => ?_) fun e3 => ⟨trivial, vif (fun e4 => ?_) fun e4 => ⟨trivial, vif (fun e5 => ?_) fun e5 => ⟨trivial, vif (fun e6 => ?_) fun e6 => ⟨trivial, vif (fun e7 => ?_) fun e7 => vif (fun e8 => ?_) fun e8 => ⟨⟨by omega, by omega, h1⟩, vif (fun e9 => ?_) fun e9 => ⟨⟨by omega, by omega, h2⟩, vif (fun e10 => ?_) fun e10 => ⟨⟨by omega, by omega⟩, vif (fun e11 => ?_) fun e11 => ?_⟩⟩⟩⟩⟩⟩⟩⟩⟩ <;> clear h1 h2
  all_goals simp_all
noncomputable def Xpn : PC Tryz.prog := ⟨6, Xd1, [(false, [.int .i64]), (false, [.int .i64]), (false, [.int .i64])], Xgd, Xby, Xub⟩
namespace Sp
def part (rt : Dt) (before : Int) : Nat -> Int -> Int
 | 0, p => p
 | n + 1, p => part rt before n (if Sp.before rt n <= before then feeOf rt n else p)
def fee (rt : Dt) (price hours before : Int) : Int := (hours * price * part rt before rt.length 1000 + 999).tdiv 1000
def FeesOk (rt : Dt) : Prop := ∀ i : Nat, i < rt.length -> 0 <= feeOf rt i /\ feeOf rt i <= 1000
end Sp
abbrev Xhk (ds : DS) : DS := match ds with | [[_, _, .i pr, _, _, _, .l rt], [.i hours], [.i before]] => [[.i (Sp.fee rt pr hours before)]] | _ => []
abbrev Xmp (ds : DS) : Prop := match ds with | [[_, _, .i pr, _, _, _, .l rt], [.i hours], [.i before]] => 0 <= hours /\ hours <= 100000 /\ 0 <= pr /\ pr <= 10000 /\ Sp.FeesOk rt | _ => False
theorem Xmv {rt : Dt} {b : Int} : ∀ (n : Nat) (p : Int), n <= rt.length -> Sp.FeesOk rt -> 0 <= p -> p <= 1000 -> 0 <= Sp.part rt b n p /\ Sp.part rt b n p <= 1000
 | 0, p, _, _, h1, h2 => ⟨h1, h2⟩
 | n + 1, p, hn, hf, h1, h2 => by
  unfold Sp.part;have := hf n (by omega)
  split <;> exact Xmv n _ (by omega) hf (by omega) (by omega)
namespace Sp
structure SchOk (rl rc : Dt) (pr ex lo hi : Int) (rt : Dt) : Prop where
 learners : 1 <= rl.length /\ rl.length <= 8
 cars : 1 <= rc.length /\ rc.length <= 5
 terms : rt.length <= 4
 price : 1 <= pr /\ pr <= 10000
 excess : 0 <= ex /\ ex <= 10000000
 open_ : 0 <= lo /\ lo < hi /\ hi <= 24
 car : ∀ i : Nat, i < rc.length -> carErr rc i = 0
 term : ∀ i : Nat, i < rt.length -> termErr rt i = 0
end Sp
theorem Xfe {f : Nat -> Int} : ∀ {n i : Nat}, Sp.hasE f i n = true -> f (Sp.idxE f i n) ≠ 0
 | 0, _, h => by simp [Sp.hasE] at h
 | n + 1, i, h => by
  unfold Sp.hasE at h;unfold Sp.idxE
  split
  ·rename_i e;exact Xfe (by simpa [e] using h)
  ·assumption
theorem Xht {f : Nat -> Int} : ∀ {n i : Nat}, Sp.hasE f i n = false -> ∀ k, i <= k -> k < i + n -> f k = 0
 | 0, i, _, k, h1, h2 => by omega
 | n + 1, i, h, k, h1, h2 => by
  unfold Sp.hasE at h;simp only [Bool.or_eq_false_iff, Bool.not_eq_false', decide_eq_true_eq] at h;rcases Nat.lt_or_ge i k with h3 | h3
  ·exact Xht h.2 k h3 (by omega)
  ·rw [show k = i by omega]; exact h.1
theorem Xn2 {rl rc : Dt} {pr ex lo hi : Int} {rt : Dt} (h : Sp.chkE rl rc pr ex lo hi rt = 0) : Sp.SchOk rl rc pr ex lo hi rt := by
 unfold Sp.chkE Sp.check at h
 split at h
 ·cases h
 rename_i e1
 split at h
 ·cases h
 rename_i e2
 split at h
 ·cases h
 rename_i e3
 split at h
 ·rename_i e; exact absurd h (Xfe e)
 split at h
 ·rename_i e; exact absurd h (Xfe e)
 rename_i e5
 split at h
 ·rename_i e; exact absurd h (Xfe e)
 rename_i e6;simp only [Sp.inr, Bool.or_eq_true, Bool.not_eq_true', Bool.and_eq_false_iff, decide_eq_false_iff_not, decide_eq_true_eq, not_or] at e1 e2 e3;rw [Bool.not_eq_true] at e5 e6;exact ⟨by omega, by omega, by omega, by omega, by omega, by omega, fun i hi => Xht e5 i (by omega) (by omega), fun i hi => Xht e6 i (by omega) (by omega)⟩
theorem Sp.SchOk.fees {rl rc : Dt} {pr ex lo hi : Int} {rt : Dt} (h : Sp.SchOk rl rc pr ex lo hi rt) : Sp.FeesOk rt := fun i hi => by
 have := h.term i hi;unfold Sp.termErr at this
 split at this
 ·rename_i e;simp only [Sp.inr, Bool.and_eq_true, decide_eq_true_eq] at e;omega
 ·cases this
end Go.Proofs.YtbhlmkgliflhaaaGreat
