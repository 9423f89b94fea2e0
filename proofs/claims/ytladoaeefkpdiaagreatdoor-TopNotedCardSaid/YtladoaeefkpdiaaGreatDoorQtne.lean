/-
  'TopNoted', the tied card: for every input the law returns true, and what is handed in reads as before.
-/
import Derived.Test.YtladoaeefkpdiaaGreatDoorQtnd
import Derived.Shelf.Strconv.Atoi
set_option linter.unusedVariables false
set_option linter.unusedSectionVars false
set_option linter.unusedSimpArgs false
noncomputable section
namespace Go.Proofs.YtladoaeefkpdiaaGreatDoor
open Go.RowKit Go.Shelf
set_option maxRecDepth 1000000
set_option maxHeartbeats 4000000
theorem Xnf : Tryz.prog.follows .mixedOrders = true := by kernel_rfl
def Xr4 : Ren := ⟨fun i => match i with
  | 244 => 139
  | 247 => 152
  | 287 => 167
  | 321 => 174
  | 322 => 175
  | _ => 0, fun i => match i with
  | 0 => 0
  | 2 => 2
  | 3 => 3
  | 4 => 4
  | 5 => 5
  | 9 => 9
  | 21 => 21
  | 37 => 30
  | 46 => 221
  | 53 => 203
  | 75 => 156
  | 80 => 162
  | 85 => 212
  | 167 => 211
  | 175 => 223
  | _ => 0, fun i => i⟩
theorem Xjg : Lays.n244 Tryz.prog Xr4 := {
  mixed := Xnf
  f244 := by kernel_rfl
  f247 := by kernel_rfl
  f287 := by kernel_rfl
  f321 := by kernel_rfl
  f322 := by kernel_rfl
  t0 := by kernel_rfl
  a0 := fun w => by kernel_rfl
  z0 := fun w => by kernel_rfl
  v0 := fun w => by kernel_rfl
  t2 := by kernel_rfl
  a2 := fun w => by kernel_rfl
  z2 := fun w => by kernel_rfl
  v2 := fun w => by kernel_rfl
  t3 := by kernel_rfl
  a3 := fun w => by kernel_rfl
  z3 := fun w => by kernel_rfl
  v3 := fun w => by kernel_rfl
  t4 := by kernel_rfl
  a4 := fun w => by kernel_rfl
  z4 := fun w => by kernel_rfl
  v4 := fun w => by kernel_rfl
  t5 := by kernel_rfl
  a5 := fun w => by kernel_rfl
  z5 := fun w => by kernel_rfl
  v5 := fun w => by kernel_rfl
  t9 := by kernel_rfl
  a9 := fun w => by kernel_rfl
  z9 := fun w => by kernel_rfl
  v9 := fun w => by kernel_rfl
  t21 := by kernel_rfl
  a21 := fun w => by kernel_rfl
  z21 := fun w => by kernel_rfl
  v21 := fun w => by kernel_rfl
  t37 := by kernel_rfl
  a37 := fun w => by kernel_rfl
  z37 := fun w => by kernel_rfl
  v37 := fun w => by kernel_rfl
  t46 := by kernel_rfl
  a46 := fun w => by kernel_rfl
  z46 := fun w => by kernel_rfl
  v46 := fun w => by kernel_rfl
  t53 := by kernel_rfl
  a53 := fun w => by kernel_rfl
  z53 := fun w => by kernel_rfl
  v53 := fun w => by kernel_rfl
  t75 := by kernel_rfl
  a75 := fun w => by kernel_rfl
  z75 := fun w => by kernel_rfl
  v75 := fun w => by kernel_rfl
  t85 := by kernel_rfl
  a85 := fun w => by kernel_rfl
  z85 := fun w => by kernel_rfl
  v85 := fun w => by kernel_rfl
  t167 := by kernel_rfl
  a167 := fun w => by kernel_rfl
  z167 := fun w => by kernel_rfl
  v167 := fun w => by kernel_rfl
  t175 := by kernel_rfl
  a175 := fun w => by kernel_rfl
  z175 := fun w => by kernel_rfl
  v175 := fun w => by kernel_rfl }
theorem Xjh [InW] (s : ByteArray) (n : Int) (hl : s.size <= 18) (h : Lib.atoi s.data.toList = some n) : ACall Tryz.prog 139 [.v (.string s)] [] false (.tup [.v (.int .i64 n), .v .nilIface]) [] [] := by
 intro φ w0 M R w hnd hS;have hS1 : St w0 M R w := by simpa [Yb] using hS
 refine (Any.internal_strconv_Atoi Xjg s n hl h w).mono ?_;rintro e w' ⟨rfl, t, rfl⟩;refine ⟨φ, fun _ _ => rfl, rfl, ?_⟩;have := hS1.ext ((show Ext w (Lib.bytesWorld w (Xr4.t 5) t) from ⟨rfl, rfl, rfl, by rw [Lib.bytesWorld_size]; omega, fun k hk => Lib.bytesWorld_at_old w _ _ k (by omega)⟩));simpa [Yb, Yh] using this
def Xvb [InW] (args : List AV) (k : KE) : Prop := match args with
 | [.v (.string s)] => Yc (Nat.ble s.size 18) (match Lib.atoi s.data.toList with
  | some n => Yqa n fun n => k (.tup [.v (.int .i64 n), .v .nilIface]) [] [] []
  | none => Stuck 800)
 | _ => Stuck 801
def Xdx : CE Tryz.prog := ⟨139, fun W args _ => match args with | [.v (.string _)] => true | _ => false, fun W args hp k kp => @Xvb W args k, fun W args hp k kp h => by
 unfold Xvb at h
 split at h
 ·rename_i s;obtain ⟨h1, h2⟩ := Ya h;rw [Nat.ble_eq] at h1
  split at h2
  ·rename_i n hn;exact .inl ⟨_, [], [], [], Yhr.1 h2, ⟨.nil, fun _ h => by cases h⟩, fun _ h => h, Xjh s n h1 hn⟩
  ·exact h2.elim
 ·exact h.elim⟩
end Go.Proofs.YtladoaeefkpdiaaGreatDoor
