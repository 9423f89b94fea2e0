/-
  A machine over abstract states, proved sound: the help of the proof of a law.
-/
import Derived.Test.YtmogofidmchdoaaQh
set_option linter.unusedVariables false
set_option linter.unusedSectionVars false
set_option linter.unusedSimpArgs false
namespace Go.Proofs.Ytmogofidmchdoaa
open Go.RowKit
set_option maxRecDepth 100000
theorem Ym7 {xs : Dt} (h : (List.range xs.length).all (fun i => decide ((Sp.nm xs i).size <= 9223372036854775807)) = true) : Sp.NamesOk xs := by
 intro i
 by_cases hi : i < xs.length
 ·have := List.all_eq_true.1 h i (List.mem_range.2 hi);exact of_decide_eq_true this
 ·have e : Sp.nm xs i = Sp.nm [] 0 := by
   unfold Sp.nm cel;rw [show xs.getD i [] = [] by rw [List.getD_eq_getElem?_getD, List.getElem?_eq_none (by omega)]; rfl];rfl
  rw [e];decide +kernel
theorem vif_t [InW] {b : Bool} {A B : Prop} (hb : b = true) (ha : A) : Vif b A B := Ytp.2 ⟨fun _ => ha, fun h => absurd (hb.symm.trans h) (by decide)⟩
theorem Ybea [W : InW] (Q : DS -> Prop) (h : Q [[.b true]]) : Yl6 Q := by
 unfold Yl6
 iterate 7 refine Ykw.2 ⟨⟨Ym7 (by kernel_rfl), Ym7 (by kernel_rfl), Ym7 (by kernel_rfl)⟩, ?_⟩
 repeat first | refine vif_t (by kernel_rfl) ?_ | refine Ykw.2 ⟨trivial, ?_⟩ | refine Ykw.2 ⟨by decide +kernel, ?_⟩
 exact (congrArg Q (by kernel_rfl)).mpr h
noncomputable def pc_Awake : PC Try.prog := ⟨20, [], [(false, [.bool])], fun _ => True, fun _ => [[.b true]], Ybc8 fun W hp Q h => Ybea Q h⟩
end Go.Proofs.Ytmogofidmchdoaa
