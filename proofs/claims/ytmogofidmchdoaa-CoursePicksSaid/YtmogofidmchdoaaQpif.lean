/-
  'CoursePicks': for every input the law returns true, and what is handed in reads as before. No condition.
-/
import Derived.Test.YtmogofidmchdoaaQpie
import Derived.Test.YtmogofidmchdoaaRows
import Derived.WalkKit
import Derived.ProofKit
set_option linter.unusedVariables false
set_option linter.unusedSectionVars false
set_option linter.unusedSimpArgs false
namespace Go.Proofs.Ytmogofidmchdoaa
open Go.RowKit
set_option maxRecDepth 100000
theorem Xc8 {xs : Dt} (h : (List.range xs.length).all (fun i => decide ((Sp.nm xs i).size <= 9223372036854775807)) = true) : Sp.NamesOk xs := by
 intro i
 by_cases hi : i < xs.length
 ·have := List.all_eq_true.1 h i (List.mem_range.2 hi);exact of_decide_eq_true this
 ·have e : Sp.nm xs i = Sp.nm [] 0 := by
   unfold Sp.nm cel;rw [show xs.getD i [] = [] by rw [List.getD_eq_getElem?_getD, List.getElem?_eq_none (by omega)]; rfl];rfl
  rw [e];decide +kernel
theorem vif_t [InW] {b : Bool} {A B : Prop} (hb : b = true) (ha : A) : Vif b A B := Vif_iff.2 ⟨fun _ => ha, fun h => absurd (hb.symm.trans h) (by decide)⟩
theorem Xsu [W : InW] (Q : DS -> Prop) (h : Q [[.b true]]) : Xcz Q := by
 unfold Xcz;delta Zes Zen Zeg Zer Zeq Zei Zej Zem Zeo Za Zdt Zep Zel Zek Zeh
 iterate 7 refine Pre_iff.2 ⟨⟨Xc8 (by kernel_rfl), Xc8 (by kernel_rfl), Xc8 (by kernel_rfl)⟩, ?_⟩
 repeat first | refine vif_t (by kernel_rfl) ?_ | refine Pre_iff.2 ⟨trivial, ?_⟩ | refine Pre_iff.2 ⟨by decide +kernel, ?_⟩
 exact (congrArg Q (by kernel_rfl)).mpr h
noncomputable def Xqz : PC Try.prog := ⟨20, [], [(false, [.bool])], fun _ => True, fun _ => [[.b true]], Xsd fun W hp Q h => Xsu Q h⟩
open Go.RowKit
set_option maxRecDepth 100000
set_option maxHeartbeats 1600000
noncomputable def TH5 : Tab Try.prog := ⟨[Xkv, Xqr, Xen, Xho, Xnv, Xhq, Xqz], [], []⟩
def Zet [W : InW] (c_Pl c_Sh c_Ti : Ro Jb) := Sp.NamesOk c_Pl.xs /\ Sp.NamesOk c_Sh.xs /\ Sp.NamesOk c_Ti.xs
def Xbc [W : InW] (c_Pl c_Sh c_Ti : Ro Jb) (c_St : Ro Jd) (c_Ce : Int) (c_Hd : Ro Iv4) (c_Rt : Ro Je) (w_Wm w_Wd w_Ws w_Wt : Int) (x_rs : Ro Ja) (x_bd : Int) (Q : DS -> Prop) : Prop :=
 Pre (Zet c_Pl c_Sh c_Ti) (Pre (Zet c_Pl c_Sh c_Ti) (Pre True (Vif (!(decide (Sp.pkB c_Pl.xs c_Sh.xs c_Ti.xs c_St.xs c_Ce c_Hd.xs c_Rt.xs w_Wm w_Wd w_Ws w_Wt = Sp.pkB c_Pl.xs c_Sh.xs c_Ti.xs c_St.xs c_Ce c_Hd.xs c_Rt.xs w_Wm w_Wd w_Ws w_Wt) && Sp.ints (Sp.pkL c_Pl.xs c_Sh.xs c_Ti.xs c_St.xs c_Ce c_Hd.xs c_Rt.xs w_Wm w_Wd w_Ws w_Wt) (Sp.pkL c_Pl.xs c_Sh.xs c_Ti.xs c_St.xs c_Ce c_Hd.xs c_Rt.xs w_Wm w_Wd w_Ws w_Wt))) (Q Zeo) (Vif (!decide (Sp.pkE c_Pl.xs c_Sh.xs c_Ti.xs c_St.xs c_Ce c_Hd.xs c_Rt.xs w_Wm w_Wd w_Ws w_Wt = Sp.pkE c_Pl.xs c_Sh.xs c_Ti.xs c_St.xs c_Ce c_Hd.xs c_Rt.xs w_Wm w_Wd w_Ws w_Wt)) (Q Zeo) (Pre (Zet c_Pl c_Sh c_Ti) (Pre (Zet c_Pl c_Sh c_Ti) (Pre True (Vif (decide (Sp.ddA c_Pl.xs c_Sh.xs c_Ti.xs c_St.xs c_Ce c_Hd.xs c_Rt.xs x_rs.xs x_bd = Sp.ddA c_Pl.xs c_Sh.xs c_Ti.xs c_St.xs c_Ce c_Hd.xs c_Rt.xs x_rs.xs x_bd) && (decide (Sp.ddB c_Pl.xs c_Sh.xs c_Ti.xs c_St.xs c_Ce c_Hd.xs c_Rt.xs x_rs.xs x_bd = Sp.ddB c_Pl.xs c_Sh.xs c_Ti.xs c_St.xs c_Ce c_Hd.xs c_Rt.xs x_rs.xs x_bd) && Sp.ints (Sp.ddT c_Pl.xs c_Sh.xs c_Ti.xs c_St.xs c_Ce c_Hd.xs c_Rt.xs x_rs.xs x_bd) (Sp.ddT c_Pl.xs c_Sh.xs c_Ti.xs c_St.xs c_Ce c_Hd.xs c_Rt.xs x_rs.xs x_bd))) (Vif (decide (Sp.dbE c_Pl.xs c_Sh.xs c_Ti.xs c_St.xs c_Ce c_Hd.xs c_Rt.xs x_rs.xs x_bd = Sp.dbE c_Pl.xs c_Sh.xs c_Ti.xs c_St.xs c_Ce c_Hd.xs c_Rt.xs x_rs.xs x_bd)) (Pre True (Q [[Cl.b true]])) (Q Zeo)) (Q Zeo)))))))))
theorem Xig (W : InW) (c_Pl c_Sh c_Ti c_St c_Ce c_Hd c_Rt w_Wm w_Wd w_Ws w_Wt x_rs x_bd Q) : Yte (cxT Try.prog TT TH5 1000 50) 1000 4 [.agg [.rs _ c_Pl, .rs _ c_Sh, .rs _ c_Ti, .rs _ c_St, .si .i64 c_Ce, .rs _ c_Hd, .rs _ c_Rt], .agg [.si .i64 w_Wm, .si .i64 w_Wd, .si .i64 w_Ws, .si .i64 w_Wt], .agg [.rs _ x_rs, .si .i64 x_bd]] [] 0 (Ywt [(false, [.bool])] Q) (fun _ _ _ _ => Stuck 421) = Xbc c_Pl c_Sh c_Ti c_St c_Ce c_Hd c_Rt w_Wm w_Wd w_Ws w_Wt x_rs x_bd Q := by kernel_rfl
abbrev Xx : List AT := [.agg [.sl Jb, .sl Jb, .sl Jb, .sl Jd, .int .i64, .sl Iv4, .sl Je], .agg [.int .i64, .int .i64, .int .i64, .int .i64], .agg [.sl Ja, .int .i64]]
theorem Xim {pre : DS -> Prop} {res : DS -> DS} (hyp_ : ∀ (W : InW) (c_Pl c_Sh c_Ti : Ro Jb) (c_St : Ro Jd) (c_Ce : Int) (c_Hd : Ro Iv4) (c_Rt : Ro Je) (w_Wm w_Wd w_Ws w_Wt : Int) (x_rs : Ro Ja) (x_bd : Int), pre [[.l c_Pl.xs, .l c_Sh.xs, .l c_Ti.xs, .l c_St.xs, .i c_Ce, .l c_Hd.xs, .l c_Rt.xs], [.i w_Wm, .i w_Wd, .i w_Ws, .i w_Wt], [.l x_rs.xs, .i x_bd]] -> ∀ Q : DS -> Prop, Q (res [[.l c_Pl.xs, .l c_Sh.xs, .l c_Ti.xs, .l c_St.xs, .i c_Ce, .l c_Hd.xs, .l c_Rt.xs], [.i w_Wm, .i w_Wd, .i w_Ws, .i w_Wt], [.l x_rs.xs, .i x_bd]]) -> Xbc c_Pl c_Sh c_Ti c_St c_Ce c_Hd c_Rt w_Wm w_Wd w_Ws w_Wt x_rs x_bd Q) : PureOk Try.prog 4 Xx [(false, [.bool])] pre res :=
 PureOk.of' (fun W => @TT W) (fun W => @Xb W) Xa TH5 1000 50 fun W c_Pl c_Sh c_Ti c_St c_Ce c_Hd c_Rt w_Wm w_Wd w_Ws w_Wt x_rs x_bd hp =>
  (Xig W c_Pl c_Sh c_Ti c_St c_Ce c_Hd c_Rt w_Wm w_Wd w_Ws w_Wt x_rs x_bd (fun o => o = res [[.l c_Pl.xs, .l c_Sh.xs, .l c_Ti.xs, .l c_St.xs, .i c_Ce, .l c_Hd.xs, .l c_Rt.xs], [.i w_Wm, .i w_Wd, .i w_Ws, .i w_Wt], [.l x_rs.xs, .i x_bd]])).mpr (hyp_ W c_Pl c_Sh c_Ti c_St c_Ce c_Hd c_Rt w_Wm w_Wd w_Ws w_Wt x_rs x_bd hp _ rfl)
theorem Xfy : PureOk Try.prog 4 Xx [(false, [.bool])] (WfD Xx) fun _ => [[.b true]] :=
 Xim fun W pl sh ti st ce hd rt wm wd ws wt xr xb hp Q h => by
  obtain ⟨d, ds, e1, hp1, hp2⟩ := hp;cases e1;have hn := Xid hp1;unfold Xbc;delta Zeo Zet;simp [Vif_iff, Pre_iff, hn, Xoz, h]
end Go.Proofs.Ytmogofidmchdoaa
namespace Go.Proofs.Ytmogofidmchdoaa.coursePicks
open Go.ChangeShapes Go.WideShapes Go.ChangeAt Go.RowKit
set_option maxRecDepth 100000
theorem own : ownKnob Try.prog.godebug = none := by kernel_rfl
theorem laid : laidOutB Try.prog = true := by kernel_rfl
theorem lifted (os : Os) (started : os.Started) (H : Type) (enc : TypeId × Value -> H) :
  ReturnsInHanded {} Try.checked os 4 .any (Rows.coursePicksSpec.pre6 enc Try.prog Try.f4 Rows.coursePicksRow.domain false) (Rows.coursePicksSpec.post enc Try.prog Try.f4 false true false false) := by
 refine returnsInHanded_of_change (C := Try.checked) own started (by kernel_rfl) Try.func4
  (ChangeSpec.witness6 (enc := enc) (C := Try.checked) false ⟨#[], #[(.agg #[.slice none 0 0, .slice none 0 0, .slice none 0 0, .slice none 0 0, .int .i64 0, .slice none 0 0, .slice none 0 0]), (.agg #[.int .i64 0, .int .i64 0, .int .i64 0, .int .i64 0]), (.agg #[.slice none 0 0, .int .i64 0])], []⟩ 8 (by kernel_rfl) (by kernel_rfl) (by kernel_rfl) (by kernel_rfl)) ?_
 intro W base args ds gs before hval hW _ _;exact law_end (f := Try.f4) (s := Rows.coursePicksSpec) (by kernel_rfl) Try.underlying4 (by kernel_rfl) rfl laid (by kernel_rfl)
  (fun ds h => by match ds, (show ds.length = 3 from h) with | [_, _, _], _ => exact ⟨rfl, rfl, rfl⟩) Xfy hval hW
theorem over : Rows.coursePicksRow.holds Try.pinned (OpenSpec.ofChange Rows.coursePicksSpec) :=
 OpenClaim.holds_of_wide 4 Try.f4 rfl rfl rfl rfl rfl rfl rfl ⟨rfl, rfl, rfl, rfl, rfl⟩ rfl rfl rfl rfl rfl (by kernel_rfl) Try.func4 (by kernel_rfl)
  (of_decide_eq_true (by kernel_rfl)) (by unfold Func.isWrapper; first | (rw [if_pos (by decide +kernel)]; kernel_rfl) | (rw [if_neg (by decide +kernel)]; exact ⟨rfl, rfl⟩))
  (fun os started H enc _ => lifted os started H enc)
theorem proved : Rows.CoursePicksSaid := over
end Go.Proofs.Ytmogofidmchdoaa.coursePicks
