/-
  'CourseAparts': for every input the law returns true, and what is handed in reads as before. No condition.
-/
import Derived.Test.YtmogofidmchdoaaQi
import Derived.Test.YtmogofidmchdoaaRows
import Derived.WalkKit
import Derived.ProofKit
set_option linter.unusedVariables false
set_option linter.unusedSectionVars false
set_option linter.unusedSimpArgs false
namespace Go.Proofs.Ytmogofidmchdoaa
open Go.RowKit
set_option maxRecDepth 100000
set_option maxHeartbeats 1600000
noncomputable def TH4 : Tab Try.prog := ⟨[Y6q, Ybkb, Y6t, Y3z, Ybjp, Y6r, pc_Awake], [], []⟩
def Zej [W : InW] (c_Pl c_Sh c_Ti : Ro Jb) := Sp.NamesOk c_Pl.xs /\ Sp.NamesOk c_Sh.xs /\ Sp.NamesOk c_Ti.xs
def Xb [W : InW] (c_Pl c_Sh c_Ti : Ro Jb) (c_St : Ro Jd) (c_Ce : Int) (c_Hd : Ro Iv4) (c_Rt : Ro Je) (x_x x_y : Int) (Q : DS -> Prop) : Prop :=
 Pre (Zej c_Pl c_Sh c_Ti) (Pre (Zej c_Pl c_Sh c_Ti) (Pre True (Vif (!(decide (Sp.paLo c_Pl.xs c_Sh.xs c_Ti.xs c_St.xs c_Ce c_Hd.xs c_Rt.xs x_x x_y = Sp.paLo c_Pl.xs c_Sh.xs c_Ti.xs c_St.xs c_Ce c_Hd.xs c_Rt.xs x_x x_y) && decide (Sp.paHi c_Pl.xs c_Sh.xs c_Ti.xs c_St.xs c_Ce c_Hd.xs c_Rt.xs x_x x_y = Sp.paHi c_Pl.xs c_Sh.xs c_Ti.xs c_St.xs c_Ce c_Hd.xs c_Rt.xs x_x x_y) && (Sp.ints (Sp.paLe c_Pl.xs c_Sh.xs c_Ti.xs c_St.xs c_Ce c_Hd.xs c_Rt.xs x_x x_y) (Sp.paLe c_Pl.xs c_Sh.xs c_Ti.xs c_St.xs c_Ce c_Hd.xs c_Rt.xs x_x x_y) && Sp.ints (Sp.paGr c_Pl.xs c_Sh.xs c_Ti.xs c_St.xs c_Ce c_Hd.xs c_Rt.xs x_x x_y) (Sp.paGr c_Pl.xs c_Sh.xs c_Ti.xs c_St.xs c_Ce c_Hd.xs c_Rt.xs x_x x_y)))) (Q Zee) (Vif (!decide (Sp.pairE c_Pl.xs c_Sh.xs c_Ti.xs c_St.xs c_Ce c_Hd.xs c_Rt.xs x_x x_y = Sp.pairE c_Pl.xs c_Sh.xs c_Ti.xs c_St.xs c_Ce c_Hd.xs c_Rt.xs x_x x_y)) (Q Zee) (Pre (Zej c_Pl c_Sh c_Ti) (Pre (Zej c_Pl c_Sh c_Ti) (Pre True (Vif (Sp.ints (Sp.pdL c_Pl.xs c_Sh.xs c_Ti.xs c_St.xs c_Ce c_Hd.xs c_Rt.xs x_x x_y) (Sp.pdL c_Pl.xs c_Sh.xs c_Ti.xs c_St.xs c_Ce c_Hd.xs c_Rt.xs x_x x_y)) (Vif (decide (Sp.pairE c_Pl.xs c_Sh.xs c_Ti.xs c_St.xs c_Ce c_Hd.xs c_Rt.xs x_x x_y = Sp.pairE c_Pl.xs c_Sh.xs c_Ti.xs c_St.xs c_Ce c_Hd.xs c_Rt.xs x_x x_y)) (Pre True (Q [[Cl.b true]])) (Q Zee)) (Q Zee)))))))))
theorem Xd (W : InW) (c_Pl c_Sh c_Ti c_St c_Ce c_Hd c_Rt x_x x_y Q) : Ybh (cxT Try.prog TT TH4 1000 50) 1000 3 [.agg [.rs _ c_Pl, .rs _ c_Sh, .rs _ c_Ti, .rs _ c_St, .si .i64 c_Ce, .rs _ c_Hd, .rs _ c_Rt], .agg [.si .i64 x_x, .si .i64 x_y]] [] 0 (Ybj [(false, [.bool])] Q) (fun _ _ _ _ => Stuck 421) = Xb c_Pl c_Sh c_Ti c_St c_Ce c_Hd c_Rt x_x x_y Q := by kernel_rfl
abbrev Xa : List AT := [.agg [.sl Jb, .sl Jb, .sl Jb, .sl Jd, .int .i64, .sl Iv4, .sl Je], .agg [.int .i64, .int .i64]]
theorem Xe {pre : DS -> Prop} {res : DS -> DS} (hyp_ : ∀ (W : InW) (c_Pl c_Sh c_Ti : Ro Jb) (c_St : Ro Jd) (c_Ce : Int) (c_Hd : Ro Iv4) (c_Rt : Ro Je) (x_x x_y : Int), pre [[.l c_Pl.xs, .l c_Sh.xs, .l c_Ti.xs, .l c_St.xs, .i c_Ce, .l c_Hd.xs, .l c_Rt.xs], [.i x_x, .i x_y]] -> ∀ Q : DS -> Prop, Q (res [[.l c_Pl.xs, .l c_Sh.xs, .l c_Ti.xs, .l c_St.xs, .i c_Ce, .l c_Hd.xs, .l c_Rt.xs], [.i x_x, .i x_y]]) -> Xb c_Pl c_Sh c_Ti c_St c_Ce c_Hd c_Rt x_x x_y Q) : PureOk Try.prog 3 Xa [(false, [.bool])] pre res :=
 PureOk.of' (fun W => @TT W) (fun W => @Yo W) Yd TH4 1000 50 fun W c_Pl c_Sh c_Ti c_St c_Ce c_Hd c_Rt x_x x_y hp =>
  (Xd W c_Pl c_Sh c_Ti c_St c_Ce c_Hd c_Rt x_x x_y (fun o => o = res [[.l c_Pl.xs, .l c_Sh.xs, .l c_Ti.xs, .l c_St.xs, .i c_Ce, .l c_Hd.xs, .l c_Rt.xs], [.i x_x, .i x_y]])).mpr (hyp_ W c_Pl c_Sh c_Ti c_St c_Ce c_Hd c_Rt x_x x_y hp _ rfl)
theorem Xc : PureOk Try.prog 3 Xa [(false, [.bool])] (WfD Xa) fun _ => [[.b true]] :=
 Xe fun W pl sh ti st ce hd rt x0 x1 hp Q h => by
  obtain ⟨d, ds, e1, hp1, hp2⟩ := hp;cases e1;have hn := Ybe9 hp1;unfold Xb;delta Zee Zej;simp [Ytp, Ykw, hn, Ybl3, h]
end Go.Proofs.Ytmogofidmchdoaa
namespace Go.Proofs.Ytmogofidmchdoaa.courseAparts
open Go.ChangeShapes Go.WideShapes Go.ChangeAt Go.RowKit
set_option maxRecDepth 100000
theorem own : ownKnob Try.prog.godebug = none := by kernel_rfl
theorem laid : laidOutB Try.prog = true := by kernel_rfl
theorem lifted (os : Os) (started : os.Started) (H : Type) (enc : TypeId × Value -> H) :
  ReturnsInHanded {} Try.checked os 3 .any (Rows.courseApartsSpec.pre6 enc Try.prog Try.f3 Rows.courseApartsRow.domain false) (Rows.courseApartsSpec.post enc Try.prog Try.f3 false true false false) := by
 refine returnsInHanded_of_change (C := Try.checked) own started (by kernel_rfl) Try.func3
  (ChangeSpec.witness6 (enc := enc) (C := Try.checked) false ⟨#[], #[(.agg #[.slice none 0 0, .slice none 0 0, .slice none 0 0, .slice none 0 0, .int .i64 0, .slice none 0 0, .slice none 0 0]), (.agg #[.int .i64 0, .int .i64 0])], []⟩ 8 (by kernel_rfl) (by kernel_rfl) (by kernel_rfl) (by kernel_rfl)) ?_
 intro W base args ds gs before hval hW _ _;exact law_end (f := Try.f3) (s := Rows.courseApartsSpec) (by kernel_rfl) Try.underlying4 (by kernel_rfl) rfl laid (by kernel_rfl)
  (fun ds h => by match ds, (show ds.length = 2 from h) with | [_, _], _ => exact ⟨rfl, rfl, rfl⟩) Xc hval hW
theorem over : Rows.courseApartsRow.holds Try.pinned (OpenSpec.ofChange Rows.courseApartsSpec) :=
 OpenClaim.holds_of_wide 3 Try.f3 rfl rfl rfl rfl rfl rfl rfl ⟨rfl, rfl, rfl, rfl, rfl⟩ rfl rfl rfl rfl rfl (by kernel_rfl) Try.func3 (by kernel_rfl)
  (of_decide_eq_true (by kernel_rfl)) (by unfold Func.isWrapper; first | (rw [if_pos (by decide +kernel)]; kernel_rfl) | (rw [if_neg (by decide +kernel)]; exact ⟨rfl, rfl⟩))
  (fun os started H enc _ => lifted os started H enc)
theorem proved : Rows.CourseApartsSaid := over
end Go.Proofs.Ytmogofidmchdoaa.courseAparts
