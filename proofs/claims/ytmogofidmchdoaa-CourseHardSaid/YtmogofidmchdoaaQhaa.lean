/-
  'CourseHard': for every input the law returns true, and what is handed in reads as before. No condition.
-/
import Derived.Test.YtmogofidmchdoaaQi
import Derived.Test.YtmogofidmchdoaaRows
import Derived.WalkKit
import Derived.ProofKit
set_option linter.unusedVariables false
set_option linter.unusedSectionVars false
set_option linter.unusedSimpArgs false
namespace Go.Proofs.Ytmogofidmchdoaa
open Go.RowKit
set_option maxRecDepth 100000
set_option maxHeartbeats 1600000
noncomputable def TH3 : Tab Try.prog := ⟨[Yfs, Ybbp, pc_rHard, Ybkd, pc_rAt, pc_Awake], [], [Yj4]⟩
def Zek [W : InW] (c_Pl c_Sh c_Ti : Ro Jb) := Sp.NamesOk c_Pl.xs /\ Sp.NamesOk c_Sh.xs /\ Sp.NamesOk c_Ti.xs
def Zej [W : InW] (c_Pl c_Sh c_Ti : Ro Jb) (c_St : Ro Jd) (c_Ce : Int) (c_Hd : Ro Iv4) (c_Rt : Ro Je) (r : Int) (tr : Ro Ja) (Q : DS -> Prop) := Pre (Zek c_Pl c_Sh c_Ti) (Pre (Zek c_Pl c_Sh c_Ti) (Vif (!(decide (Sp.hvLo c_Pl.xs c_Sh.xs c_Ti.xs c_St.xs c_Ce c_Hd.xs c_Rt.xs r = Sp.hvLo c_Pl.xs c_Sh.xs c_Ti.xs c_St.xs c_Ce c_Hd.xs c_Rt.xs r) && (decide (Sp.hvHi c_Pl.xs c_Sh.xs c_Ti.xs c_St.xs c_Ce c_Hd.xs c_Rt.xs r = Sp.hvHi c_Pl.xs c_Sh.xs c_Ti.xs c_St.xs c_Ce c_Hd.xs c_Rt.xs r) && true))) (Q Zee) (Vif (!decide (Sp.haE c_Pl.xs c_Sh.xs c_Ti.xs c_St.xs c_Ce c_Hd.xs c_Rt.xs r = Sp.haE c_Pl.xs c_Sh.xs c_Ti.xs c_St.xs c_Ce c_Hd.xs c_Rt.xs r)) (Q Zee) (Pre (Zek c_Pl c_Sh c_Ti) (Pre (Zek c_Pl c_Sh c_Ti) (Vif (decide (Sp.avN c_Pl.xs c_Sh.xs c_Ti.xs c_St.xs c_Ce c_Hd.xs c_Rt.xs r tr.xs = Sp.avN c_Pl.xs c_Sh.xs c_Ti.xs c_St.xs c_Ce c_Hd.xs c_Rt.xs r tr.xs)) (Vif (decide (Sp.aeE c_Pl.xs c_Sh.xs c_Ti.xs c_St.xs c_Ce c_Hd.xs c_Rt.xs r tr.xs = Sp.aeE c_Pl.xs c_Sh.xs c_Ti.xs c_St.xs c_Ce c_Hd.xs c_Rt.xs r tr.xs)) (Pre True (Q [[Cl.b true]])) (Q Zee)) (Q Zee)))))))
def Xb [W : InW] (c_Pl c_Sh c_Ti : Ro Jb) (c_St : Ro Jd) (c_Ce : Int) (c_Hd : Ro Iv4) (c_Rt : Ro Je) (r : Int) (tr : Ro Ja) (Q : DS -> Prop) : Prop :=
 Pre (Zek c_Pl c_Sh c_Ti) (Vif (decide (Sp.cE c_Pl.xs c_Sh.xs c_Ti.xs c_St.xs c_Ce c_Hd.xs c_Rt.xs = Zf)) (Pre (Zek c_Pl c_Sh c_Ti) (Vif (!decide (Zf = Sp.cP c_Pl.xs c_Sh.xs c_Ti.xs c_St.xs c_Ce c_Hd.xs c_Rt.xs)) (Q Zee) (Vif (!decide (Zf = Sp.cI c_Pl.xs c_Sh.xs c_Ti.xs c_St.xs c_Ce c_Hd.xs c_Rt.xs)) (Q Zee) (Vif (!decide (Zf = Sp.cE c_Pl.xs c_Sh.xs c_Ti.xs c_St.xs c_Ce c_Hd.xs c_Rt.xs)) (Q Zee) (Zej c_Pl c_Sh c_Ti c_St c_Ce c_Hd c_Rt r tr Q))))) (Pre (Zek c_Pl c_Sh c_Ti) (Vif (!decide (Sp.cP c_Pl.xs c_Sh.xs c_Ti.xs c_St.xs c_Ce c_Hd.xs c_Rt.xs = Sp.cP c_Pl.xs c_Sh.xs c_Ti.xs c_St.xs c_Ce c_Hd.xs c_Rt.xs)) (Q Zee) (Vif (!decide (Sp.cI c_Pl.xs c_Sh.xs c_Ti.xs c_St.xs c_Ce c_Hd.xs c_Rt.xs = Sp.cI c_Pl.xs c_Sh.xs c_Ti.xs c_St.xs c_Ce c_Hd.xs c_Rt.xs)) (Q Zee) (Vif (!decide (Sp.cE c_Pl.xs c_Sh.xs c_Ti.xs c_St.xs c_Ce c_Hd.xs c_Rt.xs = Sp.cE c_Pl.xs c_Sh.xs c_Ti.xs c_St.xs c_Ce c_Hd.xs c_Rt.xs)) (Q Zee) (Zej c_Pl c_Sh c_Ti c_St c_Ce c_Hd c_Rt r tr Q))))))
theorem Xd (W : InW) (c_Pl c_Sh c_Ti c_St c_Ce c_Hd c_Rt r tr Q) : Ybh (cxT Try.prog TT TH3 1000 50) 1000 13 [.agg [.rs _ c_Pl, .rs _ c_Sh, .rs _ c_Ti, .rs _ c_St, .si .i64 c_Ce, .rs _ c_Hd, .rs _ c_Rt], .si .i64 r, .rs _ tr] [] 0 (Ybj [(false, [.bool])] Q) (fun _ _ _ _ => Stuck 421) = Xb c_Pl c_Sh c_Ti c_St c_Ce c_Hd c_Rt r tr Q := by kernel_rfl
abbrev Xa : List AT := [.agg [.sl Jb, .sl Jb, .sl Jb, .sl Jd, .int .i64, .sl Iv4, .sl Je], .one (.int .i64), .one (.sl Ja)]
theorem Xe {pre : DS -> Prop} {res : DS -> DS} (hyp_ : ∀ (W : InW) (c_Pl c_Sh c_Ti : Ro Jb) (c_St : Ro Jd) (c_Ce : Int) (c_Hd : Ro Iv4) (c_Rt : Ro Je) (r : Int) (tr : Ro Ja), pre [[.l c_Pl.xs, .l c_Sh.xs, .l c_Ti.xs, .l c_St.xs, .i c_Ce, .l c_Hd.xs, .l c_Rt.xs], [.i r], [.l tr.xs]] -> ∀ Q : DS -> Prop, Q (res [[.l c_Pl.xs, .l c_Sh.xs, .l c_Ti.xs, .l c_St.xs, .i c_Ce, .l c_Hd.xs, .l c_Rt.xs], [.i r], [.l tr.xs]]) -> Xb c_Pl c_Sh c_Ti c_St c_Ce c_Hd c_Rt r tr Q) : PureOk Try.prog 13 Xa [(false, [.bool])] pre res :=
 PureOk.of' (fun W => @TT W) (fun W => @Yo W) Yd TH3 1000 50 fun W c_Pl c_Sh c_Ti c_St c_Ce c_Hd c_Rt r tr hp =>
  (Xd W c_Pl c_Sh c_Ti c_St c_Ce c_Hd c_Rt r tr (fun o => o = res [[.l c_Pl.xs, .l c_Sh.xs, .l c_Ti.xs, .l c_St.xs, .i c_Ce, .l c_Hd.xs, .l c_Rt.xs], [.i r], [.l tr.xs]])).mpr (hyp_ W c_Pl c_Sh c_Ti c_St c_Ce c_Hd c_Rt r tr hp _ rfl)
theorem Xf {pl sh ti st : Dt} {ce : Int} {hd rt : Dt} (h : Sp.cE pl sh ti st ce hd rt = 0) : Sp.cP pl sh ti st ce hd rt = 0 /\ Sp.cI pl sh ti st ce hd rt = 0 := by
 unfold Sp.cE Sp.cP Sp.cI Sp.cchk at *
 split at h
 ·split at h
  ·split at h
   ·split at h
    ·rename_i h5;exact absurd h (Sp.hasE_ix h5).2.2
    ·split at h
     ·rename_i h6;exact absurd h (Sp.hasE_ix h6).2.2
     ·rename_i h1 h2 h3 h4 h5;rw [if_pos h1, if_pos h2, if_pos h3, if_neg h4, if_neg h5];exact ⟨rfl, rfl⟩
   ·simp at h
  ·simp at h
 ·contradiction
theorem Xc : PureOk Try.prog 13 Xa [(false, [.bool])] (WfD Xa) fun _ => [[.b true]] :=
 Xe fun W pl sh ti st ce hd rt r tr hp Q h => by
  obtain ⟨d, ds, e1, hp1, hp2⟩ := hp;cases e1;have hn := Ybe9 hp1;unfold Xb;delta Zej Zee Zek Zf;have hc := Xf (pl := pl.xs) (sh := sh.xs) (ti := ti.xs) (st := st.xs) (ce := ce) (hd := hd.xs) (rt := rt.xs);simp only [Ytp, Ykw, decide_eq_true_eq, Bool.not_eq_true', decide_eq_false_iff_not];refine ⟨hn, fun e => ?_, fun e => ?_⟩
  ·simp [hn, hc e, e, h]
  ·simp [hn, h]
end Go.Proofs.Ytmogofidmchdoaa
namespace Go.Proofs.Ytmogofidmchdoaa.courseHard
open Go.ChangeShapes Go.WideShapes Go.ChangeAt Go.RowKit
set_option maxRecDepth 100000
theorem own : ownKnob Try.prog.godebug = none := by kernel_rfl
theorem laid : laidOutB Try.prog = true := by kernel_rfl
theorem lifted (os : Os) (started : os.Started) (H : Type) (enc : TypeId × Value -> H) :
  ReturnsInHanded {} Try.checked os 13 .any (Rows.courseHardSpec.pre6 enc Try.prog Try.f13 Rows.courseHardRow.domain false) (Rows.courseHardSpec.post enc Try.prog Try.f13 false true false false) := by
 refine returnsInHanded_of_change (C := Try.checked) own started (by kernel_rfl) Try.func13
  (ChangeSpec.witness6 (enc := enc) (C := Try.checked) false ⟨#[], #[(.agg #[.slice none 0 0, .slice none 0 0, .slice none 0 0, .slice none 0 0, .int .i64 0, .slice none 0 0, .slice none 0 0]), (.int .i64 0), (.slice none 0 0)], []⟩ 8 (by kernel_rfl) (by kernel_rfl) (by kernel_rfl) (by kernel_rfl)) ?_
 intro W base args ds gs before hval hW _ _;exact law_end (f := Try.f13) (s := Rows.courseHardSpec) (by kernel_rfl) Try.underlying4 (by kernel_rfl) rfl laid (by kernel_rfl)
  (fun ds h => by match ds, (show ds.length = 3 from h) with | [_, _, _], _ => exact ⟨rfl, rfl, rfl⟩) Xc hval hW
theorem over : Rows.courseHardRow.holds Try.pinned (OpenSpec.ofChange Rows.courseHardSpec) :=
 OpenClaim.holds_of_wide 13 Try.f13 rfl rfl rfl rfl rfl rfl rfl ⟨rfl, rfl, rfl, rfl, rfl⟩ rfl rfl rfl rfl rfl (by kernel_rfl) Try.func13 (by kernel_rfl)
  (of_decide_eq_true (by kernel_rfl)) (by unfold Func.isWrapper; first | (rw [if_pos (by decide +kernel)]; kernel_rfl) | (rw [if_neg (by decide +kernel)]; exact ⟨rfl, rfl⟩))
  (fun os started H enc _ => lifted os started H enc)
theorem proved : Rows.CourseHardSaid := over
end Go.Proofs.Ytmogofidmchdoaa.courseHard
