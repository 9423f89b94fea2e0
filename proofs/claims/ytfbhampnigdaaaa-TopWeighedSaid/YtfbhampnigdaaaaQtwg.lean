/-
  'TopWeighed': for every input the law returns true, and what is handed in reads as before. No condition.
-/
import Derived.Test.YtfbhampnigdaaaaQtwf
import Derived.Test.YtfbhampnigdaaaaRows
import Derived.WalkKit
import Derived.ProofKit
set_option linter.unusedVariables false
set_option linter.unusedSectionVars false
set_option linter.unusedSimpArgs false
noncomputable section
namespace Go.Proofs.Ytfbhampnigdaaaa
def Xj2 : PC Try.prog := ⟨14, [], [(false, [.bool])], fun _ => True, fun _ => [[.b true]], Y1h ok_M6 rfl rfl rfl fun _ _ _ => rfl⟩
open Go.RowKit
set_option maxRecDepth 100000
set_option maxHeartbeats 3200000
def TW6 : Tab Try.prog := ⟨[Xj0, Xjz, Xl4, Xr3, Xpd, Xpf, Xj2, Xj1], [Xto, Xtq], []⟩
def Zfv [W : InW] (kQ : Ro Iv5) (kP : Ro Jc) (kA : Int) (pp : Ro [.sl Jb]) := (↑(List.length (Sp.misV kQ.xs kP.xs kA pp.xs)) : Int)
def Zfw [W : InW] (kQ : Ro Iv5) (kP : Ro Jc) (kA : Int) (pp : Ro [.sl Jb]) := decide ((Zfv kQ kP kA pp) = (Zfv kQ kP kA pp)) && decide (Zb <= (Zfv kQ kP kA pp)) && decide ((8 : Nat) * (Zfv kQ kP kA pp).toNat <= 281474976710656)
def Zfp [W : InW] (kQ : Ro Iv5) (kP : Ro Jc) (kA : Int) (pp : Ro [.sl Jb]) := List.replicate (Zfv kQ kP kA pp).toNat (Ybq [Ty.int IntKind.i64])
def Zft [W : InW] (kQ : Ro Iv5) (kP : Ro Jc) (kA : Int) (pp : Ro [.sl Jb]) := Tt.colS (Sp.misV kQ.xs kP.xs kA pp.xs) Zd Zem (List.length (Sp.misV kQ.xs kP.xs kA pp.xs) - Int.toNat Zb) (Zfp kQ kP kA pp)
def Zfs [W : InW] (kQ : Ro Iv5) (kP : Ro Jc) (kA : Int) (pp : Ro [.sl Jb]) (x : Ro [.int .u16]) := Tt.wrO kQ.xs pp.xs x.xs Zem (List.length (Sp.misV kQ.xs kP.xs kA pp.xs) - Int.toNat Zb) (Zfp kQ kP kA pp)
def Zfu [W : InW] (kQ : Ro Iv5) (kP : Ro Jc) (kA : Int) (pp : Ro [.sl Jb]) := Tt.colS (Sp.misV kQ.xs kP.xs kA pp.xs) (1 : Nat) Zem (List.length (Sp.misV kQ.xs kP.xs kA pp.xs) - Int.toNat Zb) (Zfp kQ kP kA pp)
def Zfy := (16000 : Int)
def Zfx [W : InW] (kQ : Ro Iv5) (kP : Ro Jc) (kA : Int) (pp : Ro [.sl Jb]) (x : Ro [.int .u16]) := Tt.bkD (↑(pp.xs.length) : Int) (Zfs kQ kP kA pp x) (List.length (Zfs kQ kP kA pp x))
def Zfq [W : InW] (kQ : Ro Iv5) (kP : Ro Jc) (kA : Int) (pp : Ro [.sl Jb]) := Sq.wtsR (Tt.bkD (↑(pp.xs.length) : Int) (Zft kQ kP kA pp) (List.length (Zft kQ kP kA pp))) [[Cl.i (↑(List.length (Zft kQ kP kA pp)) : Int)]] Zb Zfy
def Zfr [W : InW] (kQ : Ro Iv5) (kP : Ro Jc) (kA : Int) (pp : Ro [.sl Jb]) := Sq.wtsR (Tt.bkD (↑(pp.xs.length) : Int) (Zfu kQ kP kA pp) (List.length (Zfu kQ kP kA pp))) [[Cl.i (↑(List.length (Zfu kQ kP kA pp)) : Int)]] Zb Zfy
def Xd5 [W : InW] (kQ : Ro Iv5) (kP : Ro Jc) (kA : Int) (pp : Ro [.sl Jb]) (x : Ro [.int .u16]) (Q : DS -> Prop) : Prop :=
 Pre True (Vif (!decide (Sp.misE kQ.xs kP.xs kA pp.xs = 0)) (Vif (decide ((Zfv kQ kP kA pp) = 0)) (Pre True (Q [[Cl.b true]])) (Q Zfo)) (Pre True (Vif (!decide (Sp.chkE kQ.xs kP.xs kA = 0)) (Q Zfo) (Vif (!decide ((Zfv kQ kP kA pp) = (↑(kQ.xs.length) : Int))) (Q Zfo) (Vif (decide ((20 : Int) < (↑(pp.xs.length) : Int))) (Q Zfo) (Need (Zfw kQ kP kA pp) (Need (Zfw kQ kP kA pp) (Need (Zfw kQ kP kA pp) (Pre (Zb <= 0 /\ Zb <= (Zfv kQ kP kA pp) /\ Tt.WeOk kQ.xs (Sp.misV kQ.xs kP.xs kA pp.xs) (Zfp kQ kP kA pp) (Zfp kQ kP kA pp) (Zfp kQ kP kA pp) Zb /\ Tt.InOk kQ.xs kP.xs kA pp.xs x.xs) (Pre (List.length (Zft kQ kP kA pp) <= 12) (Pre True (Pre (List.length (Zfs kQ kP kA pp x) <= 12) (Pre True (Pre (List.length (Zfu kQ kP kA pp) <= 12) (Pre True (Vif (!decide (Sq.chkE (Tt.bkD (↑(pp.xs.length) : Int) (Zft kQ kP kA pp) (List.length (Zft kQ kP kA pp))) [[Cl.i (↑(List.length (Zft kQ kP kA pp)) : Int)]] Zb Zfy = 0)) (Q Zfo) (Vif (!decide (Sq.chkE (Zfx kQ kP kA pp x) [[Cl.i (↑(List.length (Zfs kQ kP kA pp x)) : Int)]] Zb Zfy = 0)) (Q Zfo) (Vif (!decide (Sq.chkE (Tt.bkD (↑(pp.xs.length) : Int) (Zfu kQ kP kA pp) (List.length (Zfu kQ kP kA pp))) [[Cl.i (↑(List.length (Zfu kQ kP kA pp)) : Int)]] Zb Zfy = 0)) (Q Zfo) (Vif (!decide ((↑(List.length (Zfq kQ kP kA pp)) : Int) = (Zfv kQ kP kA pp))) (Q Zfo) (Vif (!decide ((↑(List.length (Sq.wtsR (Zfx kQ kP kA pp x) [[Cl.i (↑(List.length (Zfs kQ kP kA pp x)) : Int)]] Zb Zfy)) : Int) = (Zfv kQ kP kA pp))) (Q Zfo) (Vif (!decide ((↑(List.length (Zfr kQ kP kA pp)) : Int) = (Zfv kQ kP kA pp))) (Q Zfo) (Pre (Zb <= 0 /\ Zb <= (Zfv kQ kP kA pp) /\ Tt.CmOk (Sp.misV kQ.xs kP.xs kA pp.xs) (Zfq kQ kP kA pp) (Sq.wtsR (Zfx kQ kP kA pp x) [[Cl.i (↑(List.length (Zfs kQ kP kA pp x)) : Int)]] Zb Zfy) (Zfr kQ kP kA pp)) (Pre (Tt.SmOk (Zfq kQ kP kA pp)) (Pre (Tt.SmOk (Zfr kQ kP kA pp)) (Pre (List.length (Zfs kQ kP kA pp x) <= 12) (Pre True (Vif (decide (Sq.chkE (Zfx kQ kP kA pp x) [[Cl.i (↑(List.length (Zfs kQ kP kA pp x)) : Int)]] (max Zb (Tt.sumD (Zfq kQ kP kA pp) Zd (List.length (Zfq kQ kP kA pp)))) (max Zb (min Zfy (Tt.sumD (Zfr kQ kP kA pp) Zd (List.length (Zfr kQ kP kA pp))))) = 0)) (Vif (decide (Sq.cntR (Zfx kQ kP kA pp x) [[Cl.i (↑(List.length (Zfs kQ kP kA pp x)) : Int)]] (max Zb (Tt.sumD (Zfq kQ kP kA pp) Zd (List.length (Zfq kQ kP kA pp)))) (max Zb (min Zfy (Tt.sumD (Zfr kQ kP kA pp) Zd (List.length (Zfr kQ kP kA pp))))) = 1)) (Pre True (Vif true (Pre True (Q [[Cl.b true]])) (Q Zfo))) (Q Zfo)) (Q Zfo))))))))))))))))))))))))))))
theorem Xlz (W : InW) (kQ kP kA pp x Q) : Yx2 (cxT Try.prog TT TW6 1000 50) 1000 3 [.agg [.rs _ kQ, .rs _ kP, .si .i64 kA], .rs _ pp, .rs _ x] [] 0 (Y2i [(false, [.bool])] Q) (fun _ _ _ _ => Stuck 421) = Xd5 kQ kP kA pp x Q := by kernel_rfl
abbrev Xc2 : List AT := [.agg [.sl Iv5, .sl Jc, .int .i64], .one (.sl [.sl Jb]), .one (.sl [.int .u16])]
theorem Xmz {pre : DS -> Prop} {res : DS -> DS} (hyp_ : ∀ (W : InW) (kQ : Ro Iv5) (kP : Ro Jc) (kA : Int) (pp : Ro [.sl Jb]) (x : Ro [.int .u16]), pre [[.l kQ.xs, .l kP.xs, .i kA], [.l pp.xs], [.l x.xs]] -> ∀ Q : DS -> Prop, Q (res [[.l kQ.xs, .l kP.xs, .i kA], [.l pp.xs], [.l x.xs]]) -> Xd5 kQ kP kA pp x Q) : PureOk Try.prog 3 Xc2 [(false, [.bool])] pre res :=
 PureOk.of' (fun W => @TT W) (fun W => @Xc W) Xa TW6 1000 50 fun W kQ kP kA pp x hp =>
  (Xlz W kQ kP kA pp x (fun o => o = res [[.l kQ.xs, .l kP.xs, .i kA], [.l pp.xs], [.l x.xs]])).mpr (hyp_ W kQ kP kA pp x hp _ rfl)
theorem Xji : PureOk Try.prog 3 Xc2 [(false, [.bool])] (WfD Xc2) fun _ => [[.b true]] :=
 Xmz fun W qs ps all pp x hp Q h => by
  have hx := (WfL.head (WfD.head (WfD.head (WfD.head hp).2).2).1).1;unfold Xd5;delta Zfr Zfq Zfx Zfu Zft Zfs Zfp Zem Zfw Zfo Zfy Zb Zfv Zd;have hxo : Sp.xOk x.xs := fun i hi => by
   have h1 := wf_el hx i hi (k := 0) rfl;have h2 : ∃ m, cel x.xs i 0 = .i m := by
    cases hc : cel x.xs i 0 <;> rw [hc] at h1 <;> cases h1;exact ⟨_, rfl⟩
   obtain ⟨m, e⟩ := h2;rw [e] at h1 ⊢;exact Xrt h1
  by_cases e : Sp.misE qs.xs ps.xs all pp.xs = 0
  ·obtain ⟨c1, c2, c3⟩ := Sp.misE_iff.1 e;have hm := Sp.ms_ok e hxo;generalize Sp.misV qs.xs ps.xs all pp.xs = L at hm ⊢;have th := Tt.three hm;have hl := hm.len;have a1 : Tt.colS L 0 0 L.length (List.replicate L.length [Cl.i 0]) = Tt.lwD L := rfl;have a2 : Tt.colS L 1 0 L.length (List.replicate L.length [Cl.i 0]) = Tt.hwD L := rfl;have a3 : Tt.wrO qs.xs pp.xs x.xs 0 L.length (List.replicate L.length [Cl.i 0]) = Tt.wwD qs.xs pp.xs x.xs L := rfl;have b1 : ∀ w : Dt, Tt.bkD (pp.xs.length : Int) w w.length = Tt.bk pp.xs w := fun _ => rfl;simp only [show Int.toNat 0 = 0 from rfl, Nat.sub_zero, Int.toNat_natCast, show Ybq [Ty.int IntKind.i64] = [Cl.i 0] from rfl, a1, a2, a3, b1];have l1 := th.l1;have l2 := th.l2;have m20 := th.m20;have lo := Tt.bok th.low l1 l2 m20;have mi := Tt.bok th.mid l1 l2 m20;have hi := Tt.bok th.high l1 l2 m20;clear a1 a2 a3 b1;have cm : Tt.CmOk L (Tt.wv pp.xs (Tt.lwD L)) (Tt.wv pp.xs (Tt.wwD qs.xs pp.xs x.xs L)) (Tt.wv pp.xs (Tt.hwD L)) := ⟨l2, by rw [Tt.wv_len, lo.len], by rw [Tt.wv_len, mi.len], by rw [Tt.wv_len, hi.len], fun j hj => ⟨Tt.wv_le lo.len mi.len th.low.lo th.le1 j hj, Tt.wv_le mi.len hi.len th.mid.lo th.le2 j hj⟩⟩;have we : Tt.WeOk qs.xs L (List.replicate L.length [Cl.i 0]) (List.replicate L.length [Cl.i 0]) (List.replicate L.length [Cl.i 0]) 0 := ⟨hl, List.length_replicate, List.length_replicate, List.length_replicate, fun j _ => Tt.zs_cel L.length j⟩;have s1 := Tt.sumD_bd L.length 0 fun j _ hj => lo.b j (by omega);have s2 := Tt.sumD_le (a := Tt.wv pp.xs (Tt.lwD L)) (b := Tt.wv pp.xs (Tt.wwD qs.xs pp.xs x.xs L)) L.length 0 fun j _ hj => (cm.le j (by omega)).1;have s3 := Tt.sumD_le (a := Tt.wv pp.xs (Tt.wwD qs.xs pp.xs x.xs L)) (b := Tt.wv pp.xs (Tt.hwD L)) L.length 0 fun j _ hj => (cm.le j (by omega)).2;have s4 := Tt.sumD_bd L.length 0 fun j _ hj => hi.b j (by omega);have mi2 := th.mid;have hk := hm.key;have io : Tt.InOk qs.xs ps.xs all pp.xs x.xs := ⟨hm.key, hm.n20, hm.ok, hm.x_⟩;clear th hm;generalize Tt.lwD L = wl at *;generalize Tt.hwD L = wh at *;generalize Tt.wwD qs.xs pp.xs x.xs L = wm at *;have e1 := lo.len;have e2 := mi.len;have e3 := hi.len;have k1 := lo.chk 0 16000 (by omega) (by omega) (by omega);have k2 := mi.chk 0 16000 (by omega) (by omega) (by omega);have k3 := hi.chk 0 16000 (by omega) (by omega) (by omega);have r1 := lo.wts 0 16000 (by omega) (by omega) (by omega);have r2 := mi.wts 0 16000 (by omega) (by omega) (by omega);have r3 := hi.wts 0 16000 (by omega) (by omega) (by omega);have o := Tt.one (lo := max 0 (Tt.sumD (Tt.wv pp.xs wl) 0 L.length)) (hi := max 0 (min 16000 (Tt.sumD (Tt.wv pp.xs wh) 0 L.length))) mi2 l1 l2 m20 (by omega) (by omega) (by omega) (by omega);rw [e1] at k1 r1;rw [e2] at k2 r2 o;rw [e3] at k3 r3;have f1 : (Tt.wv pp.xs wl).length = L.length := by rw [Tt.wv_len, e1]
   have f2 : (Tt.wv pp.xs wm).length = L.length := by rw [Tt.wv_len, e2]
   have f3 : (Tt.wv pp.xs wh).length = L.length := by rw [Tt.wv_len, e3]
   simp only [r1, r2, r3, e1, e2, e3, f1, f2, f3];have nd : (decide True && decide (0 <= (L.length : Int)) && decide (8 * L.length <= 281474976710656)) = true := by simp; omega
   refine Xb trivial (vifn (fun g => absurd e g) fun _ => Xb trivial (vifn (fun g => absurd c1 g) fun _ => vifn (fun g => absurd (by omega) g) fun _ => vifd (fun g => absurd g (by omega)) fun _ => ned nd (ned nd (ned nd (Xb ⟨by omega, by omega, we, io⟩ (Xb l2 (Xb trivial (Xb l2 (Xb trivial (Xb l2 (Xb trivial ?_)))))))))));refine vifn (fun g => absurd k1 g) fun _ => vifn (fun g => absurd k2 g) fun _ => vifn (fun g => absurd k3 g) fun _ => vifn (fun g => absurd trivial g) fun _ => vifn (fun g => absurd trivial g) fun _ => vifn (fun g => absurd trivial g) fun _ => Xb ⟨by omega, by omega, cm⟩ (Xb ⟨by omega, fun j hj => lo.b j (by omega)⟩ (Xb ⟨by omega, fun j hj => hi.b j (by omega)⟩ (Xb l2 (Xb trivial (vifd (fun _ => vifd (fun _ => Xb trivial (vif (fun _ => Xb trivial h) fun g => by cases g)) fun g => absurd o.2 g) fun g => ?_)))));exact absurd o.1 g
  ·have hv : Sp.misV qs.xs ps.xs all pp.xs = [] := by unfold Sp.misV; rw [if_neg e]
   exact Xb trivial (vifn (fun _ => vifd (fun _ => Xb trivial h) fun c => absurd (by rw [hv]; rfl) c) fun c => absurd c e)
end Go.Proofs.Ytfbhampnigdaaaa
namespace Go.Proofs.Ytfbhampnigdaaaa.topWeighed
open Go.ChangeShapes Go.WideShapes Go.ChangeAt Go.RowKit
set_option maxRecDepth 100000
theorem own : ownKnob Try.prog.godebug = none := by kernel_rfl
theorem laid : laidOutB Try.prog = true := by kernel_rfl
theorem lifted (os : Os) (started : os.Started) (H : Type) (enc : TypeId × Value -> H) :
  ReturnsInHanded {} Try.checked os 3 .any (Rows.topWeighedSpec.pre6 enc Try.prog Try.f3 Rows.topWeighedRow.domain false) (Rows.topWeighedSpec.post enc Try.prog Try.f3 false true false false) := by
 refine returnsInHanded_of_change (C := Try.checked) own started (by kernel_rfl) Try.func3
  (ChangeSpec.witness6 (enc := enc) (C := Try.checked) false ⟨#[], #[(.agg #[.slice none 0 0, .slice none 0 0, .int .i64 0]), (.slice none 0 0), (.slice none 0 0)], []⟩ 8 (by kernel_rfl) (by kernel_rfl) (by kernel_rfl) (by kernel_rfl)) ?_
 intro W base args ds gs before hval hW _ _;exact law_end (f := Try.f3) (s := Rows.topWeighedSpec) (by kernel_rfl) Try.underlying4 (by kernel_rfl) rfl laid (by kernel_rfl)
  (fun ds h => by match ds, (show ds.length = 3 from h) with | [_, _, _], _ => exact ⟨rfl, rfl, rfl⟩) Xji hval hW
theorem over : Rows.topWeighedRow.holds Try.pinned (OpenSpec.ofChange Rows.topWeighedSpec) :=
 OpenClaim.holds_of_wide 3 Try.f3 rfl rfl rfl rfl rfl rfl rfl ⟨rfl, rfl, rfl, rfl, rfl⟩ rfl rfl rfl rfl rfl (by kernel_rfl) Try.func3 (by kernel_rfl)
  (of_decide_eq_true (by kernel_rfl)) (by unfold Func.isWrapper; first | (rw [if_pos (by decide +kernel)]; kernel_rfl) | (rw [if_neg (by decide +kernel)]; exact ⟨rfl, rfl⟩))
  (fun os started H enc _ => lifted os started H enc)
theorem proved : Rows.TopWeighedSaid := over
end Go.Proofs.Ytfbhampnigdaaaa.topWeighed
