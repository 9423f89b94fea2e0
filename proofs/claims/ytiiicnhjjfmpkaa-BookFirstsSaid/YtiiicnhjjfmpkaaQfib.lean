/-
  'BookFirsts': for every input the law returns true, and what is handed in reads as before. No condition.
-/
import Derived.Test.YtiiicnhjjfmpkaaQfia
set_option linter.unusedVariables false
set_option linter.unusedSectionVars false
set_option linter.unusedSimpArgs false
namespace Go.Proofs.Ytiiicnhjjfmpkaa
open Go.RowKit
set_option maxRecDepth 100000
noncomputable def TP4 : Tab Try.prog := ⟨[pc_out, pc_bfee], [], [ce_can, ce_post, ce_school, ce_garage, ce_insurer, ce_outside]⟩
def sp_doK (kind : Int) [InW] (e : List Ed) (K : Nat -> List Ed -> Prop) : Prop := match e with
  | [.i n, .i at_, .i xl, .i xc, .i xb, .i xs, .i xh, .i xd, .i xw, .i xk, .i xm, .ro _ rl, .ro _ rc, .i pr, .i ex, .i lo, .i hi, .ro _ rt, .i tm, .i ev, .l ls, .l km, .l si, .l ac, .m es, .l ps] =>
    Pre (Sp.Inv ⟨rl.xs, rc.xs, pr, ex, lo, hi, rt.xs⟩ ⟨ls, km, si, ac, es, ps, tm, ev⟩ n)
      (K 0 [.i (Sp.doE ⟨rl.xs, rc.xs, pr, ex, lo, hi, rt.xs⟩ ⟨ls, km, si, ac, es, ps, tm, ev⟩ n ⟨kind, at_, xl, xc, xb, xs, xh, xd, xw, xk, xm⟩), .ro _ rl, .ro _ rc, .i pr, .i ex, .i lo, .i hi, .ro _ rt,
        .i (Sp.doB ⟨rl.xs, rc.xs, pr, ex, lo, hi, rt.xs⟩ ⟨ls, km, si, ac, es, ps, tm, ev⟩ n ⟨kind, at_, xl, xc, xb, xs, xh, xd, xw, xk, xm⟩).tm,
        .i (Sp.doB ⟨rl.xs, rc.xs, pr, ex, lo, hi, rt.xs⟩ ⟨ls, km, si, ac, es, ps, tm, ev⟩ n ⟨kind, at_, xl, xc, xb, xs, xh, xd, xw, xk, xm⟩).ev,
        .l (Sp.doB ⟨rl.xs, rc.xs, pr, ex, lo, hi, rt.xs⟩ ⟨ls, km, si, ac, es, ps, tm, ev⟩ n ⟨kind, at_, xl, xc, xb, xs, xh, xd, xw, xk, xm⟩).ls,
        .l (Sp.doB ⟨rl.xs, rc.xs, pr, ex, lo, hi, rt.xs⟩ ⟨ls, km, si, ac, es, ps, tm, ev⟩ n ⟨kind, at_, xl, xc, xb, xs, xh, xd, xw, xk, xm⟩).km,
        .l (Sp.doB ⟨rl.xs, rc.xs, pr, ex, lo, hi, rt.xs⟩ ⟨ls, km, si, ac, es, ps, tm, ev⟩ n ⟨kind, at_, xl, xc, xb, xs, xh, xd, xw, xk, xm⟩).si,
        .l (Sp.doB ⟨rl.xs, rc.xs, pr, ex, lo, hi, rt.xs⟩ ⟨ls, km, si, ac, es, ps, tm, ev⟩ n ⟨kind, at_, xl, xc, xb, xs, xh, xd, xw, xk, xm⟩).ac,
        .m (Sp.doB ⟨rl.xs, rc.xs, pr, ex, lo, hi, rt.xs⟩ ⟨ls, km, si, ac, es, ps, tm, ev⟩ n ⟨kind, at_, xl, xc, xb, xs, xh, xd, xw, xk, xm⟩).es,
        .l (Sp.doB ⟨rl.xs, rc.xs, pr, ex, lo, hi, rt.xs⟩ ⟨ls, km, si, ac, es, ps, tm, ev⟩ n ⟨kind, at_, xl, xc, xb, xs, xh, xd, xw, xk, xm⟩).ps])
  | _ => False
def FinD [InW] {t1 t2 t3 : List Ty} (K : Nat -> List Ed -> Prop) (rl : Ro t1) (rc : Ro t2) (pr ex lo hi : Int) (rt : Ro t3) (E : Int) (B : Sp.Bks) : Prop :=
  K 0 [.i E, .ro _ rl, .ro _ rc, .i pr, .i ex, .i lo, .i hi, .ro _ rt, .i B.tm, .i B.ev, .l B.ls, .l B.km, .l B.si, .l B.ac, .m B.es, .l B.ps]
namespace Sp
theorem do_late {s : Sch} {b : Bks} {n : Int} {x : Evt} (hk : inr x.kind 0 6 = true) (ha : (!inr x.at_ b.tm 4800) = true) : doE s b n x = 7 /\ doB s b n x = b := by
  unfold doE doB;rw [hk, if_pos ha, if_pos ha];exact ⟨rfl, rfl⟩
theorem do_bad {s : Sch} {b : Bks} {n : Int} {x : Evt} (hk : inr x.kind 0 6 = true) (ha : (!inr x.at_ b.tm 4800) = false) {E : Int} (he : err s b x = E) (h0 : E ≠ 0) : doE s b n x = E /\ doB s b n x = { b with ev := n } := by
  unfold doE doB;rw [hk, ha, he, if_neg h0];exact ⟨rfl, rfl⟩
theorem do_good {s : Sch} {b : Bks} {n : Int} {x : Evt} (hk : inr x.kind 0 6 = true) (ha : (!inr x.at_ b.tm 4800) = false) (he : err s b x = 0) : doE s b n x = 0 /\ doB s b n x = { eff s { b with ev := n } x with tm := x.at_ } := by
  unfold doE doB;rw [hk, ha, he, if_pos rfl];exact ⟨rfl, rfl⟩
theorem Inv.acS {s : Sch} {b : Bks} {n : Int} (h : Inv s b n) (j : Nat) : Small (cel b.ac j 0).int := by
  have := h.ac.2 j;have := h.nn;unfold Small;omega
theorem Inv.psL {s : Sch} {b : Bks} {n : Int} (h : Inv s b n) : (b.ps.length : Int) <= 1000 := by
  have := h.ps;have := h.nn;omega
theorem Inv.rlL {s : Sch} {b : Bks} {n : Int} (h : Inv s b n) : 1 <= s.rl.length /\ s.rl.length <= 8 /\ b.ac.length = s.rl.length + 4 := by
  have := h.sch.learners;have := h.ac.1;omega
theorem canE_in (rl rc : Dt) (lo hi : Int) (ls : Dt) (es : List (Int × Int)) (at_ l c s h : Int) : canE rl rc lo hi ls es at_ l c s h = 0 \/ canE rl rc lo hi ls es at_ l c s h = 4 \/ canE rl rc lo hi ls es at_ l c s h = 7 \/ canE rl rc lo hi ls es at_ l c s h = 2 \/ canE rl rc lo hi ls es at_ l c s h = 9 \/ canE rl rc lo hi ls es at_ l c s h = 5 := by
  unfold canE
  repeat' split
  all_goals simp
theorem inr_iff {n lo hi : Int} : inr n lo hi = true ↔ lo <= n /\ n <= hi := by simp [inr]
theorem inr_not {n lo hi : Int} : inr n lo hi = false ↔ ¬ (lo <= n /\ n <= hi) := by rw [<- inr_iff]; simp
end Sp
theorem do_hk [InW] {K : Nat -> List Ed -> Prop} {rl : Ro [.str]} {rc : Ro Ivs} {pr ex lo hi : Int} {rt : Ro [.int .i64, .int .i64]} {b : Sp.Bks} {n : Int} {x : Sp.Evt} (hkd : Sp.inr x.kind 0 6 = true)
    (hk : FinD K rl rc pr ex lo hi rt (Sp.doE ⟨rl.xs, rc.xs, pr, ex, lo, hi, rt.xs⟩ b n x) (Sp.doB ⟨rl.xs, rc.xs, pr, ex, lo, hi, rt.xs⟩ b n x)) :
    ((!Sp.inr x.at_ b.tm 4800) = true -> FinD K rl rc pr ex lo hi rt 7 b) /\
    ((!Sp.inr x.at_ b.tm 4800) = false -> ∀ E, E ≠ 0 -> Sp.err ⟨rl.xs, rc.xs, pr, ex, lo, hi, rt.xs⟩ b x = E -> FinD K rl rc pr ex lo hi rt E { b with ev := n }) /\
    ((!Sp.inr x.at_ b.tm 4800) = false -> Sp.err ⟨rl.xs, rc.xs, pr, ex, lo, hi, rt.xs⟩ b x = 0 -> FinD K rl rc pr ex lo hi rt 0 { Sp.eff ⟨rl.xs, rc.xs, pr, ex, lo, hi, rt.xs⟩ { b with ev := n } x with tm := x.at_ }) := by
  refine ⟨fun h => ?_, fun h E h0 he => ?_, fun h he => ?_⟩
  · obtain ⟨a, c⟩ := Sp.do_late (s := ⟨rl.xs, rc.xs, pr, ex, lo, hi, rt.xs⟩) (n := n) hkd h;rwa [a, c] at hk
  · obtain ⟨a, c⟩ := Sp.do_bad (s := ⟨rl.xs, rc.xs, pr, ex, lo, hi, rt.xs⟩) (n := n) hkd h he h0;rwa [a, c] at hk
  · obtain ⟨a, c⟩ := Sp.do_good (s := ⟨rl.xs, rc.xs, pr, ex, lo, hi, rt.xs⟩) (n := n) hkd h he;rwa [a, c] at hk
def sp_do0 [InW] : List Ed -> (Nat -> List Ed -> Prop) -> Prop := sp_doK 0
noncomputable def cc_do0 : CC where
  g := 68
  args := [(.ptr 1 0), .int .i64, .agg [(.lit (.int .i64 0)), .int .i64, .int .i64, .int .i64, .int .i64, .int .i64, .int .i64, .int .i64, .int .i64, .int .i64, .int .i64]]
  H := [(1, .blk 95 [.rs [.str], .rs Ivs, .int .i64, .int .i64, .int .i64, .int .i64, .rs [.int .i64, .int .i64], (.row 4), (.row 7), (.row 10), (.row 13), (.mp 16), (.row 19), .int .i64, .int .i64]), (4, .arr 63 Iv5), (7, .arr 3 [.int .i64]), (10, .arr 3 [.int .i64]), (13, .arr 3 [.int .i64]), (16, .mpI), (19, .arr 61 Iv4)]
  outs := [⟨false, .int .i64, [(1, .blk 95 [.rs [.str], .rs Ivs, .int .i64, .int .i64, .int .i64, .int .i64, .rs [.int .i64, .int .i64], (.row 63), (.row 7), (.row 10), (.row 13), (.mp 16), (.row 66), .int .i64, .int .i64]), (63, .arr 63 Iv5), (7, .arr 3 [.int .i64]), (10, .arr 3 [.int .i64]), (13, .arr 3 [.int .i64]), (16, .mpI), (66, .arr 61 Iv4)], false⟩]
  spec := sp_do0
def VCC_do0 [W : InW] (n at_ xl xc xb xs xh xd xw xk xm : Int) (rl : Ro [.str]) (rc : Ro Ivs) (pr ex lo hi : Int) (rt : Ro [.int .i64, .int .i64]) (tm ev : Int) (ls km si ac : Dt) (es : List (Int × Int)) (ps : Dt) (K : Nat -> List Ed -> Prop) : Prop :=
  Pre True (Vif (!!Sp.out (0 : Int) (6 : Int) [[Cl.i (0 : Int)]]) (K (0 : Nat) [.i (Int.ofNat (nat_lit 1 + (1 : Nat))), .ro _ rl, .ro _ rc, .i pr, .i ex, .i lo, .i hi, .ro _ rt, .i tm, .i ev, .l ls, .l km, .l si, .l ac, .m es, .l ps]) (Pre True (Vif (!!Sp.out tm (4800 : Int) [[Cl.i at_]]) (K (0 : Nat) [.i (Int.ofNat (nat_lit 6 + (1 : Nat))), .ro _ rl, .ro _ rc, .i pr, .i ex, .i lo, .i hi, .ro _ rt, .i tm, .i ev, .l ls, .l km, .l si, .l ac, .m es, .l ps]) (Pre (Sp.CalmP ls) (Vif (decide (Sp.canE rl.xs rc.xs lo hi ls es at_ xl xc xs xh = (0 : Int))) (Need (decide ((ls.length + [[Cl.i xl, Cl.i xc, Cl.i xs, Cl.i xh, Cl.i (0 : Int)]].length) * (40 : Nat) <= (140737488355328 : Nat))) (K (0 : Nat) [.i (0 : Int), .ro _ rl, .ro _ rc, .i pr, .i ex, .i lo, .i hi, .ro _ rt, .i at_, .i n, .l (ls ++ [[Cl.i xl, Cl.i xc, Cl.i xs, Cl.i xh, Cl.i (0 : Int)]]), .l km, .l si, .l ac, .m es, .l ps])) (Vif (decide (Sp.canE rl.xs rc.xs lo hi ls es at_ xl xc xs xh = (4 : Int))) (K (0 : Nat) [.i (Int.ofNat (nat_lit 3 + (1 : Nat))), .ro _ rl, .ro _ rc, .i pr, .i ex, .i lo, .i hi, .ro _ rt, .i tm, .i n, .l ls, .l km, .l si, .l ac, .m es, .l ps]) (Vif (decide (Sp.canE rl.xs rc.xs lo hi ls es at_ xl xc xs xh = (7 : Int))) (K (0 : Nat) [.i (Int.ofNat (nat_lit 6 + (1 : Nat))), .ro _ rl, .ro _ rc, .i pr, .i ex, .i lo, .i hi, .ro _ rt, .i tm, .i n, .l ls, .l km, .l si, .l ac, .m es, .l ps]) (Vif (decide (Sp.canE rl.xs rc.xs lo hi ls es at_ xl xc xs xh = (2 : Int))) (K (0 : Nat) [.i (Int.ofNat (nat_lit 1 + (1 : Nat))), .ro _ rl, .ro _ rc, .i pr, .i ex, .i lo, .i hi, .ro _ rt, .i tm, .i n, .l ls, .l km, .l si, .l ac, .m es, .l ps]) (Vif (decide (Sp.canE rl.xs rc.xs lo hi ls es at_ xl xc xs xh = (9 : Int))) (K (0 : Nat) [.i (Int.ofNat (nat_lit 8 + (1 : Nat))), .ro _ rl, .ro _ rc, .i pr, .i ex, .i lo, .i hi, .ro _ rt, .i tm, .i n, .l ls, .l km, .l si, .l ac, .m es, .l ps]) (K (0 : Nat) [.i (Int.ofNat (nat_lit 4 + (1 : Nat))), .ro _ rl, .ro _ rc, .i pr, .i ex, .i lo, .i hi, .ro _ rt, .i tm, .i n, .l ls, .l km, .l si, .l ac, .m es, .l ps]))))))))))
theorem vcc_do0 (W : InW) (n at_ xl xc xb xs xh xd xw xk xm rl rc pr ex lo hi rt tm ev ls km si ac es ps K) : coreK (cxT Try.prog TT TP4 1000 50) 1000 68 [.ptr 1 0, .si .i64 n, .agg [.v (.int .i64 0), .si .i64 at_, .si .i64 xl, .si .i64 xc, .si .i64 xb, .si .i64 xs, .si .i64 xh, .si .i64 xd, .si .i64 xw, .si .i64 xk, .si .i64 xm]] [(1, .blk 95 [.rs _ rl, .rs _ rc, .si .i64 pr, .si .i64 ex, .si .i64 lo, .si .i64 hi, .rs _ rt, .rw 4, .rw 7, .rw 10, .rw 13, .mp 16, .rw 19, .si .i64 tm, .si .i64 ev]), (4, .arr 63 Iv5 ls), (7, .arr 3 [.int .i64] km), (10, .arr 3 [.int .i64] si), (13, .arr 3 [.int .i64] ac), (16, .obj (.mpI es)), (19, .arr 61 Iv4 ps)] (fun v h => outC cc_do0.H [.ro _ rl, .ro _ rc, .i pr, .i ex, .i lo, .i hi, .ro _ rt, .i tm, .i ev, .l ls, .l km, .l si, .l ac, .m es, .l ps] cc_do0.outs 0 false v h K) (fun v h => outC cc_do0.H [.ro _ rl, .ro _ rc, .i pr, .i ex, .i lo, .i hi, .ro _ rt, .i tm, .i ev, .l ls, .l km, .l si, .l ac, .m es, .l ps] cc_do0.outs 0 true v h K) = VCC_do0 n at_ xl xc xb xs xh xd xw xk xm rl rc pr ex lo hi rt tm ev ls km si ac es ps K := by kernel_rfl
theorem okc_do0 (hyp_ : ∀ (W : InW) (n : Int) (at_ : Int) (xl : Int) (xc : Int) (xb : Int) (xs : Int) (xh : Int) (xd : Int) (xw : Int) (xk : Int) (xm : Int) (rl : Ro [.str]) (rc : Ro Ivs) (pr : Int) (ex : Int) (lo : Int) (hi : Int) (rt : Ro [.int .i64, .int .i64]) (tm : Int) (ev : Int) (ls : Dt) (km : Dt) (si : Dt) (ac : Dt) (es : List (Int × Int)) (ps : Dt) (K : Nat -> List Ed -> Prop), sp_do0 [.i n, .i at_, .i xl, .i xc, .i xb, .i xs, .i xh, .i xd, .i xw, .i xk, .i xm, .ro _ rl, .ro _ rc, .i pr, .i ex, .i lo, .i hi, .ro _ rt, .i tm, .i ev, .l ls, .l km, .l si, .l ac, .m es, .l ps] K -> VCC_do0 n at_ xl xc xb xs xh xd xw xk xm rl rc pr ex lo hi rt tm ev ls km si ac es ps K) : ∀ W : InW, @CallC W Try.prog cc_do0 :=
  CC.okOf (fun W => @TT W) (fun W => @TT_ok W) mixed_ok TP4 1000 50 cc_do0 fun W n at_ xl xc xb xs xh xd xw xk xm rl rc pr ex lo hi rt tm ev ls km si ac es ps K hs => (vcc_do0 W n at_ xl xc xb xs xh xd xw xk xm rl rc pr ex lo hi rt tm ev ls km si ac es ps K).mpr (hyp_ W n at_ xl xc xb xs xh xd xw xk xm rl rc pr ex lo hi rt tm ev ls km si ac es ps K hs)
theorem okdo0 : ∀ W : InW, @CallC W Try.prog cc_do0 := okc_do0 fun W n at_ xl xc xb xs xh xd xw xk xm rl rc pr ex lo hi rt tm ev ls km si ac es ps K hs => by
  obtain ⟨hI, hk⟩ := hs;obtain ⟨late, bad, good⟩ := do_hk (b := ⟨ls, km, si, ac, es, ps, tm, ev⟩) (n := n) (x := ⟨0, at_, xl, xc, xb, xs, xh, xd, xw, xk, xm⟩) (show Sp.inr 0 0 6 = true by decide) hk;clear hk;unfold VCC_do0;simp only [out1, Bool.not_not];refine ⟨trivial, vif (fun e => absurd e (by decide)) fun _ => ⟨trivial, vif late fun h1 => ⟨hI.calm, ?_⟩⟩⟩
  replace bad := bad h1
  replace good := good h1
  simp only [Sp.err, if_true] at bad good;refine vifd (fun e => nedd ?_ (good e)) fun e => vifd (fun e2 => bad 4 (by decide) e2) fun e2 => vifd (fun e3 => bad 7 (by decide) e3) fun e3 => vifd (fun e4 => bad 2 (by decide) e4) fun e4 => vifd (fun e5 => bad 9 (by decide) e5) fun e5 => bad 5 (by decide) ?_
  · have := hI.many;have := hI.nn;simp only [List.length_cons, List.length_nil] at *;omega
  · exact (Sp.canE_in rl.xs rc.xs lo hi ls es at_ xl xc xs xh).resolve_left e |>.resolve_left e2 |>.resolve_left e3 |>.resolve_left e4 |>.resolve_left e5
def sp_do4 [InW] : List Ed -> (Nat -> List Ed -> Prop) -> Prop := sp_doK 4
noncomputable def cc_do4 : CC where
  g := 68
  args := [(.ptr 1 0), .int .i64, .agg [(.lit (.int .i64 4)), .int .i64, .int .i64, .int .i64, .int .i64, .int .i64, .int .i64, .int .i64, .int .i64, .int .i64, .int .i64]]
  H := [(1, .blk 95 [.rs [.str], .rs Ivs, .int .i64, .int .i64, .int .i64, .int .i64, .rs [.int .i64, .int .i64], (.row 4), (.row 7), (.row 10), (.row 13), (.mp 16), (.row 19), .int .i64, .int .i64]), (4, .arr 63 Iv5), (7, .arr 3 [.int .i64]), (10, .arr 3 [.int .i64]), (13, .arr 3 [.int .i64]), (16, .mpI), (19, .arr 61 Iv4)]
  outs := [⟨false, .int .i64, [(1, .blk 95 [.rs [.str], .rs Ivs, .int .i64, .int .i64, .int .i64, .int .i64, .rs [.int .i64, .int .i64], (.row 63), (.row 7), (.row 10), (.row 13), (.mp 16), (.row 66), .int .i64, .int .i64]), (63, .arr 63 Iv5), (7, .arr 3 [.int .i64]), (10, .arr 3 [.int .i64]), (13, .arr 3 [.int .i64]), (16, .mpI), (66, .arr 61 Iv4)], false⟩]
  spec := sp_do4
def VCC_do4 [W : InW] (n at_ xl xc xb xs xh xd xw xk xm : Int) (rl : Ro [.str]) (rc : Ro Ivs) (pr ex lo hi : Int) (rt : Ro [.int .i64, .int .i64]) (tm ev : Int) (ls km si ac : Dt) (es : List (Int × Int)) (ps : Dt) (K : Nat -> List Ed -> Prop) : Prop :=
  Pre True (Vif (!!Sp.out (0 : Int) (6 : Int) [[Cl.i (4 : Int)]]) (K (0 : Nat) [.i (Int.ofNat (nat_lit 1 + (1 : Nat))), .ro _ rl, .ro _ rc, .i pr, .i ex, .i lo, .i hi, .ro _ rt, .i tm, .i ev, .l ls, .l km, .l si, .l ac, .m es, .l ps]) (Pre True (Vif (!!Sp.out tm (4800 : Int) [[Cl.i at_]]) (K (0 : Nat) [.i (Int.ofNat (nat_lit 6 + (1 : Nat))), .ro _ rl, .ro _ rc, .i pr, .i ex, .i lo, .i hi, .ro _ rt, .i tm, .i ev, .l ls, .l km, .l si, .l ac, .m es, .l ps]) (Ar .i64 ((↑(rc.xs.length) : Int) - (1 : Int)) fun z => Pre True (Vif (!!Sp.out (0 : Int) z [[Cl.i xc]]) (K (0 : Nat) [.i (Int.ofNat (nat_lit 3 + (1 : Nat))), .ro _ rl, .ro _ rc, .i pr, .i ex, .i lo, .i hi, .ro _ rt, .i tm, .i n, .l ls, .l km, .l si, .l ac, .m es, .l ps]) (Pre True (Vif (!!Sp.out (0 : Int) (10000000 : Int) [[Cl.i xm]]) (K (0 : Nat) [.i (Int.ofNat (nat_lit 6 + (1 : Nat))), .ro _ rl, .ro _ rc, .i pr, .i ex, .i lo, .i hi, .ro _ rt, .i tm, .i n, .l ls, .l km, .l si, .l ac, .m es, .l ps]) (Need (decide ((0 : Int) <= xc) && decide (xc < (↑(si.length) : Int))) (Need (decide (xc.toNat < si.length)) (Pre ((↑(rl.xs.length) : Int) <= (1000 : Int)) (Pre ((↑(rl.xs.length) : Int) <= (1000 : Int)) (Pre ((0 : Int) <= (↑(rl.xs.length) : Int) /\ (↑(rl.xs.length) : Int) < (↑(ac.length) : Int) /\ (0 : Int) <= (↑(rl.xs.length) : Int) + (1 : Int) /\ (↑(rl.xs.length) : Int) + (1 : Int) < (↑(ac.length) : Int) /\ Sp.Small xm /\ (∀ (j : Nat), Sp.Small (cel ac j (0 : Nat)).int) /\ (↑(ps.length) : Int) <= (1000 : Int)) (K (0 : Nat) [.i (0 : Int), .ro _ rl, .ro _ rc, .i pr, .i ex, .i lo, .i hi, .ro _ rt, .i at_, .i n, .l ls, .l km, .l (List.set si xc.toNat [Cl.i (0 : Int)]), .l (Sp.postA ac (↑(rl.xs.length) : Int) ((↑(rl.xs.length) : Int) + (1 : Int)) xm), .m es, .l (Sp.postP ps n (↑(rl.xs.length) : Int) ((↑(rl.xs.length) : Int) + (1 : Int)) xm)])))))))))))))
theorem vcc_do4 (W : InW) (n at_ xl xc xb xs xh xd xw xk xm rl rc pr ex lo hi rt tm ev ls km si ac es ps K) : coreK (cxT Try.prog TT TP4 1000 50) 1000 68 [.ptr 1 0, .si .i64 n, .agg [.v (.int .i64 4), .si .i64 at_, .si .i64 xl, .si .i64 xc, .si .i64 xb, .si .i64 xs, .si .i64 xh, .si .i64 xd, .si .i64 xw, .si .i64 xk, .si .i64 xm]] [(1, .blk 95 [.rs _ rl, .rs _ rc, .si .i64 pr, .si .i64 ex, .si .i64 lo, .si .i64 hi, .rs _ rt, .rw 4, .rw 7, .rw 10, .rw 13, .mp 16, .rw 19, .si .i64 tm, .si .i64 ev]), (4, .arr 63 Iv5 ls), (7, .arr 3 [.int .i64] km), (10, .arr 3 [.int .i64] si), (13, .arr 3 [.int .i64] ac), (16, .obj (.mpI es)), (19, .arr 61 Iv4 ps)] (fun v h => outC cc_do4.H [.ro _ rl, .ro _ rc, .i pr, .i ex, .i lo, .i hi, .ro _ rt, .i tm, .i ev, .l ls, .l km, .l si, .l ac, .m es, .l ps] cc_do4.outs 0 false v h K) (fun v h => outC cc_do4.H [.ro _ rl, .ro _ rc, .i pr, .i ex, .i lo, .i hi, .ro _ rt, .i tm, .i ev, .l ls, .l km, .l si, .l ac, .m es, .l ps] cc_do4.outs 0 true v h K) = VCC_do4 n at_ xl xc xb xs xh xd xw xk xm rl rc pr ex lo hi rt tm ev ls km si ac es ps K := by kernel_rfl
theorem okc_do4 (hyp_ : ∀ (W : InW) (n : Int) (at_ : Int) (xl : Int) (xc : Int) (xb : Int) (xs : Int) (xh : Int) (xd : Int) (xw : Int) (xk : Int) (xm : Int) (rl : Ro [.str]) (rc : Ro Ivs) (pr : Int) (ex : Int) (lo : Int) (hi : Int) (rt : Ro [.int .i64, .int .i64]) (tm : Int) (ev : Int) (ls : Dt) (km : Dt) (si : Dt) (ac : Dt) (es : List (Int × Int)) (ps : Dt) (K : Nat -> List Ed -> Prop), sp_do4 [.i n, .i at_, .i xl, .i xc, .i xb, .i xs, .i xh, .i xd, .i xw, .i xk, .i xm, .ro _ rl, .ro _ rc, .i pr, .i ex, .i lo, .i hi, .ro _ rt, .i tm, .i ev, .l ls, .l km, .l si, .l ac, .m es, .l ps] K -> VCC_do4 n at_ xl xc xb xs xh xd xw xk xm rl rc pr ex lo hi rt tm ev ls km si ac es ps K) : ∀ W : InW, @CallC W Try.prog cc_do4 :=
  CC.okOf (fun W => @TT W) (fun W => @TT_ok W) mixed_ok TP4 1000 50 cc_do4 fun W n at_ xl xc xb xs xh xd xw xk xm rl rc pr ex lo hi rt tm ev ls km si ac es ps K hs => (vcc_do4 W n at_ xl xc xb xs xh xd xw xk xm rl rc pr ex lo hi rt tm ev ls km si ac es ps K).mpr (hyp_ W n at_ xl xc xb xs xh xd xw xk xm rl rc pr ex lo hi rt tm ev ls km si ac es ps K hs)
theorem okdo4 : ∀ W : InW, @CallC W Try.prog cc_do4 := okc_do4 fun W n at_ xl xc xb xs xh xd xw xk xm rl rc pr ex lo hi rt tm ev ls km si ac es ps K hs => by
  obtain ⟨hI, hk⟩ := hs;obtain ⟨late, bad, good⟩ := do_hk (b := ⟨ls, km, si, ac, es, ps, tm, ev⟩) (n := n) (x := ⟨4, at_, xl, xc, xb, xs, xh, xd, xw, xk, xm⟩) (show Sp.inr 4 0 6 = true by decide) hk;clear hk;unfold VCC_do4;simp only [out1, Bool.not_not];have hL := hI.rlL;have hC := hI.sch.cars;have hS := hI.si.1;simp only at hL hC hS;refine ⟨trivial, vif (fun e => absurd e (by decide)) fun _ => ⟨trivial, vif late fun h1 => ar64 (by omega) ⟨trivial, ?_⟩⟩⟩
  replace bad := bad h1
  replace good := good h1
  simp only [Sp.err] at bad good;refine vif (fun e => bad 4 (by decide) (by simp [e])) fun e => ⟨trivial, vif (fun e2 => bad 7 (by decide) (by simp [e, e2])) fun e2 => ?_⟩;have e' := e;have e2' := e2;rw [Bool.not_eq_false', Sp.inr_iff] at e' e2';refine ned (by simp; omega) (nedd (by omega) ⟨by omega, by omega, ⟨by omega, by omega, by omega, by omega, by unfold Sp.Small; omega, hI.acS, hI.psL⟩, good (by simp [e, e2])⟩)
def sp_do6 [InW] : List Ed -> (Nat -> List Ed -> Prop) -> Prop := sp_doK 6
noncomputable def cc_do6 : CC where
  g := 68
  args := [(.ptr 1 0), .int .i64, .agg [(.lit (.int .i64 6)), .int .i64, .int .i64, .int .i64, .int .i64, .int .i64, .int .i64, .int .i64, .int .i64, .int .i64, .int .i64]]
  H := [(1, .blk 95 [.rs [.str], .rs Ivs, .int .i64, .int .i64, .int .i64, .int .i64, .rs [.int .i64, .int .i64], (.row 4), (.row 7), (.row 10), (.row 13), (.mp 16), (.row 19), .int .i64, .int .i64]), (4, .arr 63 Iv5), (7, .arr 3 [.int .i64]), (10, .arr 3 [.int .i64]), (13, .arr 3 [.int .i64]), (16, .mpI), (19, .arr 61 Iv4)]
  outs := [⟨false, .int .i64, [(1, .blk 95 [.rs [.str], .rs Ivs, .int .i64, .int .i64, .int .i64, .int .i64, .rs [.int .i64, .int .i64], (.row 63), (.row 7), (.row 10), (.row 13), (.mp 16), (.row 66), .int .i64, .int .i64]), (63, .arr 63 Iv5), (7, .arr 3 [.int .i64]), (10, .arr 3 [.int .i64]), (13, .arr 3 [.int .i64]), (16, .mpI), (66, .arr 61 Iv4)], false⟩]
  spec := sp_do6
def VCC_do6 [W : InW] (n at_ xl xc xb xs xh xd xw xk xm : Int) (rl : Ro [.str]) (rc : Ro Ivs) (pr ex lo hi : Int) (rt : Ro [.int .i64, .int .i64]) (tm ev : Int) (ls km si ac : Dt) (es : List (Int × Int)) (ps : Dt) (K : Nat -> List Ed -> Prop) : Prop :=
  Pre True (Vif (!!Sp.out (0 : Int) (6 : Int) [[Cl.i (6 : Int)]]) (K (0 : Nat) [.i (Int.ofNat (nat_lit 1 + (1 : Nat))), .ro _ rl, .ro _ rc, .i pr, .i ex, .i lo, .i hi, .ro _ rt, .i tm, .i ev, .l ls, .l km, .l si, .l ac, .m es, .l ps]) (Pre True (Vif (!!Sp.out tm (4800 : Int) [[Cl.i at_]]) (K (0 : Nat) [.i (Int.ofNat (nat_lit 6 + (1 : Nat))), .ro _ rl, .ro _ rc, .i pr, .i ex, .i lo, .i hi, .ro _ rt, .i tm, .i ev, .l ls, .l km, .l si, .l ac, .m es, .l ps]) (Ar .i64 ((↑(rl.xs.length) : Int) - (1 : Int)) fun z => Pre True (Vif (!!Sp.out (0 : Int) z [[Cl.i xl]]) (K (0 : Nat) [.i (Int.ofNat (nat_lit 3 + (1 : Nat))), .ro _ rl, .ro _ rc, .i pr, .i ex, .i lo, .i hi, .ro _ rt, .i tm, .i n, .l ls, .l km, .l si, .l ac, .m es, .l ps]) (Pre True (Vif (!!Sp.out (0 : Int) (10000000 : Int) [[Cl.i xm]]) (K (0 : Nat) [.i (Int.ofNat (nat_lit 6 + (1 : Nat))), .ro _ rl, .ro _ rc, .i pr, .i ex, .i lo, .i hi, .ro _ rt, .i tm, .i n, .l ls, .l km, .l si, .l ac, .m es, .l ps]) (Pre ((↑(rl.xs.length) : Int) <= (1000 : Int)) (Pre ((0 : Int) <= (↑(rl.xs.length) : Int) + (3 : Int) /\ (↑(rl.xs.length) : Int) + (3 : Int) < (↑(ac.length) : Int) /\ (0 : Int) <= xl /\ xl < (↑(ac.length) : Int) /\ Sp.Small xm /\ (∀ (j : Nat), Sp.Small (cel ac j (0 : Nat)).int) /\ (↑(ps.length) : Int) <= (1000 : Int)) (K (0 : Nat) [.i (0 : Int), .ro _ rl, .ro _ rc, .i pr, .i ex, .i lo, .i hi, .ro _ rt, .i at_, .i n, .l ls, .l km, .l si, .l (Sp.postA ac ((↑(rl.xs.length) : Int) + (3 : Int)) xl xm), .m es, .l (Sp.postP ps n ((↑(rl.xs.length) : Int) + (3 : Int)) xl xm)]))))))))))
theorem vcc_do6 (W : InW) (n at_ xl xc xb xs xh xd xw xk xm rl rc pr ex lo hi rt tm ev ls km si ac es ps K) : coreK (cxT Try.prog TT TP4 1000 50) 1000 68 [.ptr 1 0, .si .i64 n, .agg [.v (.int .i64 6), .si .i64 at_, .si .i64 xl, .si .i64 xc, .si .i64 xb, .si .i64 xs, .si .i64 xh, .si .i64 xd, .si .i64 xw, .si .i64 xk, .si .i64 xm]] [(1, .blk 95 [.rs _ rl, .rs _ rc, .si .i64 pr, .si .i64 ex, .si .i64 lo, .si .i64 hi, .rs _ rt, .rw 4, .rw 7, .rw 10, .rw 13, .mp 16, .rw 19, .si .i64 tm, .si .i64 ev]), (4, .arr 63 Iv5 ls), (7, .arr 3 [.int .i64] km), (10, .arr 3 [.int .i64] si), (13, .arr 3 [.int .i64] ac), (16, .obj (.mpI es)), (19, .arr 61 Iv4 ps)] (fun v h => outC cc_do6.H [.ro _ rl, .ro _ rc, .i pr, .i ex, .i lo, .i hi, .ro _ rt, .i tm, .i ev, .l ls, .l km, .l si, .l ac, .m es, .l ps] cc_do6.outs 0 false v h K) (fun v h => outC cc_do6.H [.ro _ rl, .ro _ rc, .i pr, .i ex, .i lo, .i hi, .ro _ rt, .i tm, .i ev, .l ls, .l km, .l si, .l ac, .m es, .l ps] cc_do6.outs 0 true v h K) = VCC_do6 n at_ xl xc xb xs xh xd xw xk xm rl rc pr ex lo hi rt tm ev ls km si ac es ps K := by kernel_rfl
theorem okc_do6 (hyp_ : ∀ (W : InW) (n : Int) (at_ : Int) (xl : Int) (xc : Int) (xb : Int) (xs : Int) (xh : Int) (xd : Int) (xw : Int) (xk : Int) (xm : Int) (rl : Ro [.str]) (rc : Ro Ivs) (pr : Int) (ex : Int) (lo : Int) (hi : Int) (rt : Ro [.int .i64, .int .i64]) (tm : Int) (ev : Int) (ls : Dt) (km : Dt) (si : Dt) (ac : Dt) (es : List (Int × Int)) (ps : Dt) (K : Nat -> List Ed -> Prop), sp_do6 [.i n, .i at_, .i xl, .i xc, .i xb, .i xs, .i xh, .i xd, .i xw, .i xk, .i xm, .ro _ rl, .ro _ rc, .i pr, .i ex, .i lo, .i hi, .ro _ rt, .i tm, .i ev, .l ls, .l km, .l si, .l ac, .m es, .l ps] K -> VCC_do6 n at_ xl xc xb xs xh xd xw xk xm rl rc pr ex lo hi rt tm ev ls km si ac es ps K) : ∀ W : InW, @CallC W Try.prog cc_do6 :=
  CC.okOf (fun W => @TT W) (fun W => @TT_ok W) mixed_ok TP4 1000 50 cc_do6 fun W n at_ xl xc xb xs xh xd xw xk xm rl rc pr ex lo hi rt tm ev ls km si ac es ps K hs => (vcc_do6 W n at_ xl xc xb xs xh xd xw xk xm rl rc pr ex lo hi rt tm ev ls km si ac es ps K).mpr (hyp_ W n at_ xl xc xb xs xh xd xw xk xm rl rc pr ex lo hi rt tm ev ls km si ac es ps K hs)
theorem okdo6 : ∀ W : InW, @CallC W Try.prog cc_do6 := okc_do6 fun W n at_ xl xc xb xs xh xd xw xk xm rl rc pr ex lo hi rt tm ev ls km si ac es ps K hs => by
  obtain ⟨hI, hk⟩ := hs;obtain ⟨late, bad, good⟩ := do_hk (b := ⟨ls, km, si, ac, es, ps, tm, ev⟩) (n := n) (x := ⟨6, at_, xl, xc, xb, xs, xh, xd, xw, xk, xm⟩) (show Sp.inr 6 0 6 = true by decide) hk;clear hk;unfold VCC_do6;simp only [out1, Bool.not_not];have hL := hI.rlL;simp only at hL;refine ⟨trivial, vif (fun e => absurd e (by decide)) fun _ => ⟨trivial, vif late fun h1 => ar64 (by omega) ⟨trivial, ?_⟩⟩⟩
  replace bad := bad h1
  replace good := good h1
  simp only [Sp.err] at bad good;refine vif (fun e => bad 4 (by decide) (by simp [e])) fun e => ⟨trivial, vif (fun e2 => bad 7 (by decide) (by simp [e, e2])) fun e2 => ?_⟩;have e' := e;have e2' := e2;rw [Bool.not_eq_false', Sp.inr_iff] at e' e2';refine ⟨by omega, ⟨by omega, by omega, by omega, by omega, by unfold Sp.Small; omega, hI.acS, hI.psL⟩, good (by simp [e, e2])⟩
open Go.RowKit
set_option maxRecDepth 100000
namespace Sp
theorem eff1 {s : Sch} {b : Bks} {x : Evt} (h : x.kind = 1) : eff s b x = { b with ls := setSt b.ls x.b 1 }.post (cel b.ls x.b.toNat 0).int (school s) (fee s.rt s.pr (cel b.ls x.b.toNat 3).int ((cel b.ls x.b.toNat 2).int - x.at_)) := by simp [eff, h]
theorem eff3 {s : Sch} {b : Bks} {x : Evt} (h : x.kind = 3) : eff s b x = { b with ls := setSt b.ls x.b 2, km := addA b.km (cel b.ls x.b.toNat 1).int x.k, si := addA b.si (cel b.ls x.b.toNat 1).int x.k }.post (cel b.ls x.b.toNat 0).int (school s) ((cel b.ls x.b.toNat 3).int * s.pr) := by simp [eff, h]
theorem eff5 {s : Sch} {b : Bks} {x : Evt} (h : x.kind = 5) : eff s b x = ({ b with ls := setSt b.ls x.b 3 }.post (school s) (school s + 1) (min x.m s.ex)).post (school s + 2) (school s + 1) (x.m - min x.m s.ex) := by simp [eff, h]
theorem err1 {s : Sch} {b : Bks} {x : Evt} (h : x.kind = 1) : err s b x = (if !hasB b.ls x.b 0 then 4 else if x.at_ < (cel b.ls x.b.toNat 2).int then 0 else 2) := by simp [err, h]
theorem err3 {s : Sch} {b : Bks} {x : Evt} (h : x.kind = 3) : err s b x = (if !hasB b.ls x.b 0 then 4 else if x.at_ < (cel b.ls x.b.toNat 2).int + (cel b.ls x.b.toNat 3).int then 2 else if !inr x.k 0 400 then 7
    else if (cel s.rc (cel b.ls x.b.toNat 1).int.toNat 2).int < (cel b.si (cel b.ls x.b.toNat 1).int.toNat 0).int then 9 else 0) := by simp [err, h]
theorem err5 {s : Sch} {b : Bks} {x : Evt} (h : x.kind = 5) : err s b x = (if !hasB b.ls x.b 2 then 4 else if !inr x.m 0 10000000 then 7 else 0) := by simp [err, h]
theorem fee_in {rt : Dt} {pr hours : Int} (hf : FeesOk rt) (hh : 1 <= hours /\ hours <= 4) (hp : 1 <= pr /\ pr <= 10000) (b : Int) : 0 <= fee rt pr hours b /\ fee rt pr hours b <= 40000 := by
  have hx : 0 <= hours * pr := Int.mul_nonneg (by omega) (by omega);have hx2 : hours * pr <= 4 * 10000 := Int.mul_le_mul hh.2 hp.2 (by omega) (by omega);have h2 := part_in (b := b) rt.length 1000 (Nat.le_refl _) hf (by decide) (by decide);have m2 : hours * pr * part rt b rt.length 1000 <= hours * pr * 1000 := Int.mul_le_mul_of_nonneg_left h2.2 hx;have m3 : 0 <= hours * pr * part rt b rt.length 1000 := Int.mul_nonneg hx h2.1;unfold fee;generalize part rt b rt.length 1000 = u at *;generalize hours * pr = x at *;generalize x * u = xu at *;rw [Int.tdiv_eq_ediv_of_nonneg (by omega)];omega
theorem addA_len (a : Dt) (i c : Int) : (addA a i c).length = a.length := by simp [addA]
theorem postA_len (a : Dt) (i j c : Int) : (postA a i j c).length = a.length := by
  unfold postA
  split <;> simp [addA_len]
theorem addA_bd {a : Dt} {m d : Int} (h : ∀ j, -m <= (cel a j 0).int /\ (cel a j 0).int <= m) {c : Int} (hc : -d <= c /\ c <= d) (i : Int) (j : Nat) : -(m + d) <= (cel (addA a i c) j 0).int /\ (cel (addA a i c) j 0).int <= m + d := by
  unfold addA;rw [cel_set];have h1 := h j;have h2 := h i.toNat
  split
  · simp [Cl.int];simp [Cl.int] at h2;omega
  · omega
theorem postA_bd {a : Dt} {m d : Int} (h : ∀ j, -m <= (cel a j 0).int /\ (cel a j 0).int <= m) {c : Int} (hc : -d <= c /\ c <= d) (i k : Int) (j : Nat) : -(m + 2 * d) <= (cel (postA a i k c) j 0).int /\ (cel (postA a i k c) j 0).int <= m + 2 * d := by
  unfold postA
  split
  · have := h j;omega
  · have := addA_bd (addA_bd h (c := -c) (d := d) (by omega) i) hc k j;omega
theorem postP_len (ps : Dt) (ev i j c : Int) : (postP ps ev i j c).length <= ps.length + 1 := by
  unfold postP
  split <;> simp
theorem setCls_get (l : List Cl) (cs : List Cl) : ∀ (n k : Nat), k < n -> (setCls l n cs).getD k .z = l.getD k .z := by
  intro n
  induction n generalizing l with
  | zero => intro k hk; omega
  | succ n ih =>
    intro k hk;cases k with
    | zero => cases l <;> simp [setCls]
    | succ k =>
      have := ih l.tail k (by omega);cases l <;> simpa [setCls] using this
theorem row_of {ls : Dt} {i : Nat} (h : i < ls.length) : ∃ r, ls[i]? = some r /\ ls.getD i [] = r /\ ∀ v k, k < 4 -> cel (ls.set i (setCls r 4 [v])) i k = cel ls i k := by
  refine ⟨ls[i], List.getElem?_eq_getElem h, by simp [List.getD_eq_getElem?_getD, h], fun v k hk => ?_⟩;rw [cel_set, if_pos ⟨rfl, h⟩, setCls_get _ _ _ _ hk];simp [cel, List.getD_eq_getElem?_getD, h]
end Sp
def sp_do5 [InW] : List Ed -> (Nat -> List Ed -> Prop) -> Prop := sp_doK 5
noncomputable def cc_do5 : CC where
  g := 68
  args := [(.ptr 1 0), .int .i64, .agg [(.lit (.int .i64 5)), .int .i64, .int .i64, .int .i64, .int .i64, .int .i64, .int .i64, .int .i64, .int .i64, .int .i64, .int .i64]]
  H := [(1, .blk 95 [.rs [.str], .rs Ivs, .int .i64, .int .i64, .int .i64, .int .i64, .rs [.int .i64, .int .i64], (.row 4), (.row 7), (.row 10), (.row 13), (.mp 16), (.row 19), .int .i64, .int .i64]), (4, .arr 63 Iv5), (7, .arr 3 [.int .i64]), (10, .arr 3 [.int .i64]), (13, .arr 3 [.int .i64]), (16, .mpI), (19, .arr 61 Iv4)]
  outs := [⟨false, .int .i64, [(1, .blk 95 [.rs [.str], .rs Ivs, .int .i64, .int .i64, .int .i64, .int .i64, .rs [.int .i64, .int .i64], (.row 63), (.row 7), (.row 10), (.row 13), (.mp 16), (.row 66), .int .i64, .int .i64]), (63, .arr 63 Iv5), (7, .arr 3 [.int .i64]), (10, .arr 3 [.int .i64]), (13, .arr 3 [.int .i64]), (16, .mpI), (66, .arr 61 Iv4)], false⟩]
  spec := sp_do5
def VCC_do5 [W : InW] (n at_ xl xc xb xs xh xd xw xk xm : Int) (rl : Ro [.str]) (rc : Ro [.str, .int .i64, .int .i64, .int .i64]) (pr ex lo hi : Int) (rt : Ro [.int .i64, .int .i64]) (tm ev : Int) (ls km si ac : Dt) (es : List (Int × Int)) (ps : Dt) (K : Nat -> List Ed -> Prop) : Prop :=
  Pre True (Vif (!!Sp.out (0 : Int) (6 : Int) [[Cl.i (5 : Int)]]) (K (0 : Nat) [Ed.i (Int.ofNat (nat_lit 1 + (1 : Nat))), Ed.ro _ rl, Ed.ro _ rc, Ed.i pr, Ed.i ex, Ed.i lo, Ed.i hi, Ed.ro _ rt, Ed.i tm, Ed.i ev, Ed.l ls, Ed.l km, Ed.l si, Ed.l ac, Ed.m es, Ed.l ps]) (Pre True (Vif (!!Sp.out tm (4800 : Int) [[Cl.i at_]]) (K (0 : Nat) [Ed.i (Int.ofNat (nat_lit 6 + (1 : Nat))), Ed.ro _ rl, Ed.ro _ rc, Ed.i pr, Ed.i ex, Ed.i lo, Ed.i hi, Ed.ro _ rt, Ed.i tm, Ed.i ev, Ed.l ls, Ed.l km, Ed.l si, Ed.l ac, Ed.m es, Ed.l ps]) (Ar .i64 ((↑(ls.length) : Int) - (1 : Int)) fun z => Pre True (Vif (!Sp.out (0 : Int) z [[Cl.i xb]]) (Need (decide ((0 : Int) <= xb) && decide (xb < (↑(ls.length) : Int))) (Need (decide (xb.toNat < ls.length)) (Vif (!decide ((cel ls xb.toNat (nat_lit 3 + (1 : Nat))).int = (2 : Int))) (K (0 : Nat) [Ed.i (Int.ofNat (nat_lit 3 + (1 : Nat))), Ed.ro _ rl, Ed.ro _ rc, Ed.i pr, Ed.i ex, Ed.i lo, Ed.i hi, Ed.ro _ rt, Ed.i tm, Ed.i n, Ed.l ls, Ed.l km, Ed.l si, Ed.l ac, Ed.m es, Ed.l ps]) (Need (decide ((0 : Int) <= xb) && decide (xb < (↑(ls.length) : Int))) (Pre True (Vif (!!Sp.out (0 : Int) (10000000 : Int) [[Cl.i xm]]) (K (0 : Nat) [Ed.i (Int.ofNat (nat_lit 6 + (1 : Nat))), Ed.ro _ rl, Ed.ro _ rc, Ed.i pr, Ed.i ex, Ed.i lo, Ed.i hi, Ed.ro _ rt, Ed.i tm, Ed.i n, Ed.l ls, Ed.l km, Ed.l si, Ed.l ac, Ed.m es, Ed.l ps]) (Need (decide (xb.toNat < ls.length)) (Pre ((↑(rl.xs.length) : Int) <= (1000 : Int)) (Pre ((↑(rl.xs.length) : Int) <= (1000 : Int)) (Pre ((0 : Int) <= (↑(rl.xs.length) : Int) /\ (↑(rl.xs.length) : Int) < (↑(ac.length) : Int) /\ (0 : Int) <= (↑(rl.xs.length) : Int) + (1 : Int) /\ (↑(rl.xs.length) : Int) + (1 : Int) < (↑(ac.length) : Int) /\ Sp.Small (match false with | true => max xm ex | false => min xm ex) /\ (∀ (j : Nat), Sp.Small (cel ac j (0 : Nat)).int) /\ (↑(ps.length) : Int) <= (1000 : Int)) (Pre ((↑(rl.xs.length) : Int) <= (1000 : Int)) (Pre ((↑(rl.xs.length) : Int) <= (1000 : Int)) (Ar .i64 (xm - match false with | true => max xm ex | false => min xm ex) fun z => Pre ((0 : Int) <= (↑(rl.xs.length) : Int) + (2 : Int) /\ (↑(rl.xs.length) : Int) + (2 : Int) < (↑(List.length (Sp.postA ac (↑(rl.xs.length) : Int) ((↑(rl.xs.length) : Int) + (1 : Int)) (match false with | true => max xm ex | false => min xm ex))) : Int) /\ (0 : Int) <= (↑(rl.xs.length) : Int) + (1 : Int) /\ (↑(rl.xs.length) : Int) + (1 : Int) < (↑(List.length (Sp.postA ac (↑(rl.xs.length) : Int) ((↑(rl.xs.length) : Int) + (1 : Int)) (match false with | true => max xm ex | false => min xm ex))) : Int) /\ Sp.Small z /\ (∀ (j : Nat), Sp.Small (cel (Sp.postA ac (↑(List.length (rsK._proof_1 [Ty.str] [Ty.str] rfl ▸ rl).xs) : Int) ((↑(List.length (rsK._proof_1 [Ty.str] [Ty.str] rfl ▸ rl).xs) : Int) + (1 : Int)) (match false with | true => max xm ex | false => min xm ex)) j (0 : Nat)).int) /\ (↑(List.length (Sp.postP ps n (↑(rl.xs.length) : Int) ((↑(rl.xs.length) : Int) + (1 : Int)) (match false with | true => max xm ex | false => min xm ex))) : Int) <= (1000 : Int)) (K (0 : Nat) [Ed.i (0 : Int), Ed.ro _ rl, Ed.ro _ rc, Ed.i pr, Ed.i ex, Ed.i lo, Ed.i hi, Ed.ro _ rt, Ed.i at_, Ed.i n, Ed.l (List.set ls xb.toNat (setCls (match ls[xb.toNat]? with | some x => x | none => []) (nat_lit 3 + (1 : Nat)) [Cl.i (3 : Int)])), Ed.l km, Ed.l si, Ed.l (Sp.postA (Sp.postA ac (↑(rl.xs.length) : Int) ((↑(rl.xs.length) : Int) + (1 : Int)) (match false with | true => max xm ex | false => min xm ex)) ((↑(rl.xs.length) : Int) + (2 : Int)) ((↑(rl.xs.length) : Int) + (1 : Int)) z), Ed.m es, Ed.l (Sp.postP (Sp.postP ps n (↑(rl.xs.length) : Int) ((↑(rl.xs.length) : Int) + (1 : Int)) (match false with | true => max xm ex | false => min xm ex)) n ((↑(rl.xs.length) : Int) + (2 : Int)) ((↑(rl.xs.length) : Int) + (1 : Int)) z)])))))))))))))) (K (0 : Nat) [Ed.i (Int.ofNat (nat_lit 3 + (1 : Nat))), Ed.ro _ rl, Ed.ro _ rc, Ed.i pr, Ed.i ex, Ed.i lo, Ed.i hi, Ed.ro _ rt, Ed.i tm, Ed.i n, Ed.l ls, Ed.l km, Ed.l si, Ed.l ac, Ed.m es, Ed.l ps]))))))
theorem vcc_do5 (W : InW) (n at_ xl xc xb xs xh xd xw xk xm rl rc pr ex lo hi rt tm ev ls km si ac es ps K) : coreK (cxT Try.prog TT TP4 1000 50) 1000 68 [.ptr 1 0, .si .i64 n, .agg [.v (.int .i64 5), .si .i64 at_, .si .i64 xl, .si .i64 xc, .si .i64 xb, .si .i64 xs, .si .i64 xh, .si .i64 xd, .si .i64 xw, .si .i64 xk, .si .i64 xm]] [(1, .blk 95 [.rs _ rl, .rs _ rc, .si .i64 pr, .si .i64 ex, .si .i64 lo, .si .i64 hi, .rs _ rt, .rw 4, .rw 7, .rw 10, .rw 13, .mp 16, .rw 19, .si .i64 tm, .si .i64 ev]), (4, .arr 63 Iv5 ls), (7, .arr 3 [.int .i64] km), (10, .arr 3 [.int .i64] si), (13, .arr 3 [.int .i64] ac), (16, .obj (.mpI es)), (19, .arr 61 Iv4 ps)] (fun v h => outC cc_do5.H [.ro _ rl, .ro _ rc, .i pr, .i ex, .i lo, .i hi, .ro _ rt, .i tm, .i ev, .l ls, .l km, .l si, .l ac, .m es, .l ps] cc_do5.outs 0 false v h K) (fun v h => outC cc_do5.H [.ro _ rl, .ro _ rc, .i pr, .i ex, .i lo, .i hi, .ro _ rt, .i tm, .i ev, .l ls, .l km, .l si, .l ac, .m es, .l ps] cc_do5.outs 0 true v h K) = VCC_do5 n at_ xl xc xb xs xh xd xw xk xm rl rc pr ex lo hi rt tm ev ls km si ac es ps K := by kernel_rfl
theorem okc_do5 (hyp_ : ∀ (W : InW) (n : Int) (at_ : Int) (xl : Int) (xc : Int) (xb : Int) (xs : Int) (xh : Int) (xd : Int) (xw : Int) (xk : Int) (xm : Int) (rl : Ro [.str]) (rc : Ro Ivs) (pr : Int) (ex : Int) (lo : Int) (hi : Int) (rt : Ro [.int .i64, .int .i64]) (tm : Int) (ev : Int) (ls : Dt) (km : Dt) (si : Dt) (ac : Dt) (es : List (Int × Int)) (ps : Dt) (K : Nat -> List Ed -> Prop), sp_do5 [.i n, .i at_, .i xl, .i xc, .i xb, .i xs, .i xh, .i xd, .i xw, .i xk, .i xm, .ro _ rl, .ro _ rc, .i pr, .i ex, .i lo, .i hi, .ro _ rt, .i tm, .i ev, .l ls, .l km, .l si, .l ac, .m es, .l ps] K -> VCC_do5 n at_ xl xc xb xs xh xd xw xk xm rl rc pr ex lo hi rt tm ev ls km si ac es ps K) : ∀ W : InW, @CallC W Try.prog cc_do5 :=
  CC.okOf (fun W => @TT W) (fun W => @TT_ok W) mixed_ok TP4 1000 50 cc_do5 fun W n at_ xl xc xb xs xh xd xw xk xm rl rc pr ex lo hi rt tm ev ls km si ac es ps K hs => (vcc_do5 W n at_ xl xc xb xs xh xd xw xk xm rl rc pr ex lo hi rt tm ev ls km si ac es ps K).mpr (hyp_ W n at_ xl xc xb xs xh xd xw xk xm rl rc pr ex lo hi rt tm ev ls km si ac es ps K hs)
theorem okdo5 : ∀ W : InW, @CallC W Try.prog cc_do5 := okc_do5 fun W n at_ xl xc xb xs xh xd xw xk xm rl rc pr ex lo hi rt tm ev ls km si ac es ps K hs => by
  obtain ⟨hI, hk⟩ := hs;obtain ⟨late, bad, good⟩ := do_hk (b := ⟨ls, km, si, ac, es, ps, tm, ev⟩) (n := n) (x := ⟨5, at_, xl, xc, xb, xs, xh, xd, xw, xk, xm⟩) (show Sp.inr 5 0 6 = true by decide) hk;clear hk;have hL := hI.rlL;have hM := hI.many;have hN := hI.nn;simp only at hL hM;unfold VCC_do5;simp only [out1, Bool.not_not, Nat.zero_add, Nat.reduceAdd];refine ⟨trivial, vif (fun e => absurd e (by decide)) fun _ => ⟨trivial, vif late fun h1 => ar64 (by omega) ⟨trivial, ?_⟩⟩⟩
  replace bad := bad h1
  replace good := good h1
  rw [Sp.err5 rfl] at bad good;refine vif (fun e => ?_) fun e => bad 4 (by decide) (by simp [Sp.hasB, e]);have hx := Sp.inr_iff.1 e;have hi1 : xb.toNat < ls.length := by omega
  obtain ⟨r, hr, hg, hc⟩ := Sp.row_of hi1;have hc0 := fun v => hc v 0 (by decide);have hc1 := fun v => hc v 1 (by decide);have hc2 := fun v => hc v 2 (by decide);have hc3 := fun v => hc v 3 (by decide);have hl := hI.ls _ hi1;simp only at hl;simp only [hr, hc0, hc1, hc2, hc3, List.length_set];refine ned (by simp; omega) (nedd hi1 (vif (fun e2 => bad 4 (by decide) (by have f := (by simpa using e2 : ¬ _); simp [Sp.hasB, f])) fun e2 => ned (by simp; omega) ⟨trivial, vif (fun e3 => bad 7 (by decide) (by simp [Sp.hasB, e, e3]; simpa using e2)) fun e3 => nedd hi1 ?_⟩));have e3' := e3;rw [Bool.not_eq_false', Sp.inr_iff] at e3';have hE := hI.sch.excess;simp only at hE;have hmn : 0 <= min xm ex /\ min xm ex <= 10000000 := by omega
  have hac : ∀ j, -2400000000 <= (cel ac j 0).int /\ (cel ac j 0).int <= 2400000000 := fun j => by have := hI.ac.2 j; simp only at this; omega
  have ha := Sp.postA_bd hac (c := min xm ex) (d := 10000000) (by omega) rl.xs.length (rl.xs.length + 1);have hp := Sp.postP_len ps n rl.xs.length (rl.xs.length + 1) (min xm ex);have hps := hI.ps;simp only at hps;refine ⟨by omega, by omega, ⟨by omega, by omega, by omega, by omega, by show Sp.Small (min xm ex); unfold Sp.Small; omega, hI.acS, by omega⟩, by omega, by omega, ar64 (by show _ <= xm - min xm ex /\ xm - min xm ex <= _; omega) ⟨⟨by omega, ?_, by omega, ?_, ?_, ?_, ?_⟩, ?_⟩⟩
  · rw [Sp.postA_len]; omega
  · rw [Sp.postA_len]; omega
  · show Sp.Small (xm - min xm ex); unfold Sp.Small; omega
  · intro j; have := ha j; show Sp.Small (cel (Sp.postA ac rl.xs.length (rl.xs.length + 1) (min xm ex)) j 0).int; unfold Sp.Small; omega
  · show ((Sp.postP ps n rl.xs.length (rl.xs.length + 1) (min xm ex)).length : Int) <= 1000; omega
  · have g := good (by simp [Sp.hasB, e, e3]; simpa using e2);rw [Sp.eff5 rfl] at g;unfold Sp.Bks.post Sp.setSt at g;simp only [hg] at g;exact g
def sp_do1 [InW] : List Ed -> (Nat -> List Ed -> Prop) -> Prop := sp_doK 1
noncomputable def cc_do1 : CC where
  g := 68
  args := [(.ptr 1 0), .int .i64, .agg [(.lit (.int .i64 1)), .int .i64, .int .i64, .int .i64, .int .i64, .int .i64, .int .i64, .int .i64, .int .i64, .int .i64, .int .i64]]
  H := [(1, .blk 95 [.rs [.str], .rs Ivs, .int .i64, .int .i64, .int .i64, .int .i64, .rs [.int .i64, .int .i64], (.row 4), (.row 7), (.row 10), (.row 13), (.mp 16), (.row 19), .int .i64, .int .i64]), (4, .arr 63 Iv5), (7, .arr 3 [.int .i64]), (10, .arr 3 [.int .i64]), (13, .arr 3 [.int .i64]), (16, .mpI), (19, .arr 61 Iv4)]
  outs := [⟨false, .int .i64, [(1, .blk 95 [.rs [.str], .rs Ivs, .int .i64, .int .i64, .int .i64, .int .i64, .rs [.int .i64, .int .i64], (.row 63), (.row 7), (.row 10), (.row 13), (.mp 16), (.row 66), .int .i64, .int .i64]), (63, .arr 63 Iv5), (7, .arr 3 [.int .i64]), (10, .arr 3 [.int .i64]), (13, .arr 3 [.int .i64]), (16, .mpI), (66, .arr 61 Iv4)], false⟩]
  spec := sp_do1
def VCC_do1 [W : InW] (n at_ xl xc xb xs xh xd xw xk xm : Int) (rl : Ro [.str]) (rc : Ro Ivs) (pr ex lo hi : Int) (rt : Ro [.int .i64, .int .i64]) (tm ev : Int) (ls km si ac : Dt) (es : List (Int × Int)) (ps : Dt) (K : Nat -> List Ed -> Prop) : Prop :=
  Pre True (Vif (!!Sp.out (0 : Int) (6 : Int) [[Cl.i (1 : Int)]]) (K (0 : Nat) [.i (Int.ofNat (nat_lit 1 + (1 : Nat))), .ro _ rl, .ro _ rc, .i pr, .i ex, .i lo, .i hi, .ro _ rt, .i tm, .i ev, .l ls, .l km, .l si, .l ac, .m es, .l ps]) (Pre True (Vif (!!Sp.out tm (4800 : Int) [[Cl.i at_]]) (K (0 : Nat) [.i (Int.ofNat (nat_lit 6 + (1 : Nat))), .ro _ rl, .ro _ rc, .i pr, .i ex, .i lo, .i hi, .ro _ rt, .i tm, .i ev, .l ls, .l km, .l si, .l ac, .m es, .l ps]) (Ar .i64 ((↑(ls.length) : Int) - (1 : Int)) fun z => Pre True (Vif (!Sp.out (0 : Int) z [[Cl.i xb]]) (Need (decide ((0 : Int) <= xb) && decide (xb < (↑(ls.length) : Int))) (Need (decide (xb.toNat < ls.length)) (Vif (!decide ((cel ls xb.toNat (nat_lit 3 + (1 : Nat))).int = (0 : Int))) (K (0 : Nat) [.i (Int.ofNat (nat_lit 3 + (1 : Nat))), .ro _ rl, .ro _ rc, .i pr, .i ex, .i lo, .i hi, .ro _ rt, .i tm, .i n, .l ls, .l km, .l si, .l ac, .m es, .l ps]) (Need (decide ((0 : Int) <= xb) && decide (xb < (↑(ls.length) : Int))) (Need (decide (xb.toNat < ls.length)) (Vif (!decide (at_ < (cel ls xb.toNat (nat_lit 1 + (1 : Nat))).int)) (K (0 : Nat) [.i (Int.ofNat (nat_lit 1 + (1 : Nat))), .ro _ rl, .ro _ rc, .i pr, .i ex, .i lo, .i hi, .ro _ rt, .i tm, .i n, .l ls, .l km, .l si, .l ac, .m es, .l ps]) (Need (decide (xb.toNat < ls.length)) (Need (decide (xb.toNat < (List.set ls xb.toNat (setCls (match ls[xb.toNat]? with | some x => x | none => []) (nat_lit 3 + (1 : Nat)) [Cl.i (1 : Int)])).length)) (Pre ((↑(rl.xs.length) : Int) <= (1000 : Int)) (Need (decide (xb.toNat < (List.set ls xb.toNat (setCls (match ls[xb.toNat]? with | some x => x | none => []) (nat_lit 3 + (1 : Nat)) [Cl.i (1 : Int)])).length)) (Need (decide (xb.toNat < (List.set ls xb.toNat (setCls (match ls[xb.toNat]? with | some x => x | none => []) (nat_lit 3 + (1 : Nat)) [Cl.i (1 : Int)])).length)) (Ar .i64 ((cel (List.set ls xb.toNat (setCls (match ls[xb.toNat]? with | some x => x | none => []) (nat_lit 3 + (1 : Nat)) [Cl.i (1 : Int)])) xb.toNat (nat_lit 1 + (1 : Nat))).int - at_) fun z => Pre ((0 : Int) <= (cel (List.set ls xb.toNat (setCls (match ls[xb.toNat]? with | some x => x | none => []) (nat_lit 3 + (1 : Nat)) [Cl.i (1 : Int)])) xb.toNat (nat_lit 2 + (1 : Nat))).int /\ (cel (List.set ls xb.toNat (setCls (match ls[xb.toNat]? with | some x => x | none => []) (nat_lit 3 + (1 : Nat)) [Cl.i (1 : Int)])) xb.toNat (nat_lit 2 + (1 : Nat))).int <= (100000 : Int) /\ (0 : Int) <= pr /\ pr <= (10000 : Int) /\ Sp.FeesOk rt.xs) (Pre ((0 : Int) <= (cel (List.set ls xb.toNat (setCls (match ls[xb.toNat]? with | some x => x | none => []) (nat_lit 3 + (1 : Nat)) [Cl.i (1 : Int)])) xb.toNat (0 : Nat)).int /\ (cel (List.set ls xb.toNat (setCls (match ls[xb.toNat]? with | some x => x | none => []) (nat_lit 3 + (1 : Nat)) [Cl.i (1 : Int)])) xb.toNat (0 : Nat)).int < (↑(ac.length) : Int) /\ (0 : Int) <= (↑(rl.xs.length) : Int) /\ (↑(rl.xs.length) : Int) < (↑(ac.length) : Int) /\ Sp.Small (Sp.fee rt.xs pr (cel (List.set ls xb.toNat (setCls (match ls[xb.toNat]? with | some x => x | none => []) (nat_lit 3 + (1 : Nat)) [Cl.i (1 : Int)])) xb.toNat (nat_lit 2 + (1 : Nat))).int z) /\ (∀ (j : Nat), Sp.Small (cel ac j (0 : Nat)).int) /\ (↑(ps.length) : Int) <= (1000 : Int)) (K (0 : Nat) [.i (0 : Int), .ro _ rl, .ro _ rc, .i pr, .i ex, .i lo, .i hi, .ro _ rt, .i at_, .i n, .l (List.set ls xb.toNat (setCls (match ls[xb.toNat]? with | some x => x | none => []) (nat_lit 3 + (1 : Nat)) [Cl.i (1 : Int)])), .l km, .l si, .l (Sp.postA ac (cel (List.set ls xb.toNat (setCls (match ls[xb.toNat]? with | some x => x | none => []) (nat_lit 3 + (1 : Nat)) [Cl.i (1 : Int)])) xb.toNat (0 : Nat)).int (↑(rl.xs.length) : Int) (Sp.fee rt.xs pr (cel (List.set ls xb.toNat (setCls (match ls[xb.toNat]? with | some x => x | none => []) (nat_lit 3 + (1 : Nat)) [Cl.i (1 : Int)])) xb.toNat (nat_lit 2 + (1 : Nat))).int z)), .m es, .l (Sp.postP ps n (cel (List.set ls xb.toNat (setCls (match ls[xb.toNat]? with | some x => x | none => []) (nat_lit 3 + (1 : Nat)) [Cl.i (1 : Int)])) xb.toNat (0 : Nat)).int (↑(rl.xs.length) : Int) (Sp.fee rt.xs pr (cel (List.set ls xb.toNat (setCls (match ls[xb.toNat]? with | some x => x | none => []) (nat_lit 3 + (1 : Nat)) [Cl.i (1 : Int)])) xb.toNat (nat_lit 2 + (1 : Nat))).int z))])))))))))))))) (K (0 : Nat) [.i (Int.ofNat (nat_lit 3 + (1 : Nat))), .ro _ rl, .ro _ rc, .i pr, .i ex, .i lo, .i hi, .ro _ rt, .i tm, .i n, .l ls, .l km, .l si, .l ac, .m es, .l ps]))))))
theorem vcc_do1 (W : InW) (n at_ xl xc xb xs xh xd xw xk xm rl rc pr ex lo hi rt tm ev ls km si ac es ps K) : coreK (cxT Try.prog TT TP4 1000 50) 1000 68 [.ptr 1 0, .si .i64 n, .agg [.v (.int .i64 1), .si .i64 at_, .si .i64 xl, .si .i64 xc, .si .i64 xb, .si .i64 xs, .si .i64 xh, .si .i64 xd, .si .i64 xw, .si .i64 xk, .si .i64 xm]] [(1, .blk 95 [.rs _ rl, .rs _ rc, .si .i64 pr, .si .i64 ex, .si .i64 lo, .si .i64 hi, .rs _ rt, .rw 4, .rw 7, .rw 10, .rw 13, .mp 16, .rw 19, .si .i64 tm, .si .i64 ev]), (4, .arr 63 Iv5 ls), (7, .arr 3 [.int .i64] km), (10, .arr 3 [.int .i64] si), (13, .arr 3 [.int .i64] ac), (16, .obj (.mpI es)), (19, .arr 61 Iv4 ps)] (fun v h => outC cc_do1.H [.ro _ rl, .ro _ rc, .i pr, .i ex, .i lo, .i hi, .ro _ rt, .i tm, .i ev, .l ls, .l km, .l si, .l ac, .m es, .l ps] cc_do1.outs 0 false v h K) (fun v h => outC cc_do1.H [.ro _ rl, .ro _ rc, .i pr, .i ex, .i lo, .i hi, .ro _ rt, .i tm, .i ev, .l ls, .l km, .l si, .l ac, .m es, .l ps] cc_do1.outs 0 true v h K) = VCC_do1 n at_ xl xc xb xs xh xd xw xk xm rl rc pr ex lo hi rt tm ev ls km si ac es ps K := by kernel_rfl
theorem okc_do1 (hyp_ : ∀ (W : InW) (n : Int) (at_ : Int) (xl : Int) (xc : Int) (xb : Int) (xs : Int) (xh : Int) (xd : Int) (xw : Int) (xk : Int) (xm : Int) (rl : Ro [.str]) (rc : Ro Ivs) (pr : Int) (ex : Int) (lo : Int) (hi : Int) (rt : Ro [.int .i64, .int .i64]) (tm : Int) (ev : Int) (ls : Dt) (km : Dt) (si : Dt) (ac : Dt) (es : List (Int × Int)) (ps : Dt) (K : Nat -> List Ed -> Prop), sp_do1 [.i n, .i at_, .i xl, .i xc, .i xb, .i xs, .i xh, .i xd, .i xw, .i xk, .i xm, .ro _ rl, .ro _ rc, .i pr, .i ex, .i lo, .i hi, .ro _ rt, .i tm, .i ev, .l ls, .l km, .l si, .l ac, .m es, .l ps] K -> VCC_do1 n at_ xl xc xb xs xh xd xw xk xm rl rc pr ex lo hi rt tm ev ls km si ac es ps K) : ∀ W : InW, @CallC W Try.prog cc_do1 :=
  CC.okOf (fun W => @TT W) (fun W => @TT_ok W) mixed_ok TP4 1000 50 cc_do1 fun W n at_ xl xc xb xs xh xd xw xk xm rl rc pr ex lo hi rt tm ev ls km si ac es ps K hs => (vcc_do1 W n at_ xl xc xb xs xh xd xw xk xm rl rc pr ex lo hi rt tm ev ls km si ac es ps K).mpr (hyp_ W n at_ xl xc xb xs xh xd xw xk xm rl rc pr ex lo hi rt tm ev ls km si ac es ps K hs)
theorem okdo1 : ∀ W : InW, @CallC W Try.prog cc_do1 := okc_do1 fun W n at_ xl xc xb xs xh xd xw xk xm rl rc pr ex lo hi rt tm ev ls km si ac es ps K hs => by
  obtain ⟨hI, hk⟩ := hs;obtain ⟨late, bad, good⟩ := do_hk (b := ⟨ls, km, si, ac, es, ps, tm, ev⟩) (n := n) (x := ⟨1, at_, xl, xc, xb, xs, xh, xd, xw, xk, xm⟩) (show Sp.inr 1 0 6 = true by decide) hk;clear hk;have hL := hI.rlL;have hM := hI.many;have hN := hI.nn;simp only at hL hM;unfold VCC_do1;simp only [out1, Bool.not_not, Nat.zero_add, Nat.reduceAdd];refine ⟨trivial, vif (fun e => absurd e (by decide)) fun _ => ⟨trivial, vif late fun h1 => ar64 (by omega) ⟨trivial, ?_⟩⟩⟩
  replace bad := bad h1
  replace good := good h1
  rw [Sp.err1 rfl] at bad good;refine vif (fun e => ?_) fun e => bad 4 (by decide) (by simp [Sp.hasB, e]);have hx := Sp.inr_iff.1 e;have hi1 : xb.toNat < ls.length := by omega
  obtain ⟨r, hr, hg, hc⟩ := Sp.row_of hi1;have hc0 := fun v => hc v 0 (by decide);have hc1 := fun v => hc v 1 (by decide);have hc2 := fun v => hc v 2 (by decide);have hc3 := fun v => hc v 3 (by decide);have hl := hI.ls _ hi1;simp only at hl;simp only [hr, hc0, hc1, hc2, hc3, List.length_set];refine ned (by simp; omega) (nedd hi1 (vif (fun e2 => bad 4 (by decide) (by have f := (by simpa using e2 : ¬ _); simp [Sp.hasB, f])) fun e2 => ned (by simp; omega) (nedd hi1 (vif (fun e3 => bad 2 (by decide) (by simp [Sp.hasB, e]; simp at e2 e3; omega)) fun e3 => nedd hi1 (nedd hi1 ⟨by omega, nedd hi1 (nedd hi1 ?_)⟩)))));have e3' : at_ < (cel ls xb.toNat 2).int := by simpa using e3
  have e2' : (cel ls xb.toNat 4).int = 0 := by simpa using e2
  have hT := hI.tm;simp only at hT;have hA : tm <= at_ := by rw [Bool.not_eq_false', Sp.inr_iff] at h1; exact h1.1
  have hP := hI.sch.price;have hF := hI.sch.fees;simp only at hP hF;have hf : Sp.Small (Sp.fee rt.xs pr (cel ls xb.toNat 3).int ((cel ls xb.toNat 2).int - at_)) := by
    have := Sp.fee_in hF hl.2.2.2 hP ((cel ls xb.toNat 2).int - at_);unfold Sp.Small; omega
  refine ar64 (by omega) ⟨⟨by omega, by omega, by omega, by omega, hF⟩, ⟨by omega, by omega, by omega, by omega, hf, hI.acS, hI.psL⟩, ?_⟩;have g := good (by simp [Sp.hasB, e, e2', e3']);rw [Sp.eff1 rfl] at g;unfold Sp.Bks.post Sp.setSt at g;simp only [hg] at g;exact g
def sp_do3 [InW] : List Ed -> (Nat -> List Ed -> Prop) -> Prop := sp_doK 3
noncomputable def cc_do3 : CC where
  g := 68
  args := [(.ptr 1 0), .int .i64, .agg [(.lit (.int .i64 3)), .int .i64, .int .i64, .int .i64, .int .i64, .int .i64, .int .i64, .int .i64, .int .i64, .int .i64, .int .i64]]
  H := [(1, .blk 95 [.rs [.str], .rs Ivs, .int .i64, .int .i64, .int .i64, .int .i64, .rs [.int .i64, .int .i64], (.row 4), (.row 7), (.row 10), (.row 13), (.mp 16), (.row 19), .int .i64, .int .i64]), (4, .arr 63 Iv5), (7, .arr 3 [.int .i64]), (10, .arr 3 [.int .i64]), (13, .arr 3 [.int .i64]), (16, .mpI), (19, .arr 61 Iv4)]
  outs := [⟨false, .int .i64, [(1, .blk 95 [.rs [.str], .rs Ivs, .int .i64, .int .i64, .int .i64, .int .i64, .rs [.int .i64, .int .i64], (.row 63), (.row 7), (.row 10), (.row 13), (.mp 16), (.row 66), .int .i64, .int .i64]), (63, .arr 63 Iv5), (7, .arr 3 [.int .i64]), (10, .arr 3 [.int .i64]), (13, .arr 3 [.int .i64]), (16, .mpI), (66, .arr 61 Iv4)], false⟩]
  spec := sp_do3
def VCC_do3 [W : InW] (n at_ xl xc xb xs xh xd xw xk xm : Int) (rl : Ro [.str]) (rc : Ro Ivs) (pr ex lo hi : Int) (rt : Ro [.int .i64, .int .i64]) (tm ev : Int) (ls km si ac : Dt) (es : List (Int × Int)) (ps : Dt) (K : Nat -> List Ed -> Prop) : Prop :=
  Pre True (Vif (!!Sp.out (0 : Int) (6 : Int) [[Cl.i (3 : Int)]]) (K (0 : Nat) [.i (Int.ofNat (nat_lit 1 + (1 : Nat))), .ro _ rl, .ro _ rc, .i pr, .i ex, .i lo, .i hi, .ro _ rt, .i tm, .i ev, .l ls, .l km, .l si, .l ac, .m es, .l ps]) (Pre True (Vif (!!Sp.out tm (4800 : Int) [[Cl.i at_]]) (K (0 : Nat) [.i (Int.ofNat (nat_lit 6 + (1 : Nat))), .ro _ rl, .ro _ rc, .i pr, .i ex, .i lo, .i hi, .ro _ rt, .i tm, .i ev, .l ls, .l km, .l si, .l ac, .m es, .l ps]) (Ar .i64 ((↑(ls.length) : Int) - (1 : Int)) fun z => Pre True (Vif (!Sp.out (0 : Int) z [[Cl.i xb]]) (Need (decide ((0 : Int) <= xb) && decide (xb < (↑(ls.length) : Int))) (Need (decide (xb.toNat < ls.length)) (Vif (!decide ((cel ls xb.toNat (nat_lit 3 + (1 : Nat))).int = (0 : Int))) (K (0 : Nat) [.i (Int.ofNat (nat_lit 3 + (1 : Nat))), .ro _ rl, .ro _ rc, .i pr, .i ex, .i lo, .i hi, .ro _ rt, .i tm, .i n, .l ls, .l km, .l si, .l ac, .m es, .l ps]) (Need (decide ((0 : Int) <= xb) && decide (xb < (↑(ls.length) : Int))) (Need (decide (xb.toNat < ls.length)) (Need (decide (xb.toNat < ls.length)) (Ar .i64 ((cel ls xb.toNat (nat_lit 1 + (1 : Nat))).int + (cel ls xb.toNat (nat_lit 2 + (1 : Nat))).int) fun z => Vif (!decide (z <= at_)) (K (0 : Nat) [.i (Int.ofNat (nat_lit 1 + (1 : Nat))), .ro _ rl, .ro _ rc, .i pr, .i ex, .i lo, .i hi, .ro _ rt, .i tm, .i n, .l ls, .l km, .l si, .l ac, .m es, .l ps]) (Pre True (Vif (!!Sp.out (0 : Int) (400 : Int) [[Cl.i xk]]) (K (0 : Nat) [.i (Int.ofNat (nat_lit 6 + (1 : Nat))), .ro _ rl, .ro _ rc, .i pr, .i ex, .i lo, .i hi, .ro _ rt, .i tm, .i n, .l ls, .l km, .l si, .l ac, .m es, .l ps]) (Need (decide (xb.toNat < ls.length)) (Need (decide ((0 : Int) <= (cel ls xb.toNat (nat_lit 0 + (1 : Nat))).int) && decide ((cel ls xb.toNat (nat_lit 0 + (1 : Nat))).int < (↑(si.length) : Int))) (Need (decide ((cel ls xb.toNat (nat_lit 0 + (1 : Nat))).int.toNat < si.length)) (Need (decide (xb.toNat < ls.length)) (Need (decide ((0 : Int) <= (cel ls xb.toNat (nat_lit 0 + (1 : Nat))).int) && decide ((cel ls xb.toNat (nat_lit 0 + (1 : Nat))).int < (↑(rc.xs.length) : Int))) (Need (decide ((cel ls xb.toNat (nat_lit 0 + (1 : Nat))).int.toNat < rc.xs.length)) (Vif (!decide ((cel si (cel ls xb.toNat (nat_lit 0 + (1 : Nat))).int.toNat (0 : Nat)).int <= (cel rc.xs (cel ls xb.toNat (nat_lit 0 + (1 : Nat))).int.toNat (nat_lit 1 + (1 : Nat))).int)) (K (0 : Nat) [.i (Int.ofNat (nat_lit 8 + (1 : Nat))), .ro _ rl, .ro _ rc, .i pr, .i ex, .i lo, .i hi, .ro _ rt, .i tm, .i n, .l ls, .l km, .l si, .l ac, .m es, .l ps]) (Need (decide (xb.toNat < ls.length)) (Need (decide (xb.toNat < (List.set ls xb.toNat (setCls (match ls[xb.toNat]? with | some x => x | none => []) (nat_lit 3 + (1 : Nat)) [Cl.i (2 : Int)])).length)) (Need (decide ((0 : Int) <= (cel (List.set ls xb.toNat (setCls (match ls[xb.toNat]? with | some x => x | none => []) (nat_lit 3 + (1 : Nat)) [Cl.i (2 : Int)])) xb.toNat (nat_lit 0 + (1 : Nat))).int) && decide ((cel (List.set ls xb.toNat (setCls (match ls[xb.toNat]? with | some x => x | none => []) (nat_lit 3 + (1 : Nat)) [Cl.i (2 : Int)])) xb.toNat (nat_lit 0 + (1 : Nat))).int < (↑(km.length) : Int))) (Need (decide ((cel (List.set ls xb.toNat (setCls (match ls[xb.toNat]? with | some x => x | none => []) (nat_lit 3 + (1 : Nat)) [Cl.i (2 : Int)])) xb.toNat (nat_lit 0 + (1 : Nat))).int.toNat < km.length)) (Ar .i64 ((cel km (cel (List.set ls xb.toNat (setCls (match ls[xb.toNat]? with | some x => x | none => []) (nat_lit 3 + (1 : Nat)) [Cl.i (2 : Int)])) xb.toNat (nat_lit 0 + (1 : Nat))).int.toNat (0 : Nat)).int + xk) fun z => Need (decide ((0 : Int) <= (cel (List.set ls xb.toNat (setCls (match ls[xb.toNat]? with | some x => x | none => []) (nat_lit 3 + (1 : Nat)) [Cl.i (2 : Int)])) xb.toNat (nat_lit 0 + (1 : Nat))).int) && decide ((cel (List.set ls xb.toNat (setCls (match ls[xb.toNat]? with | some x => x | none => []) (nat_lit 3 + (1 : Nat)) [Cl.i (2 : Int)])) xb.toNat (nat_lit 0 + (1 : Nat))).int < (↑(km.length) : Int))) (Need (decide ((cel (List.set ls xb.toNat (setCls (match ls[xb.toNat]? with | some x => x | none => []) (nat_lit 3 + (1 : Nat)) [Cl.i (2 : Int)])) xb.toNat (nat_lit 0 + (1 : Nat))).int.toNat < km.length)) (Need (decide (xb.toNat < (List.set ls xb.toNat (setCls (match ls[xb.toNat]? with | some x => x | none => []) (nat_lit 3 + (1 : Nat)) [Cl.i (2 : Int)])).length)) (Need (decide ((0 : Int) <= (cel (List.set ls xb.toNat (setCls (match ls[xb.toNat]? with | some x => x | none => []) (nat_lit 3 + (1 : Nat)) [Cl.i (2 : Int)])) xb.toNat (nat_lit 0 + (1 : Nat))).int) && decide ((cel (List.set ls xb.toNat (setCls (match ls[xb.toNat]? with | some x => x | none => []) (nat_lit 3 + (1 : Nat)) [Cl.i (2 : Int)])) xb.toNat (nat_lit 0 + (1 : Nat))).int < (↑(si.length) : Int))) (Need (decide ((cel (List.set ls xb.toNat (setCls (match ls[xb.toNat]? with | some x => x | none => []) (nat_lit 3 + (1 : Nat)) [Cl.i (2 : Int)])) xb.toNat (nat_lit 0 + (1 : Nat))).int.toNat < si.length)) (Ar .i64 ((cel si (cel (List.set ls xb.toNat (setCls (match ls[xb.toNat]? with | some x => x | none => []) (nat_lit 3 + (1 : Nat)) [Cl.i (2 : Int)])) xb.toNat (nat_lit 0 + (1 : Nat))).int.toNat (0 : Nat)).int + xk) fun z_1 => Need (decide ((0 : Int) <= (cel (List.set ls xb.toNat (setCls (match ls[xb.toNat]? with | some x => x | none => []) (nat_lit 3 + (1 : Nat)) [Cl.i (2 : Int)])) xb.toNat (nat_lit 0 + (1 : Nat))).int) && decide ((cel (List.set ls xb.toNat (setCls (match ls[xb.toNat]? with | some x => x | none => []) (nat_lit 3 + (1 : Nat)) [Cl.i (2 : Int)])) xb.toNat (nat_lit 0 + (1 : Nat))).int < (↑(si.length) : Int))) (Need (decide ((cel (List.set ls xb.toNat (setCls (match ls[xb.toNat]? with | some x => x | none => []) (nat_lit 3 + (1 : Nat)) [Cl.i (2 : Int)])) xb.toNat (nat_lit 0 + (1 : Nat))).int.toNat < si.length)) (Need (decide (xb.toNat < (List.set ls xb.toNat (setCls (match ls[xb.toNat]? with | some x => x | none => []) (nat_lit 3 + (1 : Nat)) [Cl.i (2 : Int)])).length)) (Pre ((↑(rl.xs.length) : Int) <= (1000 : Int)) (Need (decide (xb.toNat < (List.set ls xb.toNat (setCls (match ls[xb.toNat]? with | some x => x | none => []) (nat_lit 3 + (1 : Nat)) [Cl.i (2 : Int)])).length)) (Ar .i64 ((cel (List.set ls xb.toNat (setCls (match ls[xb.toNat]? with | some x => x | none => []) (nat_lit 3 + (1 : Nat)) [Cl.i (2 : Int)])) xb.toNat (nat_lit 2 + (1 : Nat))).int * pr) fun z_2 => Pre ((0 : Int) <= (cel (List.set ls xb.toNat (setCls (match ls[xb.toNat]? with | some x => x | none => []) (nat_lit 3 + (1 : Nat)) [Cl.i (2 : Int)])) xb.toNat (0 : Nat)).int /\ (cel (List.set ls xb.toNat (setCls (match ls[xb.toNat]? with | some x => x | none => []) (nat_lit 3 + (1 : Nat)) [Cl.i (2 : Int)])) xb.toNat (0 : Nat)).int < (↑(ac.length) : Int) /\ (0 : Int) <= (↑(rl.xs.length) : Int) /\ (↑(rl.xs.length) : Int) < (↑(ac.length) : Int) /\ Sp.Small z_2 /\ (∀ (j : Nat), Sp.Small (cel ac j (0 : Nat)).int) /\ (↑(ps.length) : Int) <= (1000 : Int)) (K (0 : Nat) [.i (0 : Int), .ro _ rl, .ro _ rc, .i pr, .i ex, .i lo, .i hi, .ro _ rt, .i at_, .i n, .l (List.set ls xb.toNat (setCls (match ls[xb.toNat]? with | some x => x | none => []) (nat_lit 3 + (1 : Nat)) [Cl.i (2 : Int)])), .l (List.set km (cel (List.set ls xb.toNat (setCls (match ls[xb.toNat]? with | some x => x | none => []) (nat_lit 3 + (1 : Nat)) [Cl.i (2 : Int)])) xb.toNat (nat_lit 0 + (1 : Nat))).int.toNat [Cl.i z]), .l (List.set si (cel (List.set ls xb.toNat (setCls (match ls[xb.toNat]? with | some x => x | none => []) (nat_lit 3 + (1 : Nat)) [Cl.i (2 : Int)])) xb.toNat (nat_lit 0 + (1 : Nat))).int.toNat [Cl.i z_1]), .l (Sp.postA ac (cel (List.set ls xb.toNat (setCls (match ls[xb.toNat]? with | some x => x | none => []) (nat_lit 3 + (1 : Nat)) [Cl.i (2 : Int)])) xb.toNat (0 : Nat)).int (↑(rl.xs.length) : Int) z_2), .m es, .l (Sp.postP ps n (cel (List.set ls xb.toNat (setCls (match ls[xb.toNat]? with | some x => x | none => []) (nat_lit 3 + (1 : Nat)) [Cl.i (2 : Int)])) xb.toNat (0 : Nat)).int (↑(rl.xs.length) : Int) z_2)])))))))))))))))))))))))))))))))) (K (0 : Nat) [.i (Int.ofNat (nat_lit 3 + (1 : Nat))), .ro _ rl, .ro _ rc, .i pr, .i ex, .i lo, .i hi, .ro _ rt, .i tm, .i n, .l ls, .l km, .l si, .l ac, .m es, .l ps]))))))
theorem vcc_do3 (W : InW) (n at_ xl xc xb xs xh xd xw xk xm rl rc pr ex lo hi rt tm ev ls km si ac es ps K) : coreK (cxT Try.prog TT TP4 1000 50) 1000 68 [.ptr 1 0, .si .i64 n, .agg [.v (.int .i64 3), .si .i64 at_, .si .i64 xl, .si .i64 xc, .si .i64 xb, .si .i64 xs, .si .i64 xh, .si .i64 xd, .si .i64 xw, .si .i64 xk, .si .i64 xm]] [(1, .blk 95 [.rs _ rl, .rs _ rc, .si .i64 pr, .si .i64 ex, .si .i64 lo, .si .i64 hi, .rs _ rt, .rw 4, .rw 7, .rw 10, .rw 13, .mp 16, .rw 19, .si .i64 tm, .si .i64 ev]), (4, .arr 63 Iv5 ls), (7, .arr 3 [.int .i64] km), (10, .arr 3 [.int .i64] si), (13, .arr 3 [.int .i64] ac), (16, .obj (.mpI es)), (19, .arr 61 Iv4 ps)] (fun v h => outC cc_do3.H [.ro _ rl, .ro _ rc, .i pr, .i ex, .i lo, .i hi, .ro _ rt, .i tm, .i ev, .l ls, .l km, .l si, .l ac, .m es, .l ps] cc_do3.outs 0 false v h K) (fun v h => outC cc_do3.H [.ro _ rl, .ro _ rc, .i pr, .i ex, .i lo, .i hi, .ro _ rt, .i tm, .i ev, .l ls, .l km, .l si, .l ac, .m es, .l ps] cc_do3.outs 0 true v h K) = VCC_do3 n at_ xl xc xb xs xh xd xw xk xm rl rc pr ex lo hi rt tm ev ls km si ac es ps K := by kernel_rfl
theorem okc_do3 (hyp_ : ∀ (W : InW) (n : Int) (at_ : Int) (xl : Int) (xc : Int) (xb : Int) (xs : Int) (xh : Int) (xd : Int) (xw : Int) (xk : Int) (xm : Int) (rl : Ro [.str]) (rc : Ro Ivs) (pr : Int) (ex : Int) (lo : Int) (hi : Int) (rt : Ro [.int .i64, .int .i64]) (tm : Int) (ev : Int) (ls : Dt) (km : Dt) (si : Dt) (ac : Dt) (es : List (Int × Int)) (ps : Dt) (K : Nat -> List Ed -> Prop), sp_do3 [.i n, .i at_, .i xl, .i xc, .i xb, .i xs, .i xh, .i xd, .i xw, .i xk, .i xm, .ro _ rl, .ro _ rc, .i pr, .i ex, .i lo, .i hi, .ro _ rt, .i tm, .i ev, .l ls, .l km, .l si, .l ac, .m es, .l ps] K -> VCC_do3 n at_ xl xc xb xs xh xd xw xk xm rl rc pr ex lo hi rt tm ev ls km si ac es ps K) : ∀ W : InW, @CallC W Try.prog cc_do3 :=
  CC.okOf (fun W => @TT W) (fun W => @TT_ok W) mixed_ok TP4 1000 50 cc_do3 fun W n at_ xl xc xb xs xh xd xw xk xm rl rc pr ex lo hi rt tm ev ls km si ac es ps K hs => (vcc_do3 W n at_ xl xc xb xs xh xd xw xk xm rl rc pr ex lo hi rt tm ev ls km si ac es ps K).mpr (hyp_ W n at_ xl xc xb xs xh xd xw xk xm rl rc pr ex lo hi rt tm ev ls km si ac es ps K hs)
theorem okdo3 : ∀ W : InW, @CallC W Try.prog cc_do3 := okc_do3 fun W n at_ xl xc xb xs xh xd xw xk xm rl rc pr ex lo hi rt tm ev ls km si ac es ps K hs => by
  obtain ⟨hI, hk⟩ := hs;obtain ⟨late, bad, good⟩ := do_hk (b := ⟨ls, km, si, ac, es, ps, tm, ev⟩) (n := n) (x := ⟨3, at_, xl, xc, xb, xs, xh, xd, xw, xk, xm⟩) (show Sp.inr 3 0 6 = true by decide) hk;clear hk;have hL := hI.rlL;have hM := hI.many;have hN := hI.nn;simp only at hL hM;unfold VCC_do3;simp only [out1, Bool.not_not, Nat.zero_add, Nat.reduceAdd];refine ⟨trivial, vif (fun e => absurd e (by decide)) fun _ => ⟨trivial, vif late fun h1 => ar64 (by omega) ⟨trivial, ?_⟩⟩⟩
  replace bad := bad h1
  replace good := good h1
  rw [Sp.err3 rfl] at bad good;refine vif (fun e => ?_) fun e => bad 4 (by decide) (by simp [Sp.hasB, e]);have hx := Sp.inr_iff.1 e;have hi1 : xb.toNat < ls.length := by omega
  obtain ⟨r, hr, hg, hc⟩ := Sp.row_of hi1;have hc0 := fun v => hc v 0 (by decide);have hc1 := fun v => hc v 1 (by decide);have hc2 := fun v => hc v 2 (by decide);have hc3 := fun v => hc v 3 (by decide);have hl := hI.ls _ hi1;simp only at hl;simp only [hr, hc0, hc1, hc2, hc3, List.length_set];have hsi := hI.si;have hkm := hI.km;simp only at hsi hkm;have hCs : (cel ls xb.toNat 1).int.toNat < si.length := by omega
  have hCr : (cel ls xb.toNat 1).int.toNat < rc.xs.length := by omega
  have hCk : (cel ls xb.toNat 1).int.toNat < km.length := by omega
  have b1 := hsi.2 _ hCs;have b2 := hkm.2 _ hCk;have hP := hI.sch.price;simp only at hP;have m1 : 0 <= (cel ls xb.toNat 3).int * pr := Int.mul_nonneg (by omega) (by omega);have m2 : (cel ls xb.toNat 3).int * pr <= 4 * 10000 := Int.mul_le_mul hl.2.2.2.2 hP.2 (by omega) (by omega);refine ned (by simp; omega) (nedd hi1 (vif (fun e2 => bad 4 (by decide) (by have f := (by simpa using e2 : ¬ _); simp [Sp.hasB, f])) fun e2 => ned (by simp; omega) (nedd hi1 (nedd hi1 (ar64 (by omega) (vif (fun e3 => bad 2 (by decide) ?_) fun e3 => ⟨trivial, vif (fun e4 => bad 7 (by decide) ?_) fun e4 => nedd hi1 (ned (by simp; omega) (nedd hCs (nedd hi1 (ned (by simp; omega) (nedd hCr (vif (fun e5 => bad 9 (by decide) ?_) fun e5 => nedd hi1 (nedd hi1 (ned (by simp; omega) (nedd hCk (ar64 ?_ (ned (by simp; omega) (nedd hCk (nedd hi1 (ned (by simp; omega) (nedd hCs (ar64 ?_ (ned (by simp; omega) (nedd hCs (nedd hi1 ⟨by omega, nedd hi1 (ar64 (by omega) ⟨⟨by omega, by omega, by omega, by omega, by unfold Sp.Small; omega, hI.acS, hI.psL⟩, ?_⟩)⟩)))))))))))))))))))⟩))))))
  · have f2 : (cel ls xb.toNat 4).int = 0 := by simpa using e2
    have f3 : at_ < (cel ls xb.toNat 2).int + (cel ls xb.toNat 3).int := by simpa using e3
    simp [Sp.hasB, e, f2, f3]
  · have f2 : (cel ls xb.toNat 4).int = 0 := by simpa using e2
    have f3 : ¬ at_ < (cel ls xb.toNat 2).int + (cel ls xb.toNat 3).int := by simpa using e3
    simp [Sp.hasB, e, f2, f3, e4]
  · have f2 : (cel ls xb.toNat 4).int = 0 := by simpa using e2
    have f3 : ¬ at_ < (cel ls xb.toNat 2).int + (cel ls xb.toNat 3).int := by simpa using e3
    have f5 : (cel rc.xs (cel ls xb.toNat 1).int.toNat 2).int < (cel si (cel ls xb.toNat 1).int.toNat 0).int := by simpa using e5
    simp [Sp.hasB, e, f2, f3, e4, f5]
  · rw [Bool.not_eq_false', Sp.inr_iff] at e4;omega
  · rw [Bool.not_eq_false', Sp.inr_iff] at e4;omega
  · have f2 : (cel ls xb.toNat 4).int = 0 := by simpa using e2
    have f3 : ¬ at_ < (cel ls xb.toNat 2).int + (cel ls xb.toNat 3).int := by simpa using e3
    have f5 : ¬ (cel rc.xs (cel ls xb.toNat 1).int.toNat 2).int < (cel si (cel ls xb.toNat 1).int.toNat 0).int := by simpa using e5
    have g := good (by simp [Sp.hasB, e, f2, f3, e4, f5]);rw [Sp.eff3 rfl] at g;unfold Sp.Bks.post Sp.setSt at g;simp only [hg] at g;exact g
open Go.RowKit
set_option maxRecDepth 100000
namespace Sp
def mvB (rc ls : Dt) (es : List (Int × Int)) (l c h i s : Int) : Bool := (moveTo rc ls es l c h i (days s) s).isSome
def mvS (rc ls : Dt) (es : List (Int × Int)) (l c h i s : Int) : Int := (moveTo rc ls es l c h i (days s) s).getD 0
structure RowOk (rc ls : Dt) (i : Int) : Prop where
  ix : 0 <= i /\ i < ls.length
  car : 0 <= (cel ls i.toNat 1).int /\ (cel ls i.toNat 1).int < rc.length
  start : 0 <= (cel ls i.toNat 2).int /\ (cel ls i.toNat 2).int <= 4800
  hours : 1 <= (cel ls i.toNat 3).int /\ (cel ls i.toNat 3).int <= 4
end Sp
noncomputable def TP5 : Tab Try.prog := ⟨[], [], [ce_dryP, ce_clear74]⟩
def sp_mvP [InW] (e : List Ed) (K : Nat -> List Ed -> Prop) : Prop := match e with
  | [.i i, .ro _ rc, .l ls, .m es, .i l, .i c, .i s, .i h, .i st] => Pre (0 <= i /\ i < ls.length /\ Sp.CalmP ls /\ 0 <= c /\ c < rc.xs.length /\ 0 <= s /\ s <= 4900 /\ 1 <= h /\ h <= 4)
      (Vif (Sp.mvB rc.xs ls es l c h i s) (K 1 [.ro _ rc, .l (ls.set i.toNat [.i l, .i c, .i (Sp.mvS rc.xs ls es l c h i s), .i h, .i st]), .m es]) (K 0 [.i i, .ro _ rc, .l ls, .m es]))
  | _ => False
noncomputable def lc_mvP : LC where
  len := 55
  T := [(0, (.ptr 1 0)), (1, .int .i64), (4, (.ptr 6 0))]
  H := [(1, .blk 95 [(.opq 1021), .rs Ivs, (.opq 1024), (.opq 1027), (.opq 1030), (.opq 1033), (.opq 1036), (.row 4), (.opq 1042), (.opq 1045), (.opq 1048), (.mp 16), (.opq 1051), (.opq 1054), (.opq 1057)]), (4, .arr 63 Iv5), (16, .mpI), (6, .blk 63 [.int .i64, .int .i64, .int .i64, .int .i64, .int .i64])]
  W := [17, 18, 19, 20, 21, 22, 23, 24, 25, 26, 27, 28, 29, 30, 31, 32, 33, 34, 35, 36, 37, 38, 39, 40, 41, 42, 43, 44, 45, 46]
  outs := [⟨.exit 0, [(0, (.ptr 1 0)), (1, .int .i64)], [(1, .blk 95 [(.opq 1021), .rs Ivs, (.opq 1024), (.opq 1027), (.opq 1030), (.opq 1033), (.opq 1036), (.row 4), (.opq 1042), (.opq 1045), (.opq 1048), (.mp 16), (.opq 1051), (.opq 1054), (.opq 1057)]), (4, .arr 63 Iv5), (16, .mpI)], [4, 17, 18, 19, 20, 21, 22, 23, 24, 25, 26, 27, 28, 29, 30, 31, 32, 33, 34, 35, 36, 37, 38, 39, 40, 41, 42, 43, 44, 45, 46]⟩, ⟨.ret, [(0, (.ptr 1 0))], [(1, .blk 95 [(.opq 1021), .rs Ivs, (.opq 1024), (.opq 1027), (.opq 1030), (.opq 1033), (.opq 1036), (.row 4), (.opq 1042), (.opq 1045), (.opq 1048), (.mp 16), (.opq 1051), (.opq 1054), (.opq 1057)]), (4, .arr 63 Iv5), (16, .mpI)], [1, 4, 17, 18, 19, 20, 21, 22, 23, 24, 25, 26, 27, 28, 29, 30, 31, 32, 33, 34, 35, 36, 37, 38, 39, 40, 41, 42, 43, 44, 45, 46]⟩]
  spec := sp_mvP
def VCL_mvP [W : InW] (i : Int) (rc : Ro Ivs) (ls : Dt) (es : List (Int × Int)) (l c s h st : Int) (A : List Ed -> Prop) (K : Nat -> List Ed -> Prop) : Prop :=
  Ar .i64 (s + h) fun z => Vif (decide (z <= (4800 : Int))) (Pre ((0 : Int) <= c /\ c < (↑(rc.xs.length) : Int) /\ (0 : Int) <= s /\ Sp.Small s) (Vif (Sp.dryB rc.xs es c s) (Pre ((↑(ls.length) : Int) <= (1000 : Int) /\ Sp.Small s /\ Sp.Small h /\ ∀ (j : Nat), Sp.Small (cel ls j (2 : Nat)).int /\ Sp.Small (cel ls j (3 : Nat)).int) (Vif (!Sp.blocked ls i l c s h (0 : Nat) (ls.length)) (Need (decide ((0 : Int) <= i) && decide (i < (↑(ls.length) : Int))) (Need (decide (i.toNat < ls.length)) (K (0+1 : Nat) [.ro _ rc, .l (List.set ls i.toNat [Cl.i l, Cl.i c, Cl.i s, Cl.i h, Cl.i st]), .m es]))) (Ar .i64 (s + (24 : Int)) fun z => A [.i i, .ro _ rc, .l ls, .m es, .i l, .i c, .i z, .i h, .i st]))) (Ar .i64 (s + (24 : Int)) fun z => A [.i i, .ro _ rc, .l ls, .m es, .i l, .i c, .i z, .i h, .i st]))) (K (0 : Nat) [.i i, .ro _ rc, .l ls, .m es])
theorem vcl_mvP (W : InW) (i rc ls es l c s h st A K) : vcTop { cxT Try.prog TT TP5 1000 50 with fn := 101 } 1000 (loopAt Try.prog 101 3) (tmOut 55 [(0, .ptr 1 0), (1, .si .i64 i), (4, .ptr 6 0)] [17, 18, 19, 20, 21, 22, 23, 24, 25, 26, 27, 28, 29, 30, 31, 32, 33, 34, 35, 36, 37, 38, 39, 40, 41, 42, 43, 44, 45, 46]) [(1, .blk 95 [.opq 1021, .rs _ rc, .opq 1024, .opq 1027, .opq 1030, .opq 1033, .opq 1036, .rw 4, .opq 1042, .opq 1045, .opq 1048, .mp 16, .opq 1051, .opq 1054, .opq 1057]), (4, .arr 63 Iv5 ls), (16, .obj (.mpI es)), (6, .blk 63 [.si .i64 l, .si .i64 c, .si .i64 s, .si .i64 h, .si .i64 st])] (roundL lc_mvP A K) = VCL_mvP i rc ls es l c s h st A K := by kernel_rfl
def okLt_mvP : Prop := ∀ (W : InW) (body a : Code), (Try.prog.funcs[101]?).bind (·.body) = some body -> a ∈ loopsIn body -> keyOf a = 3 -> @LoopOk W Try.prog a (@loopRun W lc_mvP)
theorem okl_mvP (meas : [InW] -> List Ed -> Nat) (hyp_ : ∀ (W : InW) (i : Int) (rc : Ro Ivs) (ls : Dt) (es : List (Int × Int)) (l : Int) (c : Int) (s : Int) (h : Int) (st : Int) (K : Nat -> List Ed -> Prop), sp_mvP [.i i, .ro _ rc, .l ls, .m es, .i l, .i c, .i s, .i h, .i st] K -> ∀ A : List Ed -> Prop, (∀ e, meas e < meas [.i i, .ro _ rc, .l ls, .m es, .i l, .i c, .i s, .i h, .i st] -> sp_mvP e K -> A e) -> VCL_mvP i rc ls es l c s h st A K) : okLt_mvP :=
  LE.okOf' (fun W => @TT W) (fun W => @TT_ok W) mixed_ok TP5 1000 50 (by kernel_rfl) lc_mvP (fun W => @meas W) fun W i rc ls es l c s h st K hs =>
    (vcl_mvP W i rc ls es l c s h st (fun e => meas e < meas [.i i, .ro _ rc, .l ls, .m es, .i l, .i c, .i s, .i h, .i st] /\ sp_mvP e K) K).mpr (hyp_ W i rc ls es l c s h st K hs _ fun e h1 h2 => ⟨h1, h2⟩)
theorem Sp.days_next {s : Int} (h : s <= 4800) : Sp.days s = Sp.days (s + 24) + 1 := by unfold Sp.days; omega
theorem Sp.mv_stop (rc ls : Dt) (es : List (Int × Int)) (l c h i s : Int) (h1 : 1 <= h) (e : ¬ s + h <= 4800) : Sp.mvB rc ls es l c h i s = false := by
  unfold Sp.mvB;cases hd : Sp.days s with
  | zero => rfl
  | succ n => rw [Sp.moveTo, if_neg e]; rfl
theorem Sp.mv_here (rc ls : Dt) (es : List (Int × Int)) (l c h i s : Int) (h1 : 1 <= h) (e : s + h <= 4800) (f : (Sp.dryB rc es c s && !Sp.blocked ls i l c s h 0 ls.length) = true) : Sp.mvB rc ls es l c h i s = true /\ Sp.mvS rc ls es l c h i s = s := by
  unfold Sp.mvB Sp.mvS;rw [Sp.days_next (by omega), Sp.moveTo, if_pos e, if_pos f];exact ⟨rfl, rfl⟩
theorem Sp.mv_next (rc ls : Dt) (es : List (Int × Int)) (l c h i s : Int) (h1 : 1 <= h) (e : s + h <= 4800) (f : (Sp.dryB rc es c s && !Sp.blocked ls i l c s h 0 ls.length) = false) : Sp.mvB rc ls es l c h i s = Sp.mvB rc ls es l c h i (s + 24) /\ Sp.mvS rc ls es l c h i s = Sp.mvS rc ls es l c h i (s + 24) := by
  unfold Sp.mvB Sp.mvS;rw [Sp.days_next (s := s) (by omega), Sp.moveTo, if_pos e, if_neg (by rw [f]; decide)];exact ⟨rfl, rfl⟩
theorem okLmvP : okLt_mvP := okl_mvP (fun e => match e with | [_, _, _, _, _, _, .i s, _, _] => Sp.days s | _ => 0) fun W i rc ls es l c s h st K hs A hA => by
  obtain ⟨⟨h0, h1, hc, h2, h3, h4, h5, h6, h7⟩, hk⟩ := hs;unfold VCL_mvP;refine ar64 (by omega) (vifd (fun e => ?_) fun e => ?_)
  · have again : (Sp.dryB rc.xs es c s && !Sp.blocked ls i l c s h 0 ls.length) = false -> Ar IntKind.i64 (s + 24) fun z => A [.i i, .ro _ rc, .l ls, .m es, .i l, .i c, .i z, .i h, .i st] := fun f => ar64 (by omega) (hA _ (by show Sp.days (s + 24) < Sp.days s; rw [Sp.days_next (s := s) (by omega)]; omega) ⟨⟨h0, h1, hc, h2, h3, by omega, by omega, h6, h7⟩, by
      obtain ⟨a, b⟩ := Sp.mv_next rc.xs ls es l c h i s h6 e f;rw [a, b] at hk;exact hk⟩)
    refine ⟨⟨h2, h3, h4, by unfold Sp.Small; omega⟩, vif (fun e2 => ⟨⟨hc.many, by unfold Sp.Small; omega, by unfold Sp.Small; omega, hc.ls⟩, vif (fun e3 => ?_) fun e3 => again (by rw [e3]; simp)⟩) fun e2 => again (by rw [e2]; rfl)⟩;refine ned (by simp; omega) (nedd (by omega) ?_);obtain ⟨a, b⟩ := Sp.mv_here rc.xs ls es l c h i s h6 e (by rw [e2, e3]; rfl);have := hk.1 a;rw [b] at this;exact this
  · exact hk.2 (Sp.mv_stop _ _ _ _ _ _ _ _ h6 e)
noncomputable def le_mvP : LE Try.prog := ⟨101, 3, fun W => @loopRun W lc_mvP, okLmvP⟩
noncomputable def TP6 : Tab Try.prog := ⟨[], [le_mvP], [ce_dryP, ce_clear74]⟩
def sp_move [InW] (e : List Ed) (K : Nat -> List Ed -> Prop) : Prop := match e with
  | [.i i, .ro _ rc, .l ls, .m es] => Pre (Sp.RowOk rc.xs ls i /\ Sp.CalmP ls) (K 0 [.ro _ rc, .l (Sp.moveL rc.xs ls es i), .m es])
  | _ => False
noncomputable def cc_move : CC where
  g := 101
  args := [(.ptr 1 0), .int .i64]
  H := [(1, .blk 95 [(.opq 1021), .rs Ivs, (.opq 1024), (.opq 1027), (.opq 1030), (.opq 1033), (.opq 1036), (.row 4), (.opq 1042), (.opq 1045), (.opq 1048), (.mp 16), (.opq 1051), (.opq 1054), (.opq 1057)]), (4, .arr 63 Iv5), (16, .mpI)]
  outs := [⟨false, .tup [], [(1, .blk 95 [(.opq 1021), .rs Ivs, (.opq 1024), (.opq 1027), (.opq 1030), (.opq 1033), (.opq 1036), (.row 4), (.opq 1042), (.opq 1045), (.opq 1048), (.mp 16), (.opq 1051), (.opq 1054), (.opq 1057)]), (4, .arr 63 Iv5), (16, .mpI)], false⟩]
  spec := sp_move
def VCC_move [W : InW] (i : Int) (rc : Ro Ivs) (ls : Dt) (es : List (Int × Int)) (K : Nat -> List Ed -> Prop) : Prop :=
  Need (decide ((0 : Int) <= i) && decide (i < (↑(ls.length) : Int))) (Need (decide (i.toNat < ls.length)) (Ar .i64 ((cel ls i.toNat (0+1+1 : Nat)).int + (24 : Int)) fun z => Pre ((0 : Int) <= i /\ i < (↑(ls.length) : Int) /\ Sp.CalmP ls /\ (0 : Int) <= (cel ls i.toNat (0+1 : Nat)).int /\ (cel ls i.toNat (0+1 : Nat)).int < (↑(rc.xs.length) : Int) /\ (0 : Int) <= z /\ z <= (4900 : Int) /\ (1 : Int) <= (cel ls i.toNat (0+1+1+1 : Nat)).int /\ (cel ls i.toNat (0+1+1+1 : Nat)).int <= (4 : Int)) (Vif (Sp.mvB rc.xs ls es (cel ls i.toNat (0 : Nat)).int (cel ls i.toNat (0+1 : Nat)).int (cel ls i.toNat (0+1+1+1 : Nat)).int i z) (K (0 : Nat) [.ro _ rc, .l (List.set ls i.toNat [Cl.i (cel ls i.toNat (0 : Nat)).int, Cl.i (cel ls i.toNat (0+1 : Nat)).int, Cl.i (Sp.mvS rc.xs ls es (cel ls i.toNat (0 : Nat)).int (cel ls i.toNat (0+1 : Nat)).int (cel ls i.toNat (0+1+1+1 : Nat)).int i z), Cl.i (cel ls i.toNat (0+1+1+1 : Nat)).int, Cl.i (cel ls i.toNat (0+1+1+1+1 : Nat)).int]), .m es]) (Need (decide ((0 : Int) <= i) && decide (i < (↑(ls.length) : Int))) (Need (decide (i.toNat < ls.length)) (K (0 : Nat) [.ro _ rc, .l (List.set ls i.toNat (setCls (match ls[i.toNat]? with | some x => x | none => []) (nat_lit 3 + (1 : Nat)) [Cl.i (1 : Int)])), .m es]))))))
theorem vcc_move (W : InW) (i rc ls es K) : coreK (cxT Try.prog TT TP6 1000 50) 1000 101 [.ptr 1 0, .si .i64 i] [(1, .blk 95 [.opq 1021, .rs _ rc, .opq 1024, .opq 1027, .opq 1030, .opq 1033, .opq 1036, .rw 4, .opq 1042, .opq 1045, .opq 1048, .mp 16, .opq 1051, .opq 1054, .opq 1057]), (4, .arr 63 Iv5 ls), (16, .obj (.mpI es))] (fun v h => outC cc_move.H [.ro _ rc, .l ls, .m es] cc_move.outs 0 false v h K) (fun v h => outC cc_move.H [.ro _ rc, .l ls, .m es] cc_move.outs 0 true v h K) = VCC_move i rc ls es K := by kernel_rfl
theorem okc_move (hyp_ : ∀ (W : InW) (i : Int) (rc : Ro Ivs) (ls : Dt) (es : List (Int × Int)) (K : Nat -> List Ed -> Prop), sp_move [.i i, .ro _ rc, .l ls, .m es] K -> VCC_move i rc ls es K) : ∀ W : InW, @CallC W Try.prog cc_move :=
  CC.okOf (fun W => @TT W) (fun W => @TT_ok W) mixed_ok TP6 1000 50 cc_move fun W i rc ls es K hs => (vcc_move W i rc ls es K).mpr (hyp_ W i rc ls es K hs)
theorem Sp.moveL_yes {rc ls : Dt} {es : List (Int × Int)} {i : Int} (h : Sp.mvB rc ls es (cel ls i.toNat 0).int (cel ls i.toNat 1).int (cel ls i.toNat 3).int i ((cel ls i.toNat 2).int + 24) = true) :
    Sp.moveL rc ls es i = ls.set i.toNat [.i (cel ls i.toNat 0).int, .i (cel ls i.toNat 1).int, .i (Sp.mvS rc ls es (cel ls i.toNat 0).int (cel ls i.toNat 1).int (cel ls i.toNat 3).int i ((cel ls i.toNat 2).int + 24)), .i (cel ls i.toNat 3).int, .i (cel ls i.toNat 4).int] := by
  unfold Sp.moveL Sp.mvS;unfold Sp.mvB at h
  split
  · rename_i s hs;rw [hs]; rfl
  · rename_i hs;rw [hs] at h; cases h
theorem Sp.moveL_no {rc ls : Dt} {es : List (Int × Int)} {i : Int} (h : Sp.mvB rc ls es (cel ls i.toNat 0).int (cel ls i.toNat 1).int (cel ls i.toNat 3).int i ((cel ls i.toNat 2).int + 24) = false) :
    Sp.moveL rc ls es i = Sp.setSt ls i 1 := by
  unfold Sp.moveL;unfold Sp.mvB at h
  split
  · rename_i s hs;rw [hs] at h; cases h
  · rfl
theorem okmove : ∀ W : InW, @CallC W Try.prog cc_move := okc_move fun W i rc ls es K hs => by
  obtain ⟨⟨hR, hc⟩, hk⟩ := hs;obtain ⟨h1, h2, h3, h4⟩ := hR;unfold VCC_move;simp only [Nat.zero_add, Nat.reduceAdd];have hi : i.toNat < ls.length := by omega
  refine ned (by simp; omega) (nedd hi (ar64 (by omega) ⟨⟨by omega, by omega, hc, by omega, by omega, by omega, by omega, by omega, by omega⟩, vif (fun e => ?_) fun e => ned (by simp; omega) (nedd hi ?_)⟩))
  · rw [Sp.moveL_yes e] at hk;exact hk
  · obtain ⟨r, hr, hg, _⟩ := Sp.row_of hi;rw [Sp.moveL_no e] at hk;unfold Sp.setSt at hk;simp only [hg] at hk;simp only [hr];exact hk
noncomputable def ce_move : CE Try.prog := ceOf cc_move okmove
open Go.RowKit
set_option maxRecDepth 100000
noncomputable abbrev LPwea : LI := lpAt Try.prog 92 0
noncomputable def TP7 : Tab Try.prog := ⟨[], [], [ce_move]⟩
namespace Sp
structure WOk (rc ls : Dt) : Prop where
  many : (ls.length : Int) <= 60
  rows : ∀ j, j < ls.length -> (0 <= (cel ls j 0).int) /\ (0 <= (cel ls j 1).int /\ (cel ls j 1).int < rc.length) /\ (0 <= (cel ls j 2).int /\ (cel ls j 2).int <= 4800) /\ (1 <= (cel ls j 3).int /\ (cel ls j 3).int <= 4)
end Sp
def sp_weaP [InW] (e : List Ed) (K : Nat -> List Ed -> Prop) : Prop := match e with
  | [.i n, .i i, .l ls, .ro _ rc, .i kd, .i at_, .i xl, .i xc, .i xb, .i xs, .i xh, .i xd, .i xw, .i xk, .i xm, .m es] => Pre (n = (ls.length : Int) /\ 0 <= i /\ i <= n /\ Sp.WOk rc.xs ls /\ 0 <= xw /\ xw <= 7)
      (K 0 [.l (Sp.weatherL rc.xs es ⟨kd, at_, xl, xc, xb, xs, xh, xd, xw, xk, xm⟩ (ls.length - i.toNat) i ls), .ro _ rc, .i kd, .i at_, .i xl, .i xc, .i xb, .i xs, .i xh, .i xd, .i xw, .i xk, .i xm, .m es])
  | _ => False
noncomputable def lc_weaP : LC where
  len := 26
  T := [(0, (.yl 1)), (9, (.row 4)), (10, .int .i64), (11, .int .i64)]
  H := [(1, .lp LPwea [(.opq 1501), (.opq 1504), (.opq 1507), (.ptr 10 0), (.ptr 13 0), (.opq 312), (.opq 315), (.opq 1522), (.opq 1525), (.opq 1528), (.opq 1531), (.opq 1534), (.opq 1537), (.opq 1540), (.opq 1543), (.opq 1546), (.opq 1549), (.opq 1552), (.opq 1555), (.opq 1558), (.opq 1561), (.opq 1564), (.opq 1567), (.opq 1570), (.opq 1573), (.opq 1576), (.opq 1579), (.opq 1582), (.opq 1585), (.opq 1588), (.opq 1591), (.opq 1594), (.opq 1597), (.opq 1600), (.opq 399), (.opq 402), (.opq 405), (.opq 408), (.opq 411), (.opq 414), (.opq 417), (.opq 420), (.opq 423), (.opq 426), (.opq 429), (.opq 432), (.opq 435), (.opq 438), (.opq 441), (.opq 444), (.opq 447), (.opq 450), (.opq 453), (.opq 456), (.opq 459), (.opq 462), (.opq 465), (.opq 468), (.opq 471), (.opq 474), (.opq 477), (.opq 480), (.opq 483), (.opq 486), (.opq 489), (.opq 492), (.opq 495), (.opq 498), (.opq 501), (.opq 504), (.opq 507), (.opq 510), (.opq 513), (.opq 516), (.opq 519)]), (4, .arr 63 Iv5), (10, .blk 90 [(.ptr 28 0)]), (28, .blk 95 [(.opq 1021), .rs Ivs, (.opq 1024), (.opq 1027), (.opq 1030), (.opq 1033), (.opq 1036), (.row 4), (.opq 1042), (.opq 1045), (.opq 1048), (.mp 16), (.opq 1051), (.opq 1054), (.opq 1057)]), (13, .blk 65 [.int .i64, .int .i64, .int .i64, .int .i64, .int .i64, .int .i64, .int .i64, .int .i64, .int .i64, .int .i64, .int .i64]), (16, .mpI)]
  W := [3, 4, 12, 13, 14, 15, 16, 17, 18, 19, 20, 21, 22, 23, 24, 25]
  outs := [⟨.exit 0, [], [(1, .lp LPwea [(.opq 1501), (.opq 1504), (.opq 1507), (.ptr 10 0), (.ptr 13 0), (.opq 612), (.opq 615), (.opq 1522), (.opq 1525), (.opq 1528), (.opq 1531), (.opq 1534), (.opq 1537), (.opq 1540), (.opq 1543), (.opq 1546), (.opq 1549), (.opq 1552), (.opq 1555), (.opq 1558), (.opq 1561), (.opq 1564), (.opq 1567), (.opq 1570), (.opq 1573), (.opq 1576), (.opq 1579), (.opq 1582), (.opq 1585), (.opq 1588), (.opq 1591), (.opq 1594), (.opq 1597), (.opq 1600), (.opq 699), (.opq 702), (.opq 705), (.opq 708), (.opq 711), (.opq 714), (.opq 717), (.opq 720), (.opq 723), (.opq 726), (.opq 729), (.opq 732), (.opq 735), (.opq 738), (.opq 741), (.opq 744), (.opq 747), (.opq 750), (.opq 753), (.opq 756), (.opq 759), (.opq 762), (.opq 765), (.opq 768), (.opq 771), (.opq 774), (.opq 777), (.opq 780), (.opq 783), (.opq 786), (.opq 789), (.opq 792), (.opq 795), (.opq 798), (.opq 801), (.opq 804), (.opq 807), (.opq 810), (.opq 813), (.opq 816), (.opq 819)]), (612, .dead), (615, .dead), (699, .dead), (702, .dead), (705, .dead), (708, .dead), (711, .dead), (714, .dead), (717, .dead), (720, .dead), (723, .dead), (726, .dead), (729, .dead), (732, .dead), (735, .dead), (738, .dead), (741, .dead), (744, .dead), (747, .dead), (750, .dead), (753, .dead), (756, .dead), (759, .dead), (762, .dead), (765, .dead), (768, .dead), (771, .dead), (774, .dead), (777, .dead), (780, .dead), (783, .dead), (786, .dead), (789, .dead), (792, .dead), (795, .dead), (798, .dead), (801, .dead), (804, .dead), (807, .dead), (810, .dead), (813, .dead), (816, .dead), (819, .dead), (4, .arr 63 Iv5), (10, .blk 90 [(.ptr 28 0)]), (28, .blk 95 [(.opq 1021), .rs Ivs, (.opq 1024), (.opq 1027), (.opq 1030), (.opq 1033), (.opq 1036), (.row 4), (.opq 1042), (.opq 1045), (.opq 1048), (.mp 16), (.opq 1051), (.opq 1054), (.opq 1057)]), (13, .blk 65 [.int .i64, .int .i64, .int .i64, .int .i64, .int .i64, .int .i64, .int .i64, .int .i64, .int .i64, .int .i64, .int .i64]), (16, .mpI)], [0, 3, 4, 9, 10, 11, 12, 13, 14, 15, 16, 17, 18, 19, 20, 21, 22, 23, 24, 25]⟩]
  spec := sp_weaP
def VCL_weaP [W : InW] (n i : Int) (ls : Dt) (rc : Ro Ivs) (kd at_ xl xc xb xs xh xd xw xk xm : Int) (es : List (Int × Int)) (A : List Ed -> Prop) (K : Nat -> List Ed -> Prop) : Prop :=
  Vif (decide (i < n)) (Need (decide ((0 : Int) <= i) && decide (i < (↑(ls.length) : Int))) (Need (decide (i.toNat < ls.length)) (Vif (decide ((cel ls i.toNat (0+1+1+1+1 : Nat)).int = (0 : Int))) (Need (decide ((0 : Int) <= i) && decide (i < (↑(ls.length) : Int))) (Need (decide (i.toNat < ls.length)) (Ar .i64 ((cel ls i.toNat (0+1+1 : Nat)).int.tdiv (24 : Int)) fun z => Vif (decide (z = xd)) (Vif (decide (at_ < (cel ls i.toNat (0+1+1 : Nat)).int)) (Need (decide ((0 : Int) <= (cel ls i.toNat (0+1 : Nat)).int) && decide ((cel ls i.toNat (0+1 : Nat)).int < (↑(rc.xs.length) : Int))) (Need (decide ((cel ls i.toNat (0+1 : Nat)).int.toNat < rc.xs.length)) (Need (decide ((0 : Int) <= xw)) (Vif (decide (andI IntKind.i64 ((cel rc.xs (cel ls i.toNat (0+1 : Nat)).int.toNat (nat_lit 2 + (1 : Nat))).int.fdiv ((2 : Int) ^ min xw.toNat (64 : Nat))) (1 : Int) = (1 : Int))) (Pre (Sp.RowOk rc.xs ls i /\ Sp.CalmP ls) (Ar .i64 (i + (1 : Int)) fun z => PreL LPwea LPwea (A [.i n, .i z, .l (Sp.moveL rc.xs ls es i), .ro _ rc, .i kd, .i at_, .i xl, .i xc, .i xb, .i xs, .i xh, .i xd, .i xw, .i xk, .i xm, .m es]))) (Ar .i64 (i + (1 : Int)) fun z => PreL LPwea LPwea (A [.i n, .i z, .l ls, .ro _ rc, .i kd, .i at_, .i xl, .i xc, .i xb, .i xs, .i xh, .i xd, .i xw, .i xk, .i xm, .m es])))))) (Ar .i64 (i + (1 : Int)) fun z => PreL LPwea LPwea (A [.i n, .i z, .l ls, .ro _ rc, .i kd, .i at_, .i xl, .i xc, .i xb, .i xs, .i xh, .i xd, .i xw, .i xk, .i xm, .m es]))) (Ar .i64 (i + (1 : Int)) fun z => PreL LPwea LPwea (A [.i n, .i z, .l ls, .ro _ rc, .i kd, .i at_, .i xl, .i xc, .i xb, .i xs, .i xh, .i xd, .i xw, .i xk, .i xm, .m es]))))) (Ar .i64 (i + (1 : Int)) fun z => PreL LPwea LPwea (A [.i n, .i z, .l ls, .ro _ rc, .i kd, .i at_, .i xl, .i xc, .i xb, .i xs, .i xh, .i xd, .i xw, .i xk, .i xm, .m es]))))) (PreL LPwea LPwea (K (0 : Nat) [.l ls, .ro _ rc, .i kd, .i at_, .i xl, .i xc, .i xb, .i xs, .i xh, .i xd, .i xw, .i xk, .i xm, .m es]))
theorem vcl_weaP (W : InW) (n i ls rc kd at_ xl xc xb xs xh xd xw xk xm es A K) : vcTop { cxT Try.prog TT TP7 1000 50 with fn := 97 } 1000 (loopAt Try.prog 97 2) (tmOut 26 [(0, .yl 1), (9, .rw 4), (10, .si .i64 n), (11, .si .i64 i)] [3, 4, 12, 13, 14, 15, 16, 17, 18, 19, 20, 21, 22, 23, 24, 25]) [(1, .lp LPwea [.opq 1501, .opq 1504, .opq 1507, .ptr 10 0, .ptr 13 0, .opq 312, .opq 315, .opq 1522, .opq 1525, .opq 1528, .opq 1531, .opq 1534, .opq 1537, .opq 1540, .opq 1543, .opq 1546, .opq 1549, .opq 1552, .opq 1555, .opq 1558, .opq 1561, .opq 1564, .opq 1567, .opq 1570, .opq 1573, .opq 1576, .opq 1579, .opq 1582, .opq 1585, .opq 1588, .opq 1591, .opq 1594, .opq 1597, .opq 1600, .opq 399, .opq 402, .opq 405, .opq 408, .opq 411, .opq 414, .opq 417, .opq 420, .opq 423, .opq 426, .opq 429, .opq 432, .opq 435, .opq 438, .opq 441, .opq 444, .opq 447, .opq 450, .opq 453, .opq 456, .opq 459, .opq 462, .opq 465, .opq 468, .opq 471, .opq 474, .opq 477, .opq 480, .opq 483, .opq 486, .opq 489, .opq 492, .opq 495, .opq 498, .opq 501, .opq 504, .opq 507, .opq 510, .opq 513, .opq 516, .opq 519]), (4, .arr 63 Iv5 ls), (10, .blk 90 [.ptr 28 0]), (28, .blk 95 [.opq 1021, .rs _ rc, .opq 1024, .opq 1027, .opq 1030, .opq 1033, .opq 1036, .rw 4, .opq 1042, .opq 1045, .opq 1048, .mp 16, .opq 1051, .opq 1054, .opq 1057]), (13, .blk 65 [.si .i64 kd, .si .i64 at_, .si .i64 xl, .si .i64 xc, .si .i64 xb, .si .i64 xs, .si .i64 xh, .si .i64 xd, .si .i64 xw, .si .i64 xk, .si .i64 xm]), (16, .obj (.mpI es))] (roundL lc_weaP A K) = VCL_weaP n i ls rc kd at_ xl xc xb xs xh xd xw xk xm es A K := by kernel_rfl
def okLt_weaP : Prop := ∀ (W : InW) (body a : Code), (Try.prog.funcs[97]?).bind (·.body) = some body -> a ∈ loopsIn body -> keyOf a = 2 -> @LoopOk W Try.prog a (@loopRun W lc_weaP)
theorem okl_weaP (meas : [InW] -> List Ed -> Nat) (hyp_ : ∀ (W : InW) (n : Int) (i : Int) (ls : Dt) (rc : Ro Ivs) (kd : Int) (at_ : Int) (xl : Int) (xc : Int) (xb : Int) (xs : Int) (xh : Int) (xd : Int) (xw : Int) (xk : Int) (xm : Int) (es : List (Int × Int)) (K : Nat -> List Ed -> Prop), sp_weaP [.i n, .i i, .l ls, .ro _ rc, .i kd, .i at_, .i xl, .i xc, .i xb, .i xs, .i xh, .i xd, .i xw, .i xk, .i xm, .m es] K -> ∀ A : List Ed -> Prop, (∀ e, meas e < meas [.i n, .i i, .l ls, .ro _ rc, .i kd, .i at_, .i xl, .i xc, .i xb, .i xs, .i xh, .i xd, .i xw, .i xk, .i xm, .m es] -> sp_weaP e K -> A e) -> VCL_weaP n i ls rc kd at_ xl xc xb xs xh xd xw xk xm es A K) : okLt_weaP :=
  LE.okOf' (fun W => @TT W) (fun W => @TT_ok W) mixed_ok TP7 1000 50 (by kernel_rfl) lc_weaP (fun W => @meas W) fun W n i ls rc kd at_ xl xc xb xs xh xd xw xk xm es K hs =>
    (vcl_weaP W n i ls rc kd at_ xl xc xb xs xh xd xw xk xm es (fun e => meas e < meas [.i n, .i i, .l ls, .ro _ rc, .i kd, .i at_, .i xl, .i xc, .i xb, .i xs, .i xh, .i xd, .i xw, .i xk, .i xm, .m es] /\ sp_weaP e K) K).mpr (hyp_ W n i ls rc kd at_ xl xc xb xs xh xd xw xk xm es K hs _ fun e h1 h2 => ⟨h1, h2⟩)
namespace Sp
theorem moveL_len (rc ls : Dt) (es : List (Int × Int)) (i : Int) : (moveL rc ls es i).length = ls.length := by
  unfold moveL setSt
  split <;> simp
theorem moveTo_in {rc ls : Dt} {es : List (Int × Int)} {l c h i : Int} (h1 : 1 <= h) : ∀ (n : Nat) (s t : Int), 0 <= s -> moveTo rc ls es l c h i n s = some t -> 0 <= t /\ t <= 4800
  | 0, s, t, _, e => by simp [moveTo] at e
  | n + 1, s, t, hs, e => by
    unfold moveTo at e
    split at e
    · split at e
      · cases e; omega
      · exact moveTo_in h1 n (s + 24) t (by omega) e
    · cases e
theorem moveL_cel {rc ls : Dt} {es : List (Int × Int)} {i : Int} (hR : RowOk rc ls i) (j : Nat) :
    cel (moveL rc ls es i) j 0 = cel ls j 0 /\ (cel (moveL rc ls es i) j 1).int = (cel ls j 1).int /\ (cel (moveL rc ls es i) j 3).int = (cel ls j 3).int /\ ((cel (moveL rc ls es i) j 2).int = (cel ls j 2).int \/ 0 <= (cel (moveL rc ls es i) j 2).int /\ (cel (moveL rc ls es i) j 2).int <= 4800) \/
    (j = i.toNat /\ (cel (moveL rc ls es i) j 0).int = (cel ls j 0).int /\ (cel (moveL rc ls es i) j 1).int = (cel ls j 1).int /\ (cel (moveL rc ls es i) j 3).int = (cel ls j 3).int /\ ((cel (moveL rc ls es i) j 2).int = (cel ls j 2).int \/ 0 <= (cel (moveL rc ls es i) j 2).int /\ (cel (moveL rc ls es i) j 2).int <= 4800)) := by
  have hi : i.toNat < ls.length := by have := hR.ix; omega
  by_cases hj : i.toNat = j
  · subst hj;refine .inr ⟨rfl, ?_⟩;unfold moveL
    split
    · rename_i s hs;have := moveTo_in hR.hours.1 _ _ _ (by have := hR.start; omega) hs;have e : ∀ k, cel (ls.set i.toNat [.i (cel ls i.toNat 0).int, .i (cel ls i.toNat 1).int, .i s, .i (cel ls i.toNat 3).int, .i (cel ls i.toNat 4).int]) i.toNat k = [Cl.i (cel ls i.toNat 0).int, .i (cel ls i.toNat 1).int, .i s, .i (cel ls i.toNat 3).int, .i (cel ls i.toNat 4).int].getD k .z := fun k => by rw [cel_set, if_pos ⟨rfl, hi⟩]
      rw [e, e, e, e];exact ⟨rfl, rfl, rfl, .inr this⟩
    · obtain ⟨r, hr, hg, hc⟩ := row_of hi;unfold setSt;rw [hg, hc _ 0 (by decide), hc _ 1 (by decide), hc _ 2 (by decide), hc _ 3 (by decide)];exact ⟨rfl, rfl, rfl, .inl rfl⟩
  · have e : ∀ k, cel (moveL rc ls es i) j k = cel ls j k := fun k => by
      unfold moveL setSt
      split
      · rw [cel_set, if_neg (fun h => hj h.1)]
      · rw [cel_set, if_neg (fun h => hj h.1)]
    rw [e, e, e, e];exact .inl ⟨rfl, rfl, rfl, .inl rfl⟩
theorem WOk.row {rc ls : Dt} (h : WOk rc ls) {i : Int} (h0 : 0 <= i) (h1 : i < ls.length) : RowOk rc ls i := by
  have := h.rows i.toNat (by omega);exact ⟨⟨h0, h1⟩, this.2.1, this.2.2.1, this.2.2.2⟩
theorem WOk.move {rc ls : Dt} (h : WOk rc ls) {es : List (Int × Int)} {i : Int} (h0 : 0 <= i) (h1 : i < ls.length) : WOk rc (moveL rc ls es i) := by
  refine ⟨by rw [moveL_len]; exact h.many, fun j hj => ?_⟩;rw [moveL_len] at hj;have hr := h.rows j hj;rcases moveL_cel (es := es) (h.row h0 h1) j with ⟨a, b, c, d⟩ | ⟨_, a, b, c, d⟩
  · rw [a, b, c];rcases d with d | d
    · rw [d]; exact hr
    · exact ⟨hr.1, hr.2.1, d, hr.2.2.2⟩
  · rw [a, b, c];rcases d with d | d
    · rw [d]; exact hr
    · exact ⟨hr.1, hr.2.1, d, hr.2.2.2⟩
theorem WOk.calm {rc ls : Dt} (h : WOk rc ls) : CalmP ls := ⟨by have := h.many; omega, fun j => by
  by_cases hj : j < ls.length
  · have := h.rows j hj;unfold Small;omega
  · have e : ∀ k, cel ls j k = .z := fun k => by simp [cel, List.getD_eq_getElem?_getD, List.getElem?_eq_none (Nat.le_of_not_lt hj)]
    rw [e, e];unfold Small;simp [Cl.int]⟩
end Sp
theorem okLweaP : okLt_weaP := okl_weaP (fun e => match e with | .i n :: .i i :: _ => (n - i).toNat | _ => 0) fun W n i ls rc kd at_ xl xc xb xs xh xd xw xk xm es K hs A hA => by
  obtain ⟨⟨rfl, h0, h1, hw, h2, h3⟩, hk⟩ := hs;have hm := hw.many;unfold VCL_weaP;simp only [Nat.zero_add, Nat.reduceAdd, show min xw.toNat 64 = xw.toNat by omega];refine vifd (fun e => ?_) fun e => ?_
  · have hi : i.toNat < ls.length := by omega
    rw [show ls.length - i.toNat = (ls.length - (i.toNat + 1)) + 1 by omega, Sp.weatherL] at hk;have next : ∀ ls', (if Sp.hit rc.xs ls i ⟨kd, at_, xl, xc, xb, xs, xh, xd, xw, xk, xm⟩ then Sp.moveL rc.xs ls es i else ls) = ls' -> ls'.length = ls.length -> Sp.WOk rc.xs ls' ->
        Ar IntKind.i64 (i + 1) fun z => PreL LPwea LPwea (A [.i ls.length, .i z, .l ls', .ro _ rc, .i kd, .i at_, .i xl, .i xc, .i xb, .i xs, .i xh, .i xd, .i xw, .i xk, .i xm, .m es]) := fun ls' e1 e2 e3 => ar64 (by omega) ⟨rfl, hA _ (by show ((ls.length : Int) - (i + 1)).toNat < ((ls.length : Int) - i).toNat; omega) ⟨⟨by rw [e2], by omega, by omega, e3, h2, h3⟩, by
          rw [e1] at hk;rw [e2, show (i + 1).toNat = i.toNat + 1 by omega];exact hk⟩⟩
    have hr := hw.rows _ hi;have td : 0 <= (cel ls i.toNat 2).int.tdiv 24 /\ (cel ls i.toNat 2).int.tdiv 24 <= 4800 := by rw [Int.tdiv_eq_ediv_of_nonneg hr.2.2.1.1]; omega
    have no : Sp.hit rc.xs ls i ⟨kd, at_, xl, xc, xb, xs, xh, xd, xw, xk, xm⟩ = false -> Ar IntKind.i64 (i + 1) fun z => PreL LPwea LPwea (A [.i ls.length, .i z, .l ls, .ro _ rc, .i kd, .i at_, .i xl, .i xc, .i xb, .i xs, .i xh, .i xd, .i xw, .i xk, .i xm, .m es]) := fun f => next ls (by rw [f]; rfl) rfl hw
    clear hk hA;refine ned (by simp; omega) (nedd hi (vifd (fun e1 => ned (by simp; omega) (nedd hi (ar64 (by omega) (vifd (fun e2 => vifd (fun e3 => ned (by simp; omega) (nedd (by omega) (nedd h2 (vifd (fun e4 => ⟨⟨hw.row h0 (by omega), hw.calm⟩, ?_⟩) fun e4 => no ?_)))) fun e3 => no ?_) fun e2 => no ?_)))) fun e1 => no ?_))
    · refine next _ ?_ (Sp.moveL_len _ _ _ _) (hw.move h0 (by omega))
      rw [if_pos];simp [Sp.hit, e1, e2, e3, e4]
    · simp [Sp.hit, e4]
    · simp [Sp.hit, e3]
    · simp [Sp.hit, e2]
    · simp [Sp.hit, e1]
  · rw [show ls.length - i.toNat = 0 by omega] at hk;exact ⟨rfl, hk⟩
noncomputable def le_weaP : LE Try.prog := ⟨97, 2, fun W => @loopRun W lc_weaP, okLweaP⟩
noncomputable def TP8 : Tab Try.prog := ⟨[pc_out], [le_weaP], [ce_move]⟩
def sp_weather [InW] (e : List Ed) (K : Nat -> List Ed -> Prop) : Prop := match e with
  | [.i kd, .i at_, .i xl, .i xc, .i xb, .i xs, .i xh, .i xd, .i xw, .i xk, .i xm, .ro _ rc, .l ls, .m es] => Pre (Sp.WOk rc.xs ls /\ 0 <= getI es xd)
      (Vif (Sp.inr xd 0 200 && Sp.inr xw 0 7) (K 0 [.ro _ rc, .l (Sp.weatherL rc.xs (Sp.seeE es xd xw) ⟨kd, at_, xl, xc, xb, xs, xh, xd, xw, xk, xm⟩ ls.length 0 ls), .m (Sp.seeE es xd xw)])
        (K 1 [.ro _ rc, .l ls, .m es]))
  | _ => False
noncomputable def cc_weather : CC where
  g := 92
  args := [(.ptr 1 0), .agg [.int .i64, .int .i64, .int .i64, .int .i64, .int .i64, .int .i64, .int .i64, .int .i64, .int .i64, .int .i64, .int .i64]]
  H := [(1, .blk 95 [(.opq 1021), .rs Ivs, (.opq 1024), (.opq 1027), (.opq 1030), (.opq 1033), (.opq 1036), (.row 4), (.opq 1042), (.opq 1045), (.opq 1048), (.mp 16), (.opq 1051), (.opq 1054), (.opq 1057)]), (4, .arr 63 Iv5), (16, .mpI)]
  outs := [⟨false, .tup [], [(1, .blk 95 [(.opq 1021), .rs Ivs, (.opq 1024), (.opq 1027), (.opq 1030), (.opq 1033), (.opq 1036), (.row 4), (.opq 1042), (.opq 1045), (.opq 1048), (.mp 16), (.opq 1051), (.opq 1054), (.opq 1057)]), (4, .arr 63 Iv5), (16, .mpI)], false⟩, ⟨true, (.lit (.iface 30 (.int .i64 7))), [(1, .blk 95 [(.opq 1021), .rs Ivs, (.opq 1024), (.opq 1027), (.opq 1030), (.opq 1033), (.opq 1036), (.row 4), (.opq 1042), (.opq 1045), (.opq 1048), (.mp 16), (.opq 1051), (.opq 1054), (.opq 1057)]), (4, .arr 63 Iv5), (16, .mpI)], false⟩]
  spec := sp_weather
def VCC_weather [W : InW] (kd at_ xl xc xb xs xh xd xw xk xm : Int) (rc : Ro Ivs) (ls : Dt) (es : List (Int × Int)) (K : Nat -> List Ed -> Prop) : Prop :=
  Pre True (Vif (!Sp.out (0 : Int) (200 : Int) [[Cl.i xd]]) (Pre True (Vif (!!Sp.out (0 : Int) (7 : Int) [[Cl.i xw]]) (K (0+1 : Nat) [.ro _ rc, .l ls, .m es]) (Need (decide ((0 : Int) <= xw)) (Ar .i64 ((1 : Int) * (2 : Int) ^ min xw.toNat (64 : Nat)) fun z => PreL LPwea LPwea (Pre ((↑(ls.length) : Int) = (↑(ls.length) : Int) /\ (0 : Int) <= (0 : Int) /\ (0 : Int) <= (↑(ls.length) : Int) /\ Sp.WOk rc.xs ls /\ (0 : Int) <= xw /\ xw <= (7 : Int)) (K (0 : Nat) [.ro _ rc, .l (Sp.weatherL rc.xs (setI es xd (orI IntKind.i64 (getI es xd) z)) { kind := kd, at_ := at_, l := xl, c := xc, b := xb, s := xs, h := xh, d := xd, w := xw, k := xk, m := xm } (ls.length - Int.toNat (0 : Int)) (0 : Int) ls), .m (setI es xd (orI IntKind.i64 (getI es xd) z))])))))) (K (0+1 : Nat) [.ro _ rc, .l ls, .m es]))
theorem vcc_weather (W : InW) (kd at_ xl xc xb xs xh xd xw xk xm rc ls es K) : coreK (cxT Try.prog TT TP8 1000 50) 1000 92 [.ptr 1 0, .agg [.si .i64 kd, .si .i64 at_, .si .i64 xl, .si .i64 xc, .si .i64 xb, .si .i64 xs, .si .i64 xh, .si .i64 xd, .si .i64 xw, .si .i64 xk, .si .i64 xm]] [(1, .blk 95 [.opq 1021, .rs _ rc, .opq 1024, .opq 1027, .opq 1030, .opq 1033, .opq 1036, .rw 4, .opq 1042, .opq 1045, .opq 1048, .mp 16, .opq 1051, .opq 1054, .opq 1057]), (4, .arr 63 Iv5 ls), (16, .obj (.mpI es))] (fun v h => outC cc_weather.H [.ro _ rc, .l ls, .m es] cc_weather.outs 0 false v h K) (fun v h => outC cc_weather.H [.ro _ rc, .l ls, .m es] cc_weather.outs 0 true v h K) = VCC_weather kd at_ xl xc xb xs xh xd xw xk xm rc ls es K := by kernel_rfl
theorem okc_weather (hyp_ : ∀ (W : InW) (kd : Int) (at_ : Int) (xl : Int) (xc : Int) (xb : Int) (xs : Int) (xh : Int) (xd : Int) (xw : Int) (xk : Int) (xm : Int) (rc : Ro Ivs) (ls : Dt) (es : List (Int × Int)) (K : Nat -> List Ed -> Prop), sp_weather [.i kd, .i at_, .i xl, .i xc, .i xb, .i xs, .i xh, .i xd, .i xw, .i xk, .i xm, .ro _ rc, .l ls, .m es] K -> VCC_weather kd at_ xl xc xb xs xh xd xw xk xm rc ls es K) : ∀ W : InW, @CallC W Try.prog cc_weather :=
  CC.okOf (fun W => @TT W) (fun W => @TT_ok W) mixed_ok TP8 1000 50 cc_weather fun W kd at_ xl xc xb xs xh xd xw xk xm rc ls es K hs => (vcc_weather W kd at_ xl xc xb xs xh xd xw xk xm rc ls es K).mpr (hyp_ W kd at_ xl xc xb xs xh xd xw xk xm rc ls es K hs)
theorem okweather : ∀ W : InW, @CallC W Try.prog cc_weather := okc_weather fun W kd at_ xl xc xb xs xh xd xw xk xm rc ls es K hs => by
  obtain ⟨⟨hw, h0⟩, hk⟩ := hs;unfold VCC_weather;simp only [out1, Bool.not_not, Nat.zero_add, Nat.reduceAdd, Int.one_mul];refine ⟨trivial, vif (fun e => ⟨trivial, vif (fun e2 => hk.2 (by simp only [Bool.not_eq_true'] at e2; rw [e2, Bool.and_false])) fun e2 => ?_⟩) fun e => hk.2 (by rw [e]; rfl)⟩;rw [Bool.not_eq_false'] at e2;have h2 := Sp.inr_iff.1 e2;have hp : (2 : Int) ^ xw.toNat <= 128 /\ 0 <= (2 : Int) ^ xw.toNat := by
    have h7 : xw.toNat <= 7 := by omega
    generalize xw.toNat = m at *;have : m = 0 \/ m = 1 \/ m = 2 \/ m = 3 \/ m = 4 \/ m = 5 \/ m = 6 \/ m = 7 := by omega
    rcases this with rfl | rfl | rfl | rfl | rfl | rfl | rfl | rfl <;> decide
  rw [show min xw.toNat 64 = xw.toNat by omega];refine nedd h2.1 (ar64 (by omega) ⟨rfl, ⟨by trivial, by omega, by omega, hw, h2⟩, ?_⟩);exact hk.1 (by rw [e, e2]; rfl)
noncomputable def ce_weather : CE Try.prog := ceOf cc_weather okweather
open Go.RowKit
set_option maxRecDepth 100000
noncomputable def TP9 : Tab Try.prog := ⟨[pc_out, pc_bfee], [], [ce_weather]⟩
def sp_do2 [InW] : List Ed -> (Nat -> List Ed -> Prop) -> Prop := sp_doK 2
noncomputable def cc_do2 : CC where
  g := 68
  args := [(.ptr 1 0), .int .i64, .agg [(.lit (.int .i64 2)), .int .i64, .int .i64, .int .i64, .int .i64, .int .i64, .int .i64, .int .i64, .int .i64, .int .i64, .int .i64]]
  H := [(1, .blk 95 [.rs [.str], .rs Ivs, .int .i64, .int .i64, .int .i64, .int .i64, .rs [.int .i64, .int .i64], (.row 4), (.row 7), (.row 10), (.row 13), (.mp 16), (.row 19), .int .i64, .int .i64]), (4, .arr 63 Iv5), (7, .arr 3 [.int .i64]), (10, .arr 3 [.int .i64]), (13, .arr 3 [.int .i64]), (16, .mpI), (19, .arr 61 Iv4)]
  outs := [⟨false, .int .i64, [(1, .blk 95 [.rs [.str], .rs Ivs, .int .i64, .int .i64, .int .i64, .int .i64, .rs [.int .i64, .int .i64], (.row 63), (.row 7), (.row 10), (.row 13), (.mp 16), (.row 66), .int .i64, .int .i64]), (63, .arr 63 Iv5), (7, .arr 3 [.int .i64]), (10, .arr 3 [.int .i64]), (13, .arr 3 [.int .i64]), (16, .mpI), (66, .arr 61 Iv4)], false⟩]
  spec := sp_do2
def VCC_do2 [W : InW] (n at_ xl xc xb xs xh xd xw xk xm : Int) (rl : Ro [.str]) (rc : Ro Ivs) (pr ex lo hi : Int) (rt : Ro [.int .i64, .int .i64]) (tm ev : Int) (ls km si ac : Dt) (es : List (Int × Int)) (ps : Dt) (K : Nat -> List Ed -> Prop) : Prop :=
  Pre True (Vif (!!Sp.out (0 : Int) (6 : Int) [[Cl.i (2 : Int)]]) (K (0 : Nat) [.i (Int.ofNat (nat_lit 1 + (1 : Nat))), .ro _ rl, .ro _ rc, .i pr, .i ex, .i lo, .i hi, .ro _ rt, .i tm, .i ev, .l ls, .l km, .l si, .l ac, .m es, .l ps]) (Pre True (Vif (!!Sp.out tm (4800 : Int) [[Cl.i at_]]) (K (0 : Nat) [.i (Int.ofNat (nat_lit 6 + (1 : Nat))), .ro _ rl, .ro _ rc, .i pr, .i ex, .i lo, .i hi, .ro _ rt, .i tm, .i ev, .l ls, .l km, .l si, .l ac, .m es, .l ps]) (Pre (Sp.WOk rc.xs ls /\ (0 : Int) <= getI es xd) (Vif (Sp.inr xd (0 : Int) (200 : Int) && Sp.inr xw (0 : Int) (7 : Int)) (K (0 : Nat) [.i (0 : Int), .ro _ rl, .ro _ rc, .i pr, .i ex, .i lo, .i hi, .ro _ rt, .i at_, .i n, .l (Sp.weatherL rc.xs (Sp.seeE es xd xw) { kind := (2 : Int), at_ := at_, l := xl, c := xc, b := xb, s := xs, h := xh, d := xd, w := xw, k := xk, m := xm } (ls.length) (0 : Int) ls), .l km, .l si, .l ac, .m (Sp.seeE es xd xw), .l ps]) (K (0 : Nat) [.i (Int.ofNat (nat_lit 6 + (1 : Nat))), .ro _ rl, .ro _ rc, .i pr, .i ex, .i lo, .i hi, .ro _ rt, .i tm, .i n, .l ls, .l km, .l si, .l ac, .m es, .l ps]))))))
theorem vcc_do2 (W : InW) (n at_ xl xc xb xs xh xd xw xk xm rl rc pr ex lo hi rt tm ev ls km si ac es ps K) : coreK (cxT Try.prog TT TP9 1000 50) 1000 68 [.ptr 1 0, .si .i64 n, .agg [.v (.int .i64 2), .si .i64 at_, .si .i64 xl, .si .i64 xc, .si .i64 xb, .si .i64 xs, .si .i64 xh, .si .i64 xd, .si .i64 xw, .si .i64 xk, .si .i64 xm]] [(1, .blk 95 [.rs _ rl, .rs _ rc, .si .i64 pr, .si .i64 ex, .si .i64 lo, .si .i64 hi, .rs _ rt, .rw 4, .rw 7, .rw 10, .rw 13, .mp 16, .rw 19, .si .i64 tm, .si .i64 ev]), (4, .arr 63 Iv5 ls), (7, .arr 3 [.int .i64] km), (10, .arr 3 [.int .i64] si), (13, .arr 3 [.int .i64] ac), (16, .obj (.mpI es)), (19, .arr 61 Iv4 ps)] (fun v h => outC cc_do2.H [.ro _ rl, .ro _ rc, .i pr, .i ex, .i lo, .i hi, .ro _ rt, .i tm, .i ev, .l ls, .l km, .l si, .l ac, .m es, .l ps] cc_do2.outs 0 false v h K) (fun v h => outC cc_do2.H [.ro _ rl, .ro _ rc, .i pr, .i ex, .i lo, .i hi, .ro _ rt, .i tm, .i ev, .l ls, .l km, .l si, .l ac, .m es, .l ps] cc_do2.outs 0 true v h K) = VCC_do2 n at_ xl xc xb xs xh xd xw xk xm rl rc pr ex lo hi rt tm ev ls km si ac es ps K := by kernel_rfl
theorem okc_do2 (hyp_ : ∀ (W : InW) (n : Int) (at_ : Int) (xl : Int) (xc : Int) (xb : Int) (xs : Int) (xh : Int) (xd : Int) (xw : Int) (xk : Int) (xm : Int) (rl : Ro [.str]) (rc : Ro Ivs) (pr : Int) (ex : Int) (lo : Int) (hi : Int) (rt : Ro [.int .i64, .int .i64]) (tm : Int) (ev : Int) (ls : Dt) (km : Dt) (si : Dt) (ac : Dt) (es : List (Int × Int)) (ps : Dt) (K : Nat -> List Ed -> Prop), sp_do2 [.i n, .i at_, .i xl, .i xc, .i xb, .i xs, .i xh, .i xd, .i xw, .i xk, .i xm, .ro _ rl, .ro _ rc, .i pr, .i ex, .i lo, .i hi, .ro _ rt, .i tm, .i ev, .l ls, .l km, .l si, .l ac, .m es, .l ps] K -> VCC_do2 n at_ xl xc xb xs xh xd xw xk xm rl rc pr ex lo hi rt tm ev ls km si ac es ps K) : ∀ W : InW, @CallC W Try.prog cc_do2 :=
  CC.okOf (fun W => @TT W) (fun W => @TT_ok W) mixed_ok TP9 1000 50 cc_do2 fun W n at_ xl xc xb xs xh xd xw xk xm rl rc pr ex lo hi rt tm ev ls km si ac es ps K hs => (vcc_do2 W n at_ xl xc xb xs xh xd xw xk xm rl rc pr ex lo hi rt tm ev ls km si ac es ps K).mpr (hyp_ W n at_ xl xc xb xs xh xd xw xk xm rl rc pr ex lo hi rt tm ev ls km si ac es ps K hs)
theorem Sp.eff2 {s : Sp.Sch} {b : Sp.Bks} {x : Sp.Evt} (h : x.kind = 2) : Sp.eff s b x = { b with es := Sp.seeE b.es x.d x.w, ls := Sp.weatherL s.rc (Sp.seeE b.es x.d x.w) x b.ls.length 0 b.ls } := by simp [Sp.eff, h]
theorem Sp.err2 {s : Sp.Sch} {b : Sp.Bks} {x : Sp.Evt} (h : x.kind = 2) : Sp.err s b x = (if Sp.inr x.d 0 200 && Sp.inr x.w 0 7 then 0 else 7) := by simp [Sp.err, h]
theorem Sp.Inv.wok {s : Sp.Sch} {b : Sp.Bks} {n : Int} (h : Sp.Inv s b n) : Sp.WOk s.rc b.ls := ⟨by have := h.many; have := h.nn; omega, fun j hj => by have := h.ls j hj; exact ⟨this.1.1, this.2⟩⟩
theorem okdo2 : ∀ W : InW, @CallC W Try.prog cc_do2 := okc_do2 fun W n at_ xl xc xb xs xh xd xw xk xm rl rc pr ex lo hi rt tm ev ls km si ac es ps K hs => by
  obtain ⟨hI, hk⟩ := hs;obtain ⟨late, bad, good⟩ := do_hk (b := ⟨ls, km, si, ac, es, ps, tm, ev⟩) (n := n) (x := ⟨2, at_, xl, xc, xb, xs, xh, xd, xw, xk, xm⟩) (show Sp.inr 2 0 6 = true by decide) hk;clear hk;unfold VCC_do2;simp only [out1, Bool.not_not, Nat.zero_add, Nat.reduceAdd];refine ⟨trivial, vif (fun e => absurd e (by decide)) fun _ => ⟨trivial, vif late fun h1 => ?_⟩⟩
  replace bad := bad h1
  replace good := good h1
  rw [Sp.err2 rfl] at bad good;refine ⟨⟨hI.wok, (hI.es xd).1⟩, vif (fun e => ?_) fun e => bad 7 (by decide) (by simp only [e]; rfl)⟩;have g := good (by simp only [e]; rfl);rw [Sp.eff2 rfl] at g;exact g
def sp_doX [InW] (e : List Ed) (K : Nat -> List Ed -> Prop) : Prop := match e with
  | [.i n, .i kind, .i at_, .i xl, .i xc, .i xb, .i xs, .i xh, .i xd, .i xw, .i xk, .i xm, .ro _ rl, .ro _ rc, .i pr, .i ex, .i lo, .i hi, .ro _ rt, .i tm, .i ev, .l ls, .l km, .l si, .l ac, .m es, .l ps] =>
    Pre (Sp.inr kind 0 6 = false) (K 0 [.i 2, .ro _ rl, .ro _ rc, .i pr, .i ex, .i lo, .i hi, .ro _ rt, .i tm, .i ev, .l ls, .l km, .l si, .l ac, .m es, .l ps])
  | _ => False
noncomputable def cc_doX : CC where
  g := 68
  args := [(.ptr 1 0), .int .i64, .agg [.int .i64, .int .i64, .int .i64, .int .i64, .int .i64, .int .i64, .int .i64, .int .i64, .int .i64, .int .i64, .int .i64]]
  H := [(1, .blk 95 [.rs [.str], .rs Ivs, .int .i64, .int .i64, .int .i64, .int .i64, .rs [.int .i64, .int .i64], (.row 4), (.row 7), (.row 10), (.row 13), (.mp 16), (.row 19), .int .i64, .int .i64]), (4, .arr 63 Iv5), (7, .arr 3 [.int .i64]), (10, .arr 3 [.int .i64]), (13, .arr 3 [.int .i64]), (16, .mpI), (19, .arr 61 Iv4)]
  outs := [⟨false, .int .i64, [(1, .blk 95 [.rs [.str], .rs Ivs, .int .i64, .int .i64, .int .i64, .int .i64, .rs [.int .i64, .int .i64], (.row 63), (.row 7), (.row 10), (.row 13), (.mp 16), (.row 66), .int .i64, .int .i64]), (63, .arr 63 Iv5), (7, .arr 3 [.int .i64]), (10, .arr 3 [.int .i64]), (13, .arr 3 [.int .i64]), (16, .mpI), (66, .arr 61 Iv4)], false⟩]
  spec := sp_doX
def VCC_doX [W : InW] (n kind at_ xl xc xb xs xh xd xw xk xm : Int) (rl : Ro [.str]) (rc : Ro Ivs) (pr ex lo hi : Int) (rt : Ro [.int .i64, .int .i64]) (tm ev : Int) (ls km si ac : Dt) (es : List (Int × Int)) (ps : Dt) (K : Nat -> List Ed -> Prop) : Prop :=
  Pre True (Vif (!!Sp.out (0 : Int) (6 : Int) [[Cl.i kind]]) (K (0 : Nat) [.i (Int.ofNat (nat_lit 1 + (1 : Nat))), .ro _ rl, .ro _ rc, .i pr, .i ex, .i lo, .i hi, .ro _ rt, .i tm, .i ev, .l ls, .l km, .l si, .l ac, .m es, .l ps]) (Pre True (Vif (!!Sp.out tm (4800 : Int) [[Cl.i at_]]) (K (0 : Nat) [.i (Int.ofNat (nat_lit 6 + (1 : Nat))), .ro _ rl, .ro _ rc, .i pr, .i ex, .i lo, .i hi, .ro _ rt, .i tm, .i ev, .l ls, .l km, .l si, .l ac, .m es, .l ps]) (false = false /\ False))))
theorem vcc_doX (W : InW) (n kind at_ xl xc xb xs xh xd xw xk xm rl rc pr ex lo hi rt tm ev ls km si ac es ps K) : coreK (cxT Try.prog TT TP9 1000 50) 1000 68 [.ptr 1 0, .si .i64 n, .agg [.si .i64 kind, .si .i64 at_, .si .i64 xl, .si .i64 xc, .si .i64 xb, .si .i64 xs, .si .i64 xh, .si .i64 xd, .si .i64 xw, .si .i64 xk, .si .i64 xm]] [(1, .blk 95 [.rs _ rl, .rs _ rc, .si .i64 pr, .si .i64 ex, .si .i64 lo, .si .i64 hi, .rs _ rt, .rw 4, .rw 7, .rw 10, .rw 13, .mp 16, .rw 19, .si .i64 tm, .si .i64 ev]), (4, .arr 63 Iv5 ls), (7, .arr 3 [.int .i64] km), (10, .arr 3 [.int .i64] si), (13, .arr 3 [.int .i64] ac), (16, .obj (.mpI es)), (19, .arr 61 Iv4 ps)] (fun v h => outC cc_doX.H [.ro _ rl, .ro _ rc, .i pr, .i ex, .i lo, .i hi, .ro _ rt, .i tm, .i ev, .l ls, .l km, .l si, .l ac, .m es, .l ps] cc_doX.outs 0 false v h K) (fun v h => outC cc_doX.H [.ro _ rl, .ro _ rc, .i pr, .i ex, .i lo, .i hi, .ro _ rt, .i tm, .i ev, .l ls, .l km, .l si, .l ac, .m es, .l ps] cc_doX.outs 0 true v h K) = VCC_doX n kind at_ xl xc xb xs xh xd xw xk xm rl rc pr ex lo hi rt tm ev ls km si ac es ps K := by kernel_rfl
theorem okc_doX (hyp_ : ∀ (W : InW) (n : Int) (kind : Int) (at_ : Int) (xl : Int) (xc : Int) (xb : Int) (xs : Int) (xh : Int) (xd : Int) (xw : Int) (xk : Int) (xm : Int) (rl : Ro [.str]) (rc : Ro Ivs) (pr : Int) (ex : Int) (lo : Int) (hi : Int) (rt : Ro [.int .i64, .int .i64]) (tm : Int) (ev : Int) (ls : Dt) (km : Dt) (si : Dt) (ac : Dt) (es : List (Int × Int)) (ps : Dt) (K : Nat -> List Ed -> Prop), sp_doX [.i n, .i kind, .i at_, .i xl, .i xc, .i xb, .i xs, .i xh, .i xd, .i xw, .i xk, .i xm, .ro _ rl, .ro _ rc, .i pr, .i ex, .i lo, .i hi, .ro _ rt, .i tm, .i ev, .l ls, .l km, .l si, .l ac, .m es, .l ps] K -> VCC_doX n kind at_ xl xc xb xs xh xd xw xk xm rl rc pr ex lo hi rt tm ev ls km si ac es ps K) : ∀ W : InW, @CallC W Try.prog cc_doX :=
  CC.okOf (fun W => @TT W) (fun W => @TT_ok W) mixed_ok TP9 1000 50 cc_doX fun W n kind at_ xl xc xb xs xh xd xw xk xm rl rc pr ex lo hi rt tm ev ls km si ac es ps K hs => (vcc_doX W n kind at_ xl xc xb xs xh xd xw xk xm rl rc pr ex lo hi rt tm ev ls km si ac es ps K).mpr (hyp_ W n kind at_ xl xc xb xs xh xd xw xk xm rl rc pr ex lo hi rt tm ev ls km si ac es ps K hs)
theorem okdoX : ∀ W : InW, @CallC W Try.prog cc_doX := okc_doX fun W n kind at_ xl xc xb xs xh xd xw xk xm rl rc pr ex lo hi rt tm ev ls km si ac es ps K hs => by
  obtain ⟨h, hk⟩ := hs;unfold VCC_doX;simp only [out1, Bool.not_not, h];exact ⟨trivial, vif (fun _ => hk) fun e => by cases e⟩
open Go.RowKit
set_option maxRecDepth 100000
def sp_do [InW] (e : List Ed) (K : Nat -> List Ed -> Prop) : Prop := match e with
  | [.i n, .i kind, .i at_, .i xl, .i xc, .i xb, .i xs, .i xh, .i xd, .i xw, .i xk, .i xm, .ro _ rl, .ro _ rc, .i pr, .i ex, .i lo, .i hi, .ro _ rt, .i tm, .i ev, .l ls, .l km, .l si, .l ac, .m es, .l ps] =>
    Pre (Sp.Inv ⟨rl.xs, rc.xs, pr, ex, lo, hi, rt.xs⟩ ⟨ls, km, si, ac, es, ps, tm, ev⟩ n)
      (FinD K rl rc pr ex lo hi rt (Sp.doE ⟨rl.xs, rc.xs, pr, ex, lo, hi, rt.xs⟩ ⟨ls, km, si, ac, es, ps, tm, ev⟩ n ⟨kind, at_, xl, xc, xb, xs, xh, xd, xw, xk, xm⟩) (Sp.doB ⟨rl.xs, rc.xs, pr, ex, lo, hi, rt.xs⟩ ⟨ls, km, si, ac, es, ps, tm, ev⟩ n ⟨kind, at_, xl, xc, xb, xs, xh, xd, xw, xk, xm⟩))
  | _ => False
noncomputable def cc_do : CC where
  g := 68
  args := [.ptr 1 0, .int .i64, .agg [.int .i64, .int .i64, .int .i64, .int .i64, .int .i64, .int .i64, .int .i64, .int .i64, .int .i64, .int .i64, .int .i64]]
  H := cc_doX.H
  outs := cc_doX.outs
  spec := sp_do
theorem BigF.args [InW] {P : Program} {g : FuncId} {xs xs' : List AV} {ys : Heap} {pan : Bool} {v : AV} {ys' : Heap} (h : BigF P g xs ys pan v ys') (e : ∀ φ, AV.concL φ xs' = AV.concL φ xs) : BigF P g xs' ys pan v ys' := by
  intro φ w0 M R w hn hS;rw [e φ];exact h φ w0 M R w hn hS
theorem okdo : ∀ W : InW, @CallC W Try.prog cc_do := by
  intro W xs ys e1 e2 h1 h2 K hs;have key := allH_spec (M := fun ys e2 => InstH cc_doX.H ys e2 -> ∀ K, sp_do (e1 ++ e2) K -> ∃ j e o v r ys', K j e /\ cc_doX.outs[j]? = some o /\ insP o.val e = some (v, r) /\ insH o.H r = some (ys', []) /\ BigF Try.prog 68 xs ys o.pan v (match o.same with | true => ys | false => ys'))
    (allL_spec (M := fun xs e1 => AllH cc_doX.H fun ys e2 => InstH cc_doX.H ys e2 -> ∀ K, sp_do (e1 ++ e2) K -> ∃ j e o v r ys', K j e /\ cc_doX.outs[j]? = some o /\ insP o.val e = some (v, r) /\ insH o.H r = some (ys', []) /\ BigF Try.prog 68 xs ys o.pan v (match o.same with | true => ys | false => ys'))
      (ps := cc_do.args) ?_ h1) h2 h2 K hs
  · exact key
  · intro n kind at_ xl xc xb xs xh xd xw xk xm rl rc pr ex lo hi rt tm ev ls km si ac es ps hH K hs;obtain ⟨hI, hk⟩ := hs;have lit : ∀ (ys0 : Heap) (k : Int), kind = k -> (∀ xs', InstL [.ptr 1 0, .int .i64, .agg [.lit (.int .i64 k), .int .i64, .int .i64, .int .i64, .int .i64, .int .i64, .int .i64, .int .i64, .int .i64, .int .i64, .int .i64]] xs' [.i n, .i at_, .i xl, .i xc, .i xb, .i xs, .i xh, .i xd, .i xw, .i xk, .i xm] -> ∃ j e o v r ys', K j e /\ cc_doX.outs[j]? = some o /\ insP o.val e = some (v, r) /\ insH o.H r = some (ys', []) /\ BigF Try.prog 68 xs' ys0 o.pan v (match o.same with | true => ys0 | false => ys')) ->
        ∃ j e o v r ys', K j e /\ cc_doX.outs[j]? = some o /\ insP o.val e = some (v, r) /\ insH o.H r = some (ys', []) /\ BigF Try.prog 68 [.ptr 1 0, .si .i64 n, .agg [.si .i64 kind, .si .i64 at_, .si .i64 xl, .si .i64 xc, .si .i64 xb, .si .i64 xs, .si .i64 xh, .si .i64 xd, .si .i64 xw, .si .i64 xk, .si .i64 xm]] ys0 o.pan v (match o.same with | true => ys0 | false => ys') := by
      rintro ys0 k rfl h;obtain ⟨j, e, o, v, r, ys', a1, a2, a3, a4, a5⟩ := h [.ptr 1 0, .si .i64 n, .agg [.v (.int .i64 kind), .si .i64 at_, .si .i64 xl, .si .i64 xc, .si .i64 xb, .si .i64 xs, .si .i64 xh, .si .i64 xd, .si .i64 xw, .si .i64 xk, .si .i64 xm]] ⟨_, _, [], _, rfl, rfl, ⟨rfl, rfl⟩, ⟨_, _, [_], _, rfl, rfl, ⟨_, rfl, rfl⟩, ⟨_, _, _, [], rfl, (List.append_nil _).symm, ⟨_, rfl, ⟨_, _, [], _, rfl, rfl, ⟨rfl, rfl⟩, ⟨_, _, [_], _, rfl, rfl, ⟨_, rfl, rfl⟩, ⟨_, _, [_], _, rfl, rfl, ⟨_, rfl, rfl⟩, ⟨_, _, [_], _, rfl, rfl, ⟨_, rfl, rfl⟩, ⟨_, _, [_], _, rfl, rfl, ⟨_, rfl, rfl⟩, ⟨_, _, [_], _, rfl, rfl, ⟨_, rfl, rfl⟩, ⟨_, _, [_], _, rfl, rfl, ⟨_, rfl, rfl⟩, ⟨_, _, [_], _, rfl, rfl, ⟨_, rfl, rfl⟩, ⟨_, _, [_], _, rfl, rfl, ⟨_, rfl, rfl⟩, ⟨_, _, [_], _, rfl, rfl, ⟨_, rfl, rfl⟩, ⟨_, _, [_], _, rfl, rfl, ⟨_, rfl, rfl⟩, ⟨rfl, rfl⟩⟩⟩⟩⟩⟩⟩⟩⟩⟩⟩⟩⟩, ⟨rfl, rfl⟩⟩⟩⟩;exact ⟨j, e, o, v, r, ys', a1, a2, a3, a4, a5.args fun φ => rfl⟩
    by_cases hx : Sp.inr kind 0 6 = true
    · have hr := Sp.inr_iff.1 hx;have hc : kind = 0 \/ kind = 1 \/ kind = 2 \/ kind = 3 \/ kind = 4 \/ kind = 5 \/ kind = 6 := by omega
      rcases hc with e | e | e | e | e | e | e
      · exact lit _ 0 e fun xs' h => okdo0 W xs' _ _ _ h hH K (by subst e; exact ⟨hI, hk⟩)
      · exact lit _ 1 e fun xs' h => okdo1 W xs' _ _ _ h hH K (by subst e; exact ⟨hI, hk⟩)
      · exact lit _ 2 e fun xs' h => okdo2 W xs' _ _ _ h hH K (by subst e; exact ⟨hI, hk⟩)
      · exact lit _ 3 e fun xs' h => okdo3 W xs' _ _ _ h hH K (by subst e; exact ⟨hI, hk⟩)
      · exact lit _ 4 e fun xs' h => okdo4 W xs' _ _ _ h hH K (by subst e; exact ⟨hI, hk⟩)
      · exact lit _ 5 e fun xs' h => okdo5 W xs' _ _ _ h hH K (by subst e; exact ⟨hI, hk⟩)
      · exact lit _ 6 e fun xs' h => okdo6 W xs' _ _ _ h hH K (by subst e; exact ⟨hI, hk⟩)
    · have hx' : Sp.inr kind 0 6 = false := by simpa using hx
      refine okdoX W [.ptr 1 0, .si .i64 n, .agg [.si .i64 kind, .si .i64 at_, .si .i64 xl, .si .i64 xc, .si .i64 xb, .si .i64 xs, .si .i64 xh, .si .i64 xd, .si .i64 xw, .si .i64 xk, .si .i64 xm]] _ [.i n, .i kind, .i at_, .i xl, .i xc, .i xb, .i xs, .i xh, .i xd, .i xw, .i xk, .i xm] _ ?_ hH K ⟨hx', ?_⟩
      · exact ⟨_, _, [], _, rfl, rfl, ⟨rfl, rfl⟩, ⟨_, _, [_], _, rfl, rfl, ⟨_, rfl, rfl⟩, ⟨_, _, _, [], rfl, (List.append_nil _).symm, ⟨_, rfl, ⟨_, _, [_], _, rfl, rfl, ⟨_, rfl, rfl⟩, ⟨_, _, [_], _, rfl, rfl, ⟨_, rfl, rfl⟩, ⟨_, _, [_], _, rfl, rfl, ⟨_, rfl, rfl⟩, ⟨_, _, [_], _, rfl, rfl, ⟨_, rfl, rfl⟩, ⟨_, _, [_], _, rfl, rfl, ⟨_, rfl, rfl⟩, ⟨_, _, [_], _, rfl, rfl, ⟨_, rfl, rfl⟩, ⟨_, _, [_], _, rfl, rfl, ⟨_, rfl, rfl⟩, ⟨_, _, [_], _, rfl, rfl, ⟨_, rfl, rfl⟩, ⟨_, _, [_], _, rfl, rfl, ⟨_, rfl, rfl⟩, ⟨_, _, [_], _, rfl, rfl, ⟨_, rfl, rfl⟩, ⟨_, _, [_], _, rfl, rfl, ⟨_, rfl, rfl⟩, ⟨rfl, rfl⟩⟩⟩⟩⟩⟩⟩⟩⟩⟩⟩⟩⟩, ⟨rfl, rfl⟩⟩⟩⟩
      · unfold Sp.doE Sp.doB at hk;simp only [hx', Bool.not_false, if_true] at hk;exact hk
noncomputable def ce_do : CE Try.prog := ceOf cc_do okdo
open Go.RowKit
set_option maxRecDepth 100000
abbrev I5 : List Ty := [.int .i64, .int .i64, .int .i64, .int .i64, .int .i64]
noncomputable def T25 : Tab Try.prog := ⟨pc_booked :: pc_clear :: T22.pcs, [], []⟩
def VC_copied [W : InW] (b_Lessons : Ro Iv5) (b_Km b_Since b_Accounts : Ro [.int .i64]) (b_Weathers : Ro [.int .i64, .int .i64]) (b_Postings : Ro Iv4) (b_Time : Int) (Q : DS -> Prop) : Prop :=
  Need (decide (((0 : Nat) + b_Lessons.xs.length) * (40 : Nat) <= (140737488355328 : Nat))) (Need (decide (((0 : Nat) + b_Km.xs.length) * (8 : Nat) <= (140737488355328 : Nat))) (Need (decide (((0 : Nat) + b_Since.xs.length) * (8 : Nat) <= (140737488355328 : Nat))) (Need (decide (((0 : Nat) + b_Accounts.xs.length) * (8 : Nat) <= (140737488355328 : Nat))) (Need (decide (((0 : Nat) + b_Weathers.xs.length) * (16 : Nat) <= (140737488355328 : Nat))) (Need (decide (((0 : Nat) + b_Postings.xs.length) * (32 : Nat) <= (140737488355328 : Nat))) (Q [[Cl.l b_Lessons.xs, Cl.l b_Km.xs, Cl.l b_Since.xs, Cl.l b_Accounts.xs, Cl.l b_Weathers.xs, Cl.l b_Postings.xs, Cl.i b_Time]]))))))
theorem vc_copied (W : InW) (b_Lessons b_Km b_Since b_Accounts b_Weathers b_Postings b_Time Q) : bodyK (cxT Try.prog TT T25 1000 50) 1000 83 [.agg [.rs _ b_Lessons, .rs _ b_Km, .rs _ b_Since, .rs _ b_Accounts, .rs _ b_Weathers, .rs _ b_Postings, .si .i64 b_Time]] [] 0 (leafK [(true, [.row 63 I5, .row 3 [.int .i64], .row 3 [.int .i64], .row 3 [.int .i64], .row 133 [.int .i64, .int .i64], .row 61 Iv4, .int .i64])] Q) (fun _ _ _ _ => Stuck 421) = VC_copied b_Lessons b_Km b_Since b_Accounts b_Weathers b_Postings b_Time Q := by kernel_rfl
abbrev ats_copied : List AT := [.agg [.sl Iv5, .sl [.int .i64], .sl [.int .i64], .sl [.int .i64], .sl [.int .i64, .int .i64], .sl Iv4, .int .i64]]
theorem ok_copied {pre : DS -> Prop} {res : DS -> DS} (hyp_ : ∀ (W : InW) (b_Lessons : Ro Iv5) (b_Km : Ro [.int .i64]) (b_Since : Ro [.int .i64]) (b_Accounts : Ro [.int .i64]) (b_Weathers : Ro [.int .i64, .int .i64]) (b_Postings : Ro Iv4) (b_Time : Int), pre [[.l b_Lessons.xs, .l b_Km.xs, .l b_Since.xs, .l b_Accounts.xs, .l b_Weathers.xs, .l b_Postings.xs, .i b_Time]] -> ∀ Q : DS -> Prop, Q (res [[.l b_Lessons.xs, .l b_Km.xs, .l b_Since.xs, .l b_Accounts.xs, .l b_Weathers.xs, .l b_Postings.xs, .i b_Time]]) -> VC_copied b_Lessons b_Km b_Since b_Accounts b_Weathers b_Postings b_Time Q) : PureOk Try.prog 83 ats_copied [(true, [.row 63 I5, .row 3 [.int .i64], .row 3 [.int .i64], .row 3 [.int .i64], .row 133 [.int .i64, .int .i64], .row 61 Iv4, .int .i64])] pre res :=
  PureOk.of' (fun W => @TT W) (fun W => @TT_ok W) mixed_ok T25 1000 50 fun W b_Lessons b_Km b_Since b_Accounts b_Weathers b_Postings b_Time hp =>
    (vc_copied W b_Lessons b_Km b_Since b_Accounts b_Weathers b_Postings b_Time (fun o => o = res [[.l b_Lessons.xs, .l b_Km.xs, .l b_Since.xs, .l b_Accounts.xs, .l b_Weathers.xs, .l b_Postings.xs, .i b_Time]])).mpr (hyp_ W b_Lessons b_Km b_Since b_Accounts b_Weathers b_Postings b_Time hp _ rfl)
abbrev rs_copied : RTs := [(true, [.row 63 I5, .row 3 [.int .i64], .row 3 [.int .i64], .row 3 [.int .i64], .row 133 [.int .i64, .int .i64], .row 61 Iv4, .int .i64])]
abbrev res_copied (ds : DS) : DS := match ds with | [[.l ls, .l km, .l si, .l ac, .l ws, .l ps, .i tm]] => [[.l ls, .l km, .l si, .l ac, .l ws, .l ps, .i tm]] | _ => []
abbrev pre_copied (ds : DS) : Prop := match ds with | [[.l ls, .l km, .l si, .l ac, .l ws, .l ps, .i tm]] => ls.length <= 1000000 /\ km.length <= 1000000 /\ si.length <= 1000000 /\ ac.length <= 1000000 /\ ws.length <= 1000000 /\ ps.length <= 1000000 | _ => False
theorem okcopied : PureOk Try.prog 83 ats_copied rs_copied pre_copied res_copied :=
  ok_copied fun W ls km si ac ws ps tm hp Q hh => by
    obtain ⟨h1, h2, h3, h4, h5, h6⟩ := hp;unfold VC_copied;simp only [Nat.zero_add];refine nedd (by omega) (nedd (by omega) (nedd (by omega) (nedd (by omega) (nedd (by omega) (nedd (by omega) ?_)))));exact hh
noncomputable def pc_copied : PC Try.prog := ⟨83, ats_copied, rs_copied, pre_copied, res_copied, okcopied⟩
open Go.RowKit
set_option maxRecDepth 100000
namespace Sp
def kms (rc : Dt) : Nat -> Nat -> Dt
  | _, 0 => []
  | i, n + 1 => [.i (cel rc i 1).int] :: kms rc (i + 1) n
def zeros : Nat -> Dt
  | 0 => []
  | n + 1 => [.i 0] :: zeros n
end Sp
def sp_begin [InW] (e : List Ed) (K : Nat -> List Ed -> Prop) : Prop := match e with
  | [.i i, .ro _ rl, .ro _ rc, .i pr, .i ex, .i lo, .i hi, .ro _ rt, .l km, .l si] =>
    Pre (0 <= i /\ i <= (rc.xs.length : Int) /\ rc.xs.length <= 1000 /\ km.length <= i /\ si.length <= i) (K 0 [.ro _ rl, .ro _ rc, .i pr, .i ex, .i lo, .i hi, .ro _ rt, .l (km ++ Sp.kms rc.xs i.toNat (rc.xs.length - i.toNat)), .l (si ++ Sp.zeros (rc.xs.length - i.toNat))])
  | _ => False
def lc_begin : LC where
  len := 40
  T := [(1, (.ptr 1 0)), (3, (.ptr 4 0)), (4, .int .i64)]
  H := [(1, .blk 28 [.rs [.str], .rs Ivs, .int .i64, .int .i64, .int .i64, .int .i64, .rs [.int .i64, .int .i64]]), (4, .blk 98 [(.opq 25), (.row 6), (.row 9), (.opq 28), (.opq 31), (.opq 34), (.opq 37)]), (6, .arr 3 [.int .i64]), (9, .arr 3 [.int .i64])]
  W := [5, 6, 7, 8, 9, 10, 11, 12, 13, 14, 15, 16, 17, 18, 19, 20, 21, 22, 23, 24, 25, 26, 27, 28, 29, 30, 31]
  outs := [⟨.exit 0, [(1, (.ptr 1 0)), (3, (.ptr 4 0))], [(1, .blk 28 [.rs [.str], .rs Ivs, .int .i64, .int .i64, .int .i64, .int .i64, .rs [.int .i64, .int .i64]]), (4, .blk 98 [(.opq 25), (.row 12), (.row 15), (.opq 28), (.opq 31), (.opq 34), (.opq 37)]), (12, .arr 3 [.int .i64]), (15, .arr 3 [.int .i64])], [4, 5, 6, 7, 8, 9, 10, 11, 12, 13, 14, 15, 16, 17, 18, 19, 20, 21, 22, 23, 24, 25, 26, 27, 28, 29, 30, 31]⟩]
  spec := sp_begin
def VCL_begin [W : InW] (i : Int) (rl : Ro [.str]) (rc : Ro Ivs) (pr ex lo hi : Int) (rt : Ro [.int .i64, .int .i64]) (km si : Dt) (A : List Ed -> Prop) (K : Nat -> List Ed -> Prop) : Prop :=
  Vif (decide (i < (↑(rc.xs.length) : Int))) (Need (decide ((0 : Int) <= i) && decide (i < (↑(rc.xs.length) : Int))) (Need (decide (i.toNat < rc.xs.length)) (Need (decide ((km.length + [[Cl.i (cel rc.xs i.toNat (nat_lit 0 + (1 : Nat))).int]].length) * (8 : Nat) <= (140737488355328 : Nat))) (Need (decide ((si.length + [[Cl.i (0 : Int)]].length) * (8 : Nat) <= (140737488355328 : Nat))) (Ar .i64 (i + (1 : Int)) fun z => A [.i z, .ro _ rl, .ro _ rc, .i pr, .i ex, .i lo, .i hi, .ro _ rt, .l (km ++ [[Cl.i (cel rc.xs i.toNat (nat_lit 0 + (1 : Nat))).int]]), .l (si ++ [[Cl.i (0 : Int)]])]))))) (K (0 : Nat) [.ro _ rl, .ro _ rc, .i pr, .i ex, .i lo, .i hi, .ro _ rt, .l km, .l si])
theorem vcl_begin (W : InW) (i rl rc pr ex lo hi rt km si A K) : vcTop { cxT Try.prog TT T25 1000 50 with fn := 69 } 1000 (loopAt Try.prog 69 4) (tmOut 40 [(1, .ptr 1 0), (3, .ptr 4 0), (4, .si .i64 i)] [5, 6, 7, 8, 9, 10, 11, 12, 13, 14, 15, 16, 17, 18, 19, 20, 21, 22, 23, 24, 25, 26, 27, 28, 29, 30, 31]) [(1, .blk 28 [.rs _ rl, .rs _ rc, .si .i64 pr, .si .i64 ex, .si .i64 lo, .si .i64 hi, .rs _ rt]), (4, .blk 98 [.opq 25, .rw 6, .rw 9, .opq 28, .opq 31, .opq 34, .opq 37]), (6, .arr 3 [.int .i64] km), (9, .arr 3 [.int .i64] si)] (roundL lc_begin A K) = VCL_begin i rl rc pr ex lo hi rt km si A K := by kernel_rfl
def okLt_begin : Prop := ∀ (W : InW) (body a : Code), (Try.prog.funcs[69]?).bind (·.body) = some body -> a ∈ loopsIn body -> keyOf a = 4 -> @LoopOk W Try.prog a (@loopRun W lc_begin)
theorem okl_begin (meas : [InW] -> List Ed -> Nat) (hyp_ : ∀ (W : InW) (i : Int) (rl : Ro [.str]) (rc : Ro Ivs) (pr : Int) (ex : Int) (lo : Int) (hi : Int) (rt : Ro [.int .i64, .int .i64]) (km : Dt) (si : Dt) (K : Nat -> List Ed -> Prop), sp_begin [.i i, .ro _ rl, .ro _ rc, .i pr, .i ex, .i lo, .i hi, .ro _ rt, .l km, .l si] K -> ∀ A : List Ed -> Prop, (∀ e, meas e < meas [.i i, .ro _ rl, .ro _ rc, .i pr, .i ex, .i lo, .i hi, .ro _ rt, .l km, .l si] -> sp_begin e K -> A e) -> VCL_begin i rl rc pr ex lo hi rt km si A K) : okLt_begin :=
  LE.okOf' (fun W => @TT W) (fun W => @TT_ok W) mixed_ok T25 1000 50 (by kernel_rfl) lc_begin (fun W => @meas W) fun W i rl rc pr ex lo hi rt km si K hs =>
    (vcl_begin W i rl rc pr ex lo hi rt km si (fun e => meas e < meas [.i i, .ro _ rl, .ro _ rc, .i pr, .i ex, .i lo, .i hi, .ro _ rt, .l km, .l si] /\ sp_begin e K) K).mpr (hyp_ W i rl rc pr ex lo hi rt km si K hs _ fun e h1 h2 => ⟨h1, h2⟩)
theorem okLbegin : okLt_begin := okl_begin (fun e => match e with | .i i :: _ :: .ro _ rc :: _ => ((rc.xs.length : Int) - i).toNat | _ => 0) fun W i rl rc pr ex lo hi rt km si K hs A hA => by
  obtain ⟨⟨h0, h1, h2, h3, h4⟩, hk⟩ := hs;unfold VCL_begin;simp only [List.length_cons, List.length_nil, Nat.zero_add];refine vifd (fun e => ned (by simp; omega) (nedd (by omega) (nedd (by omega) (nedd (by omega) (ar64 (by omega) (hA _ ?_ ?_)))))) fun e => ?_
  · show ((rc.xs.length : Int) - (i + 1)).toNat < ((rc.xs.length : Int) - i).toNat
    omega
  · refine ⟨⟨by omega, by omega, h2, by simp; omega, by simp; omega⟩, ?_⟩;rw [show rc.xs.length - i.toNat = (rc.xs.length - (i.toNat + 1)) + 1 by omega] at hk;rw [show (i + 1).toNat = i.toNat + 1 by omega, List.append_assoc, List.append_assoc];exact hk
  · rw [show rc.xs.length - i.toNat = 0 by omega] at hk;simp only [Sp.kms, Sp.zeros, List.append_nil] at hk;exact hk
noncomputable def le_begin : LE Try.prog := ⟨69, 4, fun W => @loopRun W lc_begin, okLbegin⟩
noncomputable def T26 : Tab Try.prog := ⟨T25.pcs, [le_begin], []⟩
def VC_begin [W : InW] (s_Learners : Ro [.str]) (s_Cars : Ro Ivs) (s_Price s_Excess s_Lo s_Hi : Int) (s_Terms : Ro [.int .i64, .int .i64]) (Q : DS -> Prop) : Prop :=
  Pre ((0 : Int) <= (0 : Int) /\ (0 : Int) <= (↑(s_Cars.xs.length) : Int) /\ s_Cars.xs.length <= (1000 : Nat) /\ (↑(0 : Nat) : Int) <= (0 : Int) /\ (↑(0 : Nat) : Int) <= (0 : Int)) (Ar .i64 ((↑(s_Learners.xs.length) : Int) + (4 : Int)) fun z => Need (decide (z = z) && decide ((0 : Int) <= z) && decide ((8 : Nat) * z.toNat <= (281474976710656 : Nat))) (Q [[Cl.l [], Cl.l (Sp.kms s_Cars.xs (Int.toNat (0 : Int)) (s_Cars.xs.length - Int.toNat (0 : Int))), Cl.l (Sp.zeros (s_Cars.xs.length - Int.toNat (0 : Int))), Cl.l (List.replicate z.toNat (zeroCls [Ty.int IntKind.i64])), Cl.l [], Cl.l [], Cl.i (0 : Int)]]))
theorem vc_begin (W : InW) (s_Learners s_Cars s_Price s_Excess s_Lo s_Hi s_Terms Q) : bodyK (cxT Try.prog TT T26 1000 50) 1000 69 [.agg [.rs _ s_Learners, .rs _ s_Cars, .si .i64 s_Price, .si .i64 s_Excess, .si .i64 s_Lo, .si .i64 s_Hi, .rs _ s_Terms]] [] 0 (leafK [(true, [.row 63 I5, .row 3 [.int .i64], .row 3 [.int .i64], .row 3 [.int .i64], .row 133 [.int .i64, .int .i64], .row 61 Iv4, .int .i64])] Q) (fun _ _ _ _ => Stuck 421) = VC_begin s_Learners s_Cars s_Price s_Excess s_Lo s_Hi s_Terms Q := by kernel_rfl
abbrev ats_begin : List AT := [.agg [.sl [.str], .sl Ivs, .int .i64, .int .i64, .int .i64, .int .i64, .sl [.int .i64, .int .i64]]]
theorem ok_begin {pre : DS -> Prop} {res : DS -> DS} (hyp_ : ∀ (W : InW) (s_Learners : Ro [.str]) (s_Cars : Ro Ivs) (s_Price : Int) (s_Excess : Int) (s_Lo : Int) (s_Hi : Int) (s_Terms : Ro [.int .i64, .int .i64]), pre [[.l s_Learners.xs, .l s_Cars.xs, .i s_Price, .i s_Excess, .i s_Lo, .i s_Hi, .l s_Terms.xs]] -> ∀ Q : DS -> Prop, Q (res [[.l s_Learners.xs, .l s_Cars.xs, .i s_Price, .i s_Excess, .i s_Lo, .i s_Hi, .l s_Terms.xs]]) -> VC_begin s_Learners s_Cars s_Price s_Excess s_Lo s_Hi s_Terms Q) : PureOk Try.prog 69 ats_begin [(true, [.row 63 I5, .row 3 [.int .i64], .row 3 [.int .i64], .row 3 [.int .i64], .row 133 [.int .i64, .int .i64], .row 61 Iv4, .int .i64])] pre res :=
  PureOk.of' (fun W => @TT W) (fun W => @TT_ok W) mixed_ok T26 1000 50 fun W s_Learners s_Cars s_Price s_Excess s_Lo s_Hi s_Terms hp =>
    (vc_begin W s_Learners s_Cars s_Price s_Excess s_Lo s_Hi s_Terms (fun o => o = res [[.l s_Learners.xs, .l s_Cars.xs, .i s_Price, .i s_Excess, .i s_Lo, .i s_Hi, .l s_Terms.xs]])).mpr (hyp_ W s_Learners s_Cars s_Price s_Excess s_Lo s_Hi s_Terms hp _ rfl)
abbrev rs_begin : RTs := [(true, [.row 63 I5, .row 3 [.int .i64], .row 3 [.int .i64], .row 3 [.int .i64], .row 133 [.int .i64, .int .i64], .row 61 Iv4, .int .i64])]
abbrev res_begin (ds : DS) : DS := match ds with | [[.l rl, .l rc, _, _, _, _, _]] => [[.l [], .l (Sp.kms rc 0 rc.length), .l (Sp.zeros rc.length), .l (List.replicate (rl.length + 4) [.i 0]), .l [], .l [], .i 0]] | _ => []
abbrev pre_begin (ds : DS) : Prop := match ds with | [[.l rl, .l rc, _, _, _, _, _]] => rl.length <= 1000 /\ rc.length <= 1000 | _ => False
theorem okbegin : PureOk Try.prog 69 ats_begin rs_begin pre_begin res_begin :=
  ok_begin fun W rl rc _ _ _ _ _ hp Q hh => by
    obtain ⟨h1, h2⟩ := hp;unfold VC_begin;rw [show Int.toNat 0 = 0 from rfl, Nat.sub_zero];refine ⟨⟨by omega, by omega, h2, by omega, by omega⟩, ar64 (by omega) (ned (by simp; omega) ?_)⟩;rw [show ((rl.xs.length : Int) + 4).toNat = rl.xs.length + 4 by omega];exact hh
noncomputable def pc_begin : PC Try.prog := ⟨69, ats_begin, rs_begin, pre_begin, res_begin, okbegin⟩
open Go.RowKit
set_option maxRecDepth 100000
noncomputable def TPa : Tab Try.prog := ⟨[pc_bCheck], [], []⟩
def sp_open [InW] (e : List Ed) (K : Nat -> List Ed -> Prop) : Prop := match e with
  | [.ro _ rc0, .i nc, .i i, .ro _ rl, .ro _ rc, .i pr, .i ex, .i lo, .i hi, .ro _ rt, .l km] =>
    Pre (nc = (rc0.xs.length : Int) /\ 0 <= i /\ i <= (rc0.xs.length : Int) /\ rc0.xs.length <= 1000 /\ km.length <= i) (K 0 [.ro _ rl, .ro _ rc, .i pr, .i ex, .i lo, .i hi, .ro _ rt, .l (km ++ Sp.kms rc0.xs i.toNat (rc0.xs.length - i.toNat))])
  | _ => False
noncomputable def lc_open : LC where
  len := 66
  T := [(2, (.ptr 1 0)), (9, (.ptr 4 0)), (28, .rs Ivs), (29, .int .i64), (30, .int .i64)]
  H := [(1, .blk 28 [.rs [.str], .rs Ivs, .int .i64, .int .i64, .int .i64, .int .i64, .rs [.int .i64, .int .i64]]), (4, .blk 95 [(.opq 1021), (.opq 1024), (.opq 1027), (.opq 1030), (.opq 1033), (.opq 1036), (.opq 1039), (.opq 1042), (.row 6), (.opq 1045), (.opq 1048), (.opq 1051), (.opq 1054), (.opq 1057), (.opq 1060)]), (6, .arr 3 [.int .i64])]
  W := [11, 31, 32, 33, 34, 35, 36, 37, 38, 39, 40, 41, 42, 43, 44, 45, 46, 47]
  outs := [⟨.exit 0, [(2, (.ptr 1 0)), (9, (.ptr 4 0))], [(1, .blk 28 [.rs [.str], .rs Ivs, .int .i64, .int .i64, .int .i64, .int .i64, .rs [.int .i64, .int .i64]]), (4, .blk 95 [(.opq 1021), (.opq 1024), (.opq 1027), (.opq 1030), (.opq 1033), (.opq 1036), (.opq 1039), (.opq 1042), (.row 9), (.opq 1045), (.opq 1048), (.opq 1051), (.opq 1054), (.opq 1057), (.opq 1060)]), (9, .arr 3 [.int .i64])], [11, 28, 29, 30, 31, 32, 33, 34, 35, 36, 37, 38, 39, 40, 41, 42, 43, 44, 45, 46, 47]⟩]
  spec := sp_open
def VCL_open [W : InW] (rc0 : Ro Ivs) (nc i : Int) (rl : Ro [.str]) (rc : Ro Ivs) (pr ex lo hi : Int) (rt : Ro [.int .i64, .int .i64]) (km : Dt) (A : List Ed -> Prop) (K : Nat -> List Ed -> Prop) : Prop :=
  Vif (decide (i < nc)) (Need (decide ((0 : Int) <= i) && decide (i < (↑(rc0.xs.length) : Int))) (Need (decide (i.toNat < rc0.xs.length)) (Need (decide ((km.length + [[Cl.i (cel rc0.xs i.toNat (0+1 : Nat)).int]].length) * (8 : Nat) <= (140737488355328 : Nat))) (Ar .i64 (i + (1 : Int)) fun z => A [.ro _ rc0, .i nc, .i z, .ro _ rl, .ro _ rc, .i pr, .i ex, .i lo, .i hi, .ro _ rt, .l (km ++ [[Cl.i (cel rc0.xs i.toNat (0+1 : Nat)).int]])])))) (K (0 : Nat) [.ro _ rl, .ro _ rc, .i pr, .i ex, .i lo, .i hi, .ro _ rt, .l km])
theorem vcl_open (W : InW) (rc0 nc i rl rc pr ex lo hi rt km A K) : vcTop { cxT Try.prog TT TPa 1000 50 with fn := 67 } 1000 (loopAt Try.prog 67 9) (tmOut 66 [(2, .ptr 1 0), (9, .ptr 4 0), (28, .rs _ rc0), (29, .si .i64 nc), (30, .si .i64 i)] [11, 31, 32, 33, 34, 35, 36, 37, 38, 39, 40, 41, 42, 43, 44, 45, 46, 47]) [(1, .blk 28 [.rs _ rl, .rs _ rc, .si .i64 pr, .si .i64 ex, .si .i64 lo, .si .i64 hi, .rs _ rt]), (4, .blk 95 [.opq 1021, .opq 1024, .opq 1027, .opq 1030, .opq 1033, .opq 1036, .opq 1039, .opq 1042, .rw 6, .opq 1045, .opq 1048, .opq 1051, .opq 1054, .opq 1057, .opq 1060]), (6, .arr 3 [.int .i64] km)] (roundL lc_open A K) = VCL_open rc0 nc i rl rc pr ex lo hi rt km A K := by kernel_rfl
def okLt_open : Prop := ∀ (W : InW) (body a : Code), (Try.prog.funcs[67]?).bind (·.body) = some body -> a ∈ loopsIn body -> keyOf a = 9 -> @LoopOk W Try.prog a (@loopRun W lc_open)
theorem okl_open (meas : [InW] -> List Ed -> Nat) (hyp_ : ∀ (W : InW) (rc0 : Ro Ivs) (nc : Int) (i : Int) (rl : Ro [.str]) (rc : Ro Ivs) (pr : Int) (ex : Int) (lo : Int) (hi : Int) (rt : Ro [.int .i64, .int .i64]) (km : Dt) (K : Nat -> List Ed -> Prop), sp_open [.ro _ rc0, .i nc, .i i, .ro _ rl, .ro _ rc, .i pr, .i ex, .i lo, .i hi, .ro _ rt, .l km] K -> ∀ A : List Ed -> Prop, (∀ e, meas e < meas [.ro _ rc0, .i nc, .i i, .ro _ rl, .ro _ rc, .i pr, .i ex, .i lo, .i hi, .ro _ rt, .l km] -> sp_open e K -> A e) -> VCL_open rc0 nc i rl rc pr ex lo hi rt km A K) : okLt_open :=
  LE.okOf' (fun W => @TT W) (fun W => @TT_ok W) mixed_ok TPa 1000 50 (by kernel_rfl) lc_open (fun W => @meas W) fun W rc0 nc i rl rc pr ex lo hi rt km K hs =>
    (vcl_open W rc0 nc i rl rc pr ex lo hi rt km (fun e => meas e < meas [.ro _ rc0, .i nc, .i i, .ro _ rl, .ro _ rc, .i pr, .i ex, .i lo, .i hi, .ro _ rt, .l km] /\ sp_open e K) K).mpr (hyp_ W rc0 nc i rl rc pr ex lo hi rt km K hs _ fun e h1 h2 => ⟨h1, h2⟩)
theorem okLopen : okLt_open := okl_open (fun e => match e with | .ro _ rc :: _ :: .i i :: _ => ((rc.xs.length : Int) - i).toNat | _ => 0) fun W rc0 nc i rl rc pr ex lo hi rt km K hs A hA => by
  obtain ⟨⟨rfl, h0, h1, h2, h3⟩, hk⟩ := hs;unfold VCL_open;simp only [List.length_cons, List.length_nil, Nat.zero_add];refine vifd (fun e => ned (by simp; omega) (nedd (by omega) (nedd (by omega) (ar64 (by omega) (hA _ ?_ ?_))))) fun e => ?_
  · show ((rc0.xs.length : Int) - (i + 1)).toNat < ((rc0.xs.length : Int) - i).toNat
    omega
  · refine ⟨⟨rfl, by omega, by omega, h2, by simp; omega⟩, ?_⟩;rw [show rc0.xs.length - i.toNat = (rc0.xs.length - (i.toNat + 1)) + 1 by omega] at hk;rw [show (i + 1).toNat = i.toNat + 1 by omega, List.append_assoc];exact hk
  · rw [show rc0.xs.length - i.toNat = 0 by omega] at hk;simp only [Sp.kms, List.append_nil] at hk;exact hk
noncomputable def le_open : LE Try.prog := ⟨67, 9, fun W => @loopRun W lc_open, okLopen⟩
noncomputable def TPb : Tab Try.prog := ⟨[pc_bCheck], [le_open], []⟩
def sp_open67 [InW] (e : List Ed) (K : Nat -> List Ed -> Prop) : Prop := match e with
  | [.ro _ rl, .ro _ rc, .i pr, .i ex, .i lo, .i hi, .ro _ rt, .i n] => Pre (0 <= n) (Vif (decide (Sp.chkE rl.xs rc.xs pr ex lo hi rt.xs = 0))
      (Vif (decide (60 < n)) (K 0 [.i 3])
        (K 1 [.ro _ rl, .ro _ rc, .i pr, .i ex, .i lo, .i hi, .ro _ rt, .i 0, .i 0, .l [], .l (Sp.kms rc.xs 0 rc.xs.length), .l (List.replicate rc.xs.length [.i 0]), .l (List.replicate (rl.xs.length + 4) [.i 0]), .m [], .l []]))
      (K 0 [.i (Sp.chkE rl.xs rc.xs pr ex lo hi rt.xs)]))
  | _ => False
noncomputable def cc_open67 : CC where
  g := 67
  args := [.agg [.rs [.str], .rs Ivs, .int .i64, .int .i64, .int .i64, .int .i64, .rs [.int .i64, .int .i64]], .int .i64]
  H := []
  outs := [⟨false, .tup [(.lit (.pointer none)), .int .i64], [], false⟩, ⟨false, .tup [(.ptr 6 0), (.lit (.int .i64 0))], [(6, .blk 95 [.rs [.str], .rs Ivs, .int .i64, .int .i64, .int .i64, .int .i64, .rs [.int .i64, .int .i64], (.row 9), (.row 12), (.row 15), (.row 18), (.mp 21), (.row 24), .int .i64, .int .i64]), (9, .arr 63 Iv5), (12, .arr 3 [.int .i64]), (15, .arr 3 [.int .i64]), (18, .arr 3 [.int .i64]), (21, .mpI), (24, .arr 61 Iv4)], false⟩]
  spec := sp_open67
def VCC_open67 [W : InW] (rl : Ro [.str]) (rc : Ro Ivs) (pr ex lo hi : Int) (rt : Ro [.int .i64, .int .i64]) (n : Int) (K : Nat -> List Ed -> Prop) : Prop :=
  Pre True (Vif (!decide (Sp.chkE rl.xs rc.xs pr ex lo hi rt.xs = (0 : Int))) (K (0 : Nat) [.i (Sp.chkE rl.xs rc.xs pr ex lo hi rt.xs)]) (Vif (decide ((60 : Int) < n)) (K (0 : Nat) [.i (3 : Int)]) (Pre ((↑(rc.xs.length) : Int) = (↑(rc.xs.length) : Int) /\ (0 : Int) <= (0 : Int) /\ (0 : Int) <= (↑(rc.xs.length) : Int) /\ rc.xs.length <= (1000 : Nat) /\ (↑(0 : Nat) : Int) <= (0 : Int)) (Need (decide ((↑(rc.xs.length) : Int) = (↑(rc.xs.length) : Int)) && decide ((0 : Int) <= (↑(rc.xs.length) : Int)) && decide ((8 : Nat) * (↑(rc.xs.length) : Int).toNat <= (281474976710656 : Nat))) (Ar .i64 ((↑(rl.xs.length) : Int) + (4 : Int)) fun z => Need (decide (z = z) && decide ((0 : Int) <= z) && decide ((8 : Nat) * z.toNat <= (281474976710656 : Nat))) (K (0+1 : Nat) [.ro _ rl, .ro _ rc, .i pr, .i ex, .i lo, .i hi, .ro _ rt, .i (0 : Int), .i (0 : Int), .l [], .l (Sp.kms rc.xs (Int.toNat (0 : Int)) (rc.xs.length - Int.toNat (0 : Int))), .l (List.replicate (↑(rc.xs.length) : Int).toNat (zeroCls [Ty.int IntKind.i64])), .l (List.replicate z.toNat (zeroCls [Ty.int IntKind.i64])), .m [], .l []]))))))
theorem vcc_open67 (W : InW) (rl rc pr ex lo hi rt n K) : coreK (cxT Try.prog TT TPb 1000 50) 1000 67 [.agg [.rs _ rl, .rs _ rc, .si .i64 pr, .si .i64 ex, .si .i64 lo, .si .i64 hi, .rs _ rt], .si .i64 n] [] (fun v h => outC cc_open67.H [] cc_open67.outs 0 false v h K) (fun v h => outC cc_open67.H [] cc_open67.outs 0 true v h K) = VCC_open67 rl rc pr ex lo hi rt n K := by kernel_rfl
theorem okc_open67 (hyp_ : ∀ (W : InW) (rl : Ro [.str]) (rc : Ro Ivs) (pr : Int) (ex : Int) (lo : Int) (hi : Int) (rt : Ro [.int .i64, .int .i64]) (n : Int) (K : Nat -> List Ed -> Prop), sp_open67 [.ro _ rl, .ro _ rc, .i pr, .i ex, .i lo, .i hi, .ro _ rt, .i n] K -> VCC_open67 rl rc pr ex lo hi rt n K) : ∀ W : InW, @CallC W Try.prog cc_open67 :=
  CC.okOf (fun W => @TT W) (fun W => @TT_ok W) mixed_ok TPb 1000 50 cc_open67 fun W rl rc pr ex lo hi rt n K hs => (vcc_open67 W rl rc pr ex lo hi rt n K).mpr (hyp_ W rl rc pr ex lo hi rt n K hs)
theorem okopen67 : ∀ W : InW, @CallC W Try.prog cc_open67 := okc_open67 fun W rl rc pr ex lo hi rt n K hs => by
  obtain ⟨hn, hk⟩ := hs;unfold VCC_open67;refine ⟨trivial, vif (fun e => ?_) fun e => ?_⟩
  · exact hk.2 (by simpa using e)
  · have e1 : Sp.chkE rl.xs rc.xs pr ex lo hi rt.xs = 0 := by simpa using e
    have ho := chk_ok e1;have k1 := hk.1 (by simpa using e1);have h1 := ho.learners;have h2 := ho.cars;refine vif k1.1 fun e2 => ⟨⟨rfl, by omega, by omega, by omega, by omega⟩, ned (by simp; omega) (ar64 (by omega) (ned (by simp; omega) ?_))⟩;have := k1.2 e2;rw [show ((rc.xs.length : Int)).toNat = rc.xs.length by omega, show ((rl.xs.length : Int) + 4).toNat = rl.xs.length + 4 by omega];exact this
noncomputable def ce_open67 : CE Try.prog := ceOf cc_open67 okopen67
namespace Sp
theorem cel_addA (a : Dt) (i c : Int) (j : Nat) : (cel (addA a i c) j 0).int = (cel a j 0).int + if i.toNat = j /\ i.toNat < a.length then c else 0 := by
  unfold addA;rw [cel_set]
  split
  · rename_i h; rw [h.1]; rfl
  · omega
theorem cel_postA (a : Dt) (s d c : Int) (j : Nat) : (cel (postA a s d c) j 0).int = (cel a j 0).int + (if s.toNat = j /\ s.toNat < a.length then -c else 0) + (if d.toNat = j /\ d.toNat < a.length then c else 0) := by
  unfold postA
  split
  · rename_i h; subst h; split <;> split <;> omega
  · rw [cel_addA, cel_addA, addA_len]
theorem postA_in {a : Dt} {s d c M : Int} (h : ∀ j, -M <= (cel a j 0).int /\ (cel a j 0).int <= M) (hc : 0 <= c /\ c <= 10000000) : ∀ j, -(M + 20000000) <= (cel (postA a s d c) j 0).int /\ (cel (postA a s d c) j 0).int <= M + 20000000 := fun j => by
  rw [cel_postA];have := h j
  split <;> split <;> omega
theorem setSt_len (ls : Dt) (i st : Int) : (setSt ls i st).length = ls.length := by simp [setSt]
theorem cel_setSt (ls : Dt) (i st : Int) (j k : Nat) (hk : k < 4) : cel (setSt ls i st) j k = cel ls j k := by
  unfold setSt
  by_cases h : i.toNat < ls.length
  · obtain ⟨r, hr, hg, hc⟩ := row_of h;rw [hg]
    by_cases hj : i.toNat = j
    · subst hj; exact hc _ _ hk
    · rw [cel_set, if_neg (fun h => hj h.1)]
  · rw [List.set_eq_of_length_le (by omega)]
theorem getI_setI : ∀ (es : List (Int × Int)) (k v d : Int), getI (setI es k v) d = if k = d then v else getI es d
  | [], k, v, d => by simp [setI, getI]
  | p :: es, k, v, d => by
    unfold setI
    split
    · rename_i e
      by_cases h : k = d
      · simp [getI, h]
      · simp [getI, h, e]
    · rename_i e
      by_cases h : p.1 = d
      · have : k ≠ d := fun x => e (by rw [h, x]);simp [getI, h, this]
      · simp only [getI, h, if_false, getI_setI es k v d]
theorem orI_in : ∀ (m : Fin 256) (w : Fin 8), 0 <= orI .i64 ((m.1 : Nat) : Int) (2 ^ w.1) /\ orI .i64 ((m.1 : Nat) : Int) (2 ^ w.1) <= 255 := by decide +kernel
theorem seeE_in {es : List (Int × Int)} {x w : Int} (h : ∀ d, 0 <= getI es d /\ getI es d <= 255) (hw : 0 <= w /\ w <= 7) : ∀ d, 0 <= getI (seeE es x w) d /\ getI (seeE es x w) d <= 255 := fun d => by
  unfold seeE;rw [getI_setI]
  split
  · have h1 := h x;have := orI_in ⟨(getI es x).toNat, by omega⟩ ⟨w.toNat, by omega⟩;simpa [Int.toNat_of_nonneg h1.1] using this
  · exact h d
theorem weatherL_in {rc : Dt} {es : List (Int × Int)} {x : Evt} : ∀ (n : Nat) (i : Int) (ls : Dt), 0 <= i -> i + n <= ls.length -> WOk rc ls ->
    (weatherL rc es x n i ls).length = ls.length /\ WOk rc (weatherL rc es x n i ls) /\ ∀ j, (cel (weatherL rc es x n i ls) j 0).int = (cel ls j 0).int
  | 0, i, ls, _, _, h => ⟨rfl, h, fun j => rfl⟩
  | n + 1, i, ls, h0, h1, h => by
    unfold weatherL
    by_cases e : hit rc ls i x = true
    · rw [if_pos e];have hm := h.move (es := es) h0 (by omega);obtain ⟨a, b, c⟩ := weatherL_in n (i + 1) (moveL rc ls es i) (by omega) (by rw [moveL_len]; omega) hm;refine ⟨by rw [a, moveL_len], b, fun j => ?_⟩;rw [c];rcases moveL_cel (es := es) (h.row h0 (by omega)) j with ⟨a, _⟩ | ⟨_, a, _⟩
      · rw [a]
      · exact a
    · rw [if_neg e];exact weatherL_in n (i + 1) ls (by omega) (by omega) h
theorem Inv.up {s : Sch} {b : Bks} {n : Int} (h : Inv s b n) (hn : n + 1 <= 60) : Inv s b (n + 1) := by
  have h0 := h.nn;refine ⟨by omega, h.sch, h.never, by have := h.many; omega, h.ls, ⟨h.km.1, fun j hj => ?_⟩, ⟨h.si.1, fun j hj => ?_⟩, ⟨h.ac.1, fun j => ?_⟩, by have := h.ps; omega, h.tm, h.es⟩
  · have := h.km.2 j hj; omega
  · have := h.si.2 j hj; omega
  · have := h.ac.2 j; omega
theorem canE_ok {rl rc : Dt} {lo hi : Int} {ls : Dt} {es : List (Int × Int)} {at_ l c s h : Int} (e : canE rl rc lo hi ls es at_ l c s h = 0) :
    (0 <= l /\ l < rl.length) /\ (0 <= c /\ c < rc.length) /\ (0 <= s /\ s <= 4800) /\ (1 <= h /\ h <= 4) /\ at_ < s /\ fits lo hi s h = true /\ dryB rc es c s = true /\ blocked ls (-1) l c s h 0 ls.length = false := by
  unfold canE at e
  split at e
  · cases e
  rename_i e1
  split at e
  · cases e
  rename_i e2
  split at e
  · cases e
  rename_i e3
  split at e
  · cases e
  rename_i e4
  split at e
  · cases e
  rename_i e5
  split at e
  · cases e
  rename_i e6;simp only [Bool.not_eq_true, Bool.not_eq_false', Bool.and_eq_true, inr_iff] at e1 e2 e4 e5 e6;exact ⟨by omega, by omega, by omega, by omega, by omega, e4, e5, e6⟩
theorem hasB_iff {ls : Dt} {i st : Int} : hasB ls i st = true ↔ (0 <= i /\ i < ls.length) /\ (cel ls i.toNat 4).int = st := by
  unfold hasB;rw [Bool.and_eq_true, inr_iff, decide_eq_true_eq];omega
theorem err_ok {s : Sch} {b : Bks} {x : Evt} (hk : inr x.kind 0 6 = true) (e : err s b x = 0) :
    (x.kind = 0 /\ canE s.rl s.rc s.lo s.hi b.ls b.es x.at_ x.l x.c x.s x.h = 0) \/
    (x.kind = 1 /\ hasB b.ls x.b 0 = true /\ x.at_ < (cel b.ls x.b.toNat 2).int) \/
    (x.kind = 2 /\ (0 <= x.d /\ x.d <= 200) /\ (0 <= x.w /\ x.w <= 7)) \/
    (x.kind = 3 /\ hasB b.ls x.b 0 = true /\ (cel b.ls x.b.toNat 2).int + (cel b.ls x.b.toNat 3).int <= x.at_ /\ (0 <= x.k /\ x.k <= 400) /\ (cel b.si (cel b.ls x.b.toNat 1).int.toNat 0).int <= (cel s.rc (cel b.ls x.b.toNat 1).int.toNat 2).int) \/
    (x.kind = 4 /\ (0 <= x.c /\ x.c < s.rc.length) /\ (0 <= x.m /\ x.m <= 10000000)) \/
    (x.kind = 5 /\ hasB b.ls x.b 2 = true /\ (0 <= x.m /\ x.m <= 10000000)) \/
    (x.kind = 6 /\ (0 <= x.l /\ x.l < s.rl.length) /\ (0 <= x.m /\ x.m <= 10000000)) := by
  rw [inr_iff] at hk;unfold err at e
  split at e
  · rename_i h; exact .inl ⟨h, e⟩
  refine .inr ?_
  split at e
  · rename_i h
    split at e
    · cases e
    rename_i h1
    split at e
    · rename_i h2; exact .inl ⟨h, by simpa using h1, h2⟩
    · cases e
  refine .inr ?_
  split at e
  · rename_i h
    split at e
    · rename_i h1;rw [Bool.and_eq_true, inr_iff, inr_iff] at h1;exact .inl ⟨h, h1.1, h1.2⟩
    · cases e
  refine .inr ?_
  split at e
  · rename_i h
    split at e
    · cases e
    rename_i h1
    split at e
    · cases e
    split at e
    · cases e
    rename_i h3
    split at e
    · cases e
    rename_i h4;simp only [Bool.not_eq_true, Bool.not_eq_false', inr_iff] at h1 h3;exact .inl ⟨h, h1, by omega, h3, by omega⟩
  refine .inr ?_
  split at e
  · rename_i h
    split at e
    · cases e
    rename_i h1
    split at e
    · cases e
    rename_i h2;simp only [Bool.not_eq_true, Bool.not_eq_false', inr_iff] at h1 h2;exact .inl ⟨h, by omega, h2⟩
  refine .inr ?_
  split at e
  · rename_i h
    split at e
    · cases e
    rename_i h1
    split at e
    · cases e
    rename_i h2;simp only [Bool.not_eq_true, Bool.not_eq_false', inr_iff] at h1 h2;exact .inl ⟨h, h1, h2⟩
  refine .inr ?_
  split at e
  · cases e
  rename_i h1
  split at e
  · cases e
  rename_i h2;simp only [Bool.not_eq_true, Bool.not_eq_false', inr_iff] at h1 h2;exact ⟨by omega, by omega, h2⟩
theorem price_in {s : Sch} (hs : s.Ok) {h : Int} (hh : 1 <= h /\ h <= 4) : 0 <= h * s.pr /\ h * s.pr <= 40000 := by
  have hp := hs.price;exact ⟨Int.mul_nonneg (by omega) (by omega), Int.mul_le_mul hh.2 hp.2 (by omega) (by omega)⟩
theorem Inv.posted' {s : Sch} {b : Bks} {n : Int} (hu : Inv s b (n + 1)) (ha : ∀ j, -(40000000 * n) <= (cel b.ac j 0).int /\ (cel b.ac j 0).int <= 40000000 * n) (hq : (b.ps.length : Int) <= 2 * n) {c : Int} {u v : Int} (hc : 0 <= c /\ c <= 10000000) : Inv s (b.post u v c) (n + 1) := by
  have hp := postP_len b.ps b.ev u v c;refine ⟨hu.nn, hu.sch, hu.never, hu.many, hu.ls, hu.km, hu.si, ⟨?_, fun j => ?_⟩, ?_, hu.tm, hu.es⟩
  · show (postA b.ac u v c).length = _
    rw [postA_len]; exact hu.ac.1
  · have := postA_in (s := u) (d := v) (M := 40000000 * n) ha hc j
    show _ <= (cel (postA b.ac u v c) j 0).int /\ (cel (postA b.ac u v c) j 0).int <= _
    omega
  · show ((postP b.ps b.ev u v c).length : Int) <= _
    omega
theorem Inv.posted {s : Sch} {b : Bks} {n : Int} (h : Inv s b n) {c : Int} (hn : n + 1 <= 60) {u v : Int} (hc : 0 <= c /\ c <= 10000000) : Inv s (b.post u v c) (n + 1) :=
  (h.up hn).posted' (fun j => by have := h.ac.2 j; omega) h.ps hc
theorem Inv.posted2 {s : Sch} {b : Bks} {n : Int} (h : Inv s b n) {c c2 : Int} (hn : n + 1 <= 60) {u v u2 v2 : Int} (hc : 0 <= c /\ c <= 10000000) (hc2 : 0 <= c2 /\ c2 <= 10000000) : Inv s ((b.post u v c).post u2 v2 c2) (n + 1) := by
  have hu := h.up hn;have hp := postP_len b.ps b.ev u v c;have hp2 := postP_len (postP b.ps b.ev u v c) b.ev u2 v2 c2;have h0 := h.nn;refine ⟨hu.nn, hu.sch, hu.never, hu.many, hu.ls, hu.km, hu.si, ⟨?_, fun j => ?_⟩, ?_, hu.tm, hu.es⟩
  · show (postA (postA b.ac u v c) u2 v2 c2).length = _
    rw [postA_len, postA_len]; exact h.ac.1
  · have := postA_in (a := postA b.ac u v c) (s := u2) (d := v2) (M := 40000000 * n + 20000000) (postA_in (s := u) (d := v) (M := 40000000 * n) (fun j => by have := h.ac.2 j; omega) hc) hc2 j
    show _ <= (cel (postA (postA b.ac u v c) u2 v2 c2) j 0).int /\ (cel (postA (postA b.ac u v c) u2 v2 c2) j 0).int <= _
    omega
  · show ((postP (postP b.ps b.ev u v c) b.ev u2 v2 c2).length : Int) <= _
    have := h.ps;omega
theorem Inv.setSt {s : Sch} {b : Bks} {n : Int} (h : Inv s b n) (i st : Int) : Inv s { b with ls := Sp.setSt b.ls i st } n := by
  refine ⟨h.nn, h.sch, h.never, by show ((Sp.setSt b.ls i st).length : Int) <= n; rw [setSt_len]; exact h.many, fun j hj => ?_, h.km, h.si, h.ac, h.ps, h.tm, h.es⟩;have hj' : j < b.ls.length := by rw [<- setSt_len b.ls i st]; exact hj
  show _ /\ _ /\ _ /\ _
  simp only [cel_setSt _ _ _ _ _ (show 0 < 4 by decide), cel_setSt _ _ _ _ _ (show 1 < 4 by decide), cel_setSt _ _ _ _ _ (show 2 < 4 by decide), cel_setSt _ _ _ _ _ (show 3 < 4 by decide)];exact h.ls j hj'
theorem Inv.timed {s : Sch} {b : Bks} {n : Int} (h : Inv s b n) {t e : Int} (ht : 0 <= t /\ t <= 4800) : Inv s { b with tm := t, ev := e } n :=
  ⟨h.nn, h.sch, h.never, h.many, h.ls, h.km, h.si, h.ac, h.ps, ht, h.es⟩
theorem Inv.row {s : Sch} {b : Bks} {n : Int} (h : Inv s b n) {i st : Int} (hb : hasB b.ls i st = true) :
    (0 <= (cel b.ls i.toNat 0).int /\ (cel b.ls i.toNat 0).int < s.rl.length) /\ (0 <= (cel b.ls i.toNat 1).int /\ (cel b.ls i.toNat 1).int < s.rc.length) /\ (0 <= (cel b.ls i.toNat 2).int /\ (cel b.ls i.toNat 2).int <= 4800) /\ (1 <= (cel b.ls i.toNat 3).int /\ (cel b.ls i.toNat 3).int <= 4) := by
  have := (hasB_iff.1 hb).1;exact h.ls i.toNat (by omega)
theorem Inv.eff {s : Sch} {b : Bks} {n : Int} (h : Inv s b n) (hn : n + 1 <= 60) {x : Evt} (hk : inr x.kind 0 6 = true) (he : err s b x = 0) : Inv s (eff s b x) (n + 1) := by
  have hu := h.up hn;have h0 := h.nn;rcases err_ok hk he with ⟨k, e⟩ | ⟨k, e, f⟩ | ⟨k, e, f⟩ | ⟨k, e, f, g, q⟩ | ⟨k, e, f⟩ | ⟨k, e, f⟩ | ⟨k, e, f⟩
  · obtain ⟨a1, a2, a3, a4, _⟩ := canE_ok e;rw [show Sp.eff s b x = { b with ls := b.ls ++ [[.i x.l, .i x.c, .i x.s, .i x.h, .i 0]] } by simp [Sp.eff, k]];refine ⟨hu.nn, hu.sch, hu.never, ?_, fun j hj => ?_, hu.km, hu.si, hu.ac, hu.ps, hu.tm, hu.es⟩
    · show (((b.ls ++ [[Cl.i x.l, .i x.c, .i x.s, .i x.h, .i 0]]).length : Nat) : Int) <= _
      have := h.many;simp only [List.length_append, List.length_singleton];omega
    · show _ /\ _ /\ _ /\ _
      have hj2 : j < b.ls.length + 1 := by simpa using hj
      by_cases hj' : j < b.ls.length
      · have e : ∀ k, cel (b.ls ++ [[Cl.i x.l, .i x.c, .i x.s, .i x.h, .i 0]]) j k = cel b.ls j k := fun k => by simp [cel, List.getD_eq_getElem?_getD, List.getElem?_append_left hj']
        simp only [e];exact h.ls j hj'
      · have e : ∀ k, cel (b.ls ++ [[Cl.i x.l, .i x.c, .i x.s, .i x.h, .i 0]]) j k = [Cl.i x.l, .i x.c, .i x.s, .i x.h, .i 0].getD k .z := fun k => by
          rw [show j = b.ls.length by omega];simp [cel, List.getD_eq_getElem?_getD]
        simp only [e];exact ⟨a1, a2, a3, a4⟩
  · rw [eff1 k];exact (h.setSt x.b 1).posted hn (by have := fee_in h.sch.fees (h.row e).2.2.2 h.sch.price ((cel b.ls x.b.toNat 2).int - x.at_); omega)
  · rw [show Sp.eff s b x = { b with es := seeE b.es x.d x.w, ls := weatherL s.rc (seeE b.es x.d x.w) x b.ls.length 0 b.ls } by simp [Sp.eff, k]];obtain ⟨a, w, c⟩ := weatherL_in (es := seeE b.es x.d x.w) (x := x) b.ls.length 0 b.ls (by omega) (by omega) h.wok;refine ⟨hu.nn, hu.sch, hu.never, ?_, fun j hj => ?_, hu.km, hu.si, hu.ac, hu.ps, hu.tm, seeE_in h.es f⟩
    · show ((weatherL s.rc (seeE b.es x.d x.w) x b.ls.length 0 b.ls).length : Int) <= _
      rw [a]; exact hu.many
    · show (0 <= (cel (weatherL s.rc (seeE b.es x.d x.w) x b.ls.length 0 b.ls) j 0).int /\ (cel (weatherL s.rc (seeE b.es x.d x.w) x b.ls.length 0 b.ls) j 0).int < _) /\ _
      rw [c];have hr := w.rows j hj;exact ⟨(h.ls j (by rw [<- a]; exact hj)).1, hr.2⟩
  · rw [eff3 k];have hr := h.row e;have h1 := (h.setSt x.b 2);refine Inv.posted' (b := { b with ls := Sp.setSt b.ls x.b 2, km := addA b.km (cel b.ls x.b.toNat 1).int x.k, si := addA b.si (cel b.ls x.b.toNat 1).int x.k }) (n := n) ⟨hu.nn, hu.sch, hu.never, by have := h1.many; exact Int.le_trans this (by omega), h1.ls, ⟨?_, fun j hj => ?_⟩, ⟨?_, fun j hj => ?_⟩, hu.ac, hu.ps, hu.tm, hu.es⟩ (fun j => by have := h.ac.2 j; exact ⟨Int.le_trans (by omega) this.1, this.2⟩) h.ps (by have hp := price_in h.sch hr.2.2.2; exact ⟨hp.1, Int.le_trans hp.2 (by decide)⟩)
    · show (addA b.km _ x.k).length = _
      rw [addA_len]; exact h.km.1
    · show 0 <= (cel (addA b.km _ x.k) j 0).int /\ (cel (addA b.km _ x.k) j 0).int <= _
      rw [cel_addA];have := h.km.2 j (by rw [<- addA_len b.km (cel b.ls x.b.toNat 1).int x.k]; exact hj)
      split <;> omega
    · show (addA b.si _ x.k).length = _
      rw [addA_len]; exact h.si.1
    · show 0 <= (cel (addA b.si _ x.k) j 0).int /\ (cel (addA b.si _ x.k) j 0).int <= _
      rw [cel_addA];have := h.si.2 j (by rw [<- addA_len b.si (cel b.ls x.b.toNat 1).int x.k]; exact hj)
      split <;> omega
  · rw [show Sp.eff s b x = Bks.post { b with si := b.si.set x.c.toNat [.i 0] } (school s) (school s + 1) x.m by simp [Sp.eff, k]];refine Inv.posted (b := { b with si := b.si.set x.c.toNat [.i 0] }) (n := n) ⟨h.nn, h.sch, h.never, h.many, h.ls, h.km, ⟨?_, fun j hj => ?_⟩, h.ac, h.ps, h.tm, h.es⟩ hn f
    · show (b.si.set x.c.toNat [.i 0]).length = _
      simp [h.si.1]
    · have hj' : j < b.si.length := by simpa using hj
      show 0 <= (cel (b.si.set x.c.toNat [.i 0]) j 0).int /\ (cel (b.si.set x.c.toNat [.i 0]) j 0).int <= _
      rw [cel_set]
      split
      · show (0 : Int) <= 0 /\ (0 : Int) <= _
        omega
      · exact h.si.2 j hj'
  · rw [eff5 k];have := h.sch.excess;exact (h.setSt x.b 3).posted2 hn (by omega) (by omega)
  · rw [show Sp.eff s b x = b.post (school s + 3) x.l x.m by simp [Sp.eff, k]];exact h.posted hn f
theorem Inv.step {s : Sch} {b : Bks} {n : Int} (h : Inv s b n) (hn : n + 1 <= 60) (x : Evt) : Inv s (doB s b n x) (n + 1) := by
  unfold doB
  split
  · exact h.up hn
  rename_i e1
  split
  · exact h.up hn
  rename_i e2;simp only [Bool.not_eq_true, Bool.not_eq_false'] at e1 e2;have ht := inr_iff.1 e2;have h1 : Inv s { b with ev := n } n := h.timed (t := b.tm) h.tm
  split
  · rename_i e3;have h2 := h1.eff hn (x := x) e1 (by exact e3);exact ⟨h2.nn, h2.sch, h2.never, h2.many, h2.ls, h2.km, h2.si, h2.ac, h2.ps, by show 0 <= x.at_ /\ x.at_ <= 4800; have := h.tm; omega, h2.es⟩
  · exact h1.up hn
end Sp
open Go.RowKit
set_option maxRecDepth 100000
noncomputable def TPc : Tab Try.prog := ⟨[], [], [ce_open67, ce_do]⟩
namespace Sp
def evt (evs : Dt) (i : Int) : Evt := ⟨(cel evs i.toNat 0).int, (cel evs i.toNat 1).int, (cel evs i.toNat 2).int, (cel evs i.toNat 3).int, (cel evs i.toNat 4).int, (cel evs i.toNat 5).int, (cel evs i.toNat 6).int, (cel evs i.toNat 7).int, (cel evs i.toNat 8).int, (cel evs i.toNat 9).int, (cel evs i.toNat 10).int⟩
def runB (s : Sch) (evs : Dt) : Nat -> Int -> Bks -> Bks
  | 0, _, b => b
  | n + 1, i, b => runB s evs n (i + 1) (doB s b i (evt evs i))
def runE (s : Sch) (evs : Dt) : Nat -> Int -> Bks -> Dt
  | 0, _, _ => []
  | n + 1, i, b => [.i (doE s b i (evt evs i))] :: runE s evs n (i + 1) (doB s b i (evt evs i))
end Sp
def FinR [InW] {t1 t2 t3 : List Ty} (K : Nat -> List Ed -> Prop) (j : Nat) (rl : Ro t1) (rc : Ro t2) (pr ex lo hi : Int) (rt : Ro t3) (B : Sp.Bks) (er : Dt) : Prop :=
  K j [.ro _ rl, .ro _ rc, .i pr, .i ex, .i lo, .i hi, .ro _ rt, .i B.tm, .i B.ev, .l B.ls, .l B.km, .l B.si, .l B.ac, .m B.es, .l B.ps, .l er]
def sp_runP [InW] (e : List Ed) (K : Nat -> List Ed -> Prop) : Prop := match e with
  | [.ro _ evs, .i n, .i i, .ro _ rl, .ro _ rc, .i pr, .i ex, .i lo, .i hi, .ro _ rt, .i tm, .i ev, .l ls, .l km, .l si, .l ac, .m es, .l ps, .l er] =>
    Pre (n = (evs.xs.length : Int) /\ n <= 60 /\ 0 <= i /\ i <= n /\ (er.length : Int) = i /\ Sp.Inv ⟨rl.xs, rc.xs, pr, ex, lo, hi, rt.xs⟩ ⟨ls, km, si, ac, es, ps, tm, ev⟩ i)
      (FinR K 0 rl rc pr ex lo hi rt (Sp.runB ⟨rl.xs, rc.xs, pr, ex, lo, hi, rt.xs⟩ evs.xs (evs.xs.length - i.toNat) i ⟨ls, km, si, ac, es, ps, tm, ev⟩) (er ++ Sp.runE ⟨rl.xs, rc.xs, pr, ex, lo, hi, rt.xs⟩ evs.xs (evs.xs.length - i.toNat) i ⟨ls, km, si, ac, es, ps, tm, ev⟩))
  | _ => False
noncomputable def lc_runP : LC where
  len := 36
  T := [(4, (.ptr 4 0)), (5, (.row 12)), (19, .rs Iv11), (20, .int .i64), (21, .int .i64)]
  H := [(4, .blk 95 [.rs [.str], .rs Ivs, .int .i64, .int .i64, .int .i64, .int .i64, .rs [.int .i64, .int .i64], (.row 6), (.row 7), (.row 10), (.row 13), (.mp 16), (.row 9), .int .i64, .int .i64]), (6, .arr 63 Iv5), (7, .arr 3 [.int .i64]), (10, .arr 3 [.int .i64]), (13, .arr 3 [.int .i64]), (16, .mpI), (9, .arr 61 Iv4), (12, .arr 30 [.int .i64])]
  W := [7, 8, 22, 23, 24, 25, 26, 27, 28, 29, 30, 31, 32, 33]
  outs := [⟨.exit 0, [(4, (.ptr 4 0)), (5, (.row 21))], [(4, .blk 95 [.rs [.str], .rs Ivs, .int .i64, .int .i64, .int .i64, .int .i64, .rs [.int .i64, .int .i64], (.row 15), (.row 7), (.row 10), (.row 13), (.mp 16), (.row 18), .int .i64, .int .i64]), (15, .arr 63 Iv5), (7, .arr 3 [.int .i64]), (10, .arr 3 [.int .i64]), (13, .arr 3 [.int .i64]), (16, .mpI), (18, .arr 61 Iv4), (21, .arr 30 [.int .i64])], [7, 8, 19, 20, 21, 22, 23, 24, 25, 26, 27, 28, 29, 30, 31, 32, 33]⟩]
  spec := sp_runP
def VCL_runP [W : InW] (evs : Ro Iv11) (n i : Int) (rl : Ro [.str]) (rc : Ro Ivs) (pr ex lo hi : Int) (rt : Ro [.int .i64, .int .i64]) (tm ev : Int) (ls km si ac : Dt) (es : List (Int × Int)) (ps er : Dt) (A : List Ed -> Prop) (K : Nat -> List Ed -> Prop) : Prop :=
  Vif (decide (i < n)) (Need (decide ((0 : Int) <= i) && decide (i < (↑(evs.xs.length) : Int))) (Need (decide (i.toNat < evs.xs.length)) (Pre (Sp.Inv ⟨rl.xs, rc.xs, pr, ex, lo, hi, rt.xs⟩ { ls := ls, km := km, si := si, ac := ac, es := es, ps := ps, tm := tm, ev := ev } i) (Need (decide ((er.length + [[Cl.i (Sp.doE ⟨rl.xs, rc.xs, pr, ex, lo, hi, rt.xs⟩ { ls := ls, km := km, si := si, ac := ac, es := es, ps := ps, tm := tm, ev := ev } i { kind := (cel evs.xs i.toNat (0 : Nat)).int, at_ := (cel evs.xs i.toNat (0+1 : Nat)).int, l := (cel evs.xs i.toNat (0+1+1 : Nat)).int, c := (cel evs.xs i.toNat (0+1+1+1 : Nat)).int, b := (cel evs.xs i.toNat (0+1+1+1+1 : Nat)).int, s := (cel evs.xs i.toNat (0+1+1+1+1+1 : Nat)).int, h := (cel evs.xs i.toNat (0+1+1+1+1+1+1 : Nat)).int, d := (cel evs.xs i.toNat (0+1+1+1+1+1+1+1 : Nat)).int, w := (cel evs.xs i.toNat (0+1+1+1+1+1+1+1+1 : Nat)).int, k := (cel evs.xs i.toNat (0+1+1+1+1+1+1+1+1+1 : Nat)).int, m := (cel evs.xs i.toNat (0+1+1+1+1+1+1+1+1+1+1 : Nat)).int })]].length) * (8 : Nat) <= (140737488355328 : Nat))) (Ar .i64 (i + (1 : Int)) fun z => A [.ro _ evs, .i n, .i z, .ro _ rl, .ro _ rc, .i pr, .i ex, .i lo, .i hi, .ro _ rt, .i (Sp.doB ⟨rl.xs, rc.xs, pr, ex, lo, hi, rt.xs⟩ { ls := ls, km := km, si := si, ac := ac, es := es, ps := ps, tm := tm, ev := ev } i { kind := (cel evs.xs i.toNat (0 : Nat)).int, at_ := (cel evs.xs i.toNat (0+1 : Nat)).int, l := (cel evs.xs i.toNat (0+1+1 : Nat)).int, c := (cel evs.xs i.toNat (0+1+1+1 : Nat)).int, b := (cel evs.xs i.toNat (0+1+1+1+1 : Nat)).int, s := (cel evs.xs i.toNat (0+1+1+1+1+1 : Nat)).int, h := (cel evs.xs i.toNat (0+1+1+1+1+1+1 : Nat)).int, d := (cel evs.xs i.toNat (0+1+1+1+1+1+1+1 : Nat)).int, w := (cel evs.xs i.toNat (0+1+1+1+1+1+1+1+1 : Nat)).int, k := (cel evs.xs i.toNat (0+1+1+1+1+1+1+1+1+1 : Nat)).int, m := (cel evs.xs i.toNat (0+1+1+1+1+1+1+1+1+1+1 : Nat)).int }).tm, .i (Sp.doB ⟨rl.xs, rc.xs, pr, ex, lo, hi, rt.xs⟩ { ls := ls, km := km, si := si, ac := ac, es := es, ps := ps, tm := tm, ev := ev } i { kind := (cel evs.xs i.toNat (0 : Nat)).int, at_ := (cel evs.xs i.toNat (0+1 : Nat)).int, l := (cel evs.xs i.toNat (0+1+1 : Nat)).int, c := (cel evs.xs i.toNat (0+1+1+1 : Nat)).int, b := (cel evs.xs i.toNat (0+1+1+1+1 : Nat)).int, s := (cel evs.xs i.toNat (0+1+1+1+1+1 : Nat)).int, h := (cel evs.xs i.toNat (0+1+1+1+1+1+1 : Nat)).int, d := (cel evs.xs i.toNat (0+1+1+1+1+1+1+1 : Nat)).int, w := (cel evs.xs i.toNat (0+1+1+1+1+1+1+1+1 : Nat)).int, k := (cel evs.xs i.toNat (0+1+1+1+1+1+1+1+1+1 : Nat)).int, m := (cel evs.xs i.toNat (0+1+1+1+1+1+1+1+1+1+1 : Nat)).int }).ev, .l (Sp.doB ⟨rl.xs, rc.xs, pr, ex, lo, hi, rt.xs⟩ { ls := ls, km := km, si := si, ac := ac, es := es, ps := ps, tm := tm, ev := ev } i { kind := (cel evs.xs i.toNat (0 : Nat)).int, at_ := (cel evs.xs i.toNat (0+1 : Nat)).int, l := (cel evs.xs i.toNat (0+1+1 : Nat)).int, c := (cel evs.xs i.toNat (0+1+1+1 : Nat)).int, b := (cel evs.xs i.toNat (0+1+1+1+1 : Nat)).int, s := (cel evs.xs i.toNat (0+1+1+1+1+1 : Nat)).int, h := (cel evs.xs i.toNat (0+1+1+1+1+1+1 : Nat)).int, d := (cel evs.xs i.toNat (0+1+1+1+1+1+1+1 : Nat)).int, w := (cel evs.xs i.toNat (0+1+1+1+1+1+1+1+1 : Nat)).int, k := (cel evs.xs i.toNat (0+1+1+1+1+1+1+1+1+1 : Nat)).int, m := (cel evs.xs i.toNat (0+1+1+1+1+1+1+1+1+1+1 : Nat)).int }).ls, .l (Sp.doB ⟨rl.xs, rc.xs, pr, ex, lo, hi, rt.xs⟩ { ls := ls, km := km, si := si, ac := ac, es := es, ps := ps, tm := tm, ev := ev } i { kind := (cel evs.xs i.toNat (0 : Nat)).int, at_ := (cel evs.xs i.toNat (0+1 : Nat)).int, l := (cel evs.xs i.toNat (0+1+1 : Nat)).int, c := (cel evs.xs i.toNat (0+1+1+1 : Nat)).int, b := (cel evs.xs i.toNat (0+1+1+1+1 : Nat)).int, s := (cel evs.xs i.toNat (0+1+1+1+1+1 : Nat)).int, h := (cel evs.xs i.toNat (0+1+1+1+1+1+1 : Nat)).int, d := (cel evs.xs i.toNat (0+1+1+1+1+1+1+1 : Nat)).int, w := (cel evs.xs i.toNat (0+1+1+1+1+1+1+1+1 : Nat)).int, k := (cel evs.xs i.toNat (0+1+1+1+1+1+1+1+1+1 : Nat)).int, m := (cel evs.xs i.toNat (0+1+1+1+1+1+1+1+1+1+1 : Nat)).int }).km, .l (Sp.doB ⟨rl.xs, rc.xs, pr, ex, lo, hi, rt.xs⟩ { ls := ls, km := km, si := si, ac := ac, es := es, ps := ps, tm := tm, ev := ev } i { kind := (cel evs.xs i.toNat (0 : Nat)).int, at_ := (cel evs.xs i.toNat (0+1 : Nat)).int, l := (cel evs.xs i.toNat (0+1+1 : Nat)).int, c := (cel evs.xs i.toNat (0+1+1+1 : Nat)).int, b := (cel evs.xs i.toNat (0+1+1+1+1 : Nat)).int, s := (cel evs.xs i.toNat (0+1+1+1+1+1 : Nat)).int, h := (cel evs.xs i.toNat (0+1+1+1+1+1+1 : Nat)).int, d := (cel evs.xs i.toNat (0+1+1+1+1+1+1+1 : Nat)).int, w := (cel evs.xs i.toNat (0+1+1+1+1+1+1+1+1 : Nat)).int, k := (cel evs.xs i.toNat (0+1+1+1+1+1+1+1+1+1 : Nat)).int, m := (cel evs.xs i.toNat (0+1+1+1+1+1+1+1+1+1+1 : Nat)).int }).si, .l (Sp.doB ⟨rl.xs, rc.xs, pr, ex, lo, hi, rt.xs⟩ { ls := ls, km := km, si := si, ac := ac, es := es, ps := ps, tm := tm, ev := ev } i { kind := (cel evs.xs i.toNat (0 : Nat)).int, at_ := (cel evs.xs i.toNat (0+1 : Nat)).int, l := (cel evs.xs i.toNat (0+1+1 : Nat)).int, c := (cel evs.xs i.toNat (0+1+1+1 : Nat)).int, b := (cel evs.xs i.toNat (0+1+1+1+1 : Nat)).int, s := (cel evs.xs i.toNat (0+1+1+1+1+1 : Nat)).int, h := (cel evs.xs i.toNat (0+1+1+1+1+1+1 : Nat)).int, d := (cel evs.xs i.toNat (0+1+1+1+1+1+1+1 : Nat)).int, w := (cel evs.xs i.toNat (0+1+1+1+1+1+1+1+1 : Nat)).int, k := (cel evs.xs i.toNat (0+1+1+1+1+1+1+1+1+1 : Nat)).int, m := (cel evs.xs i.toNat (0+1+1+1+1+1+1+1+1+1+1 : Nat)).int }).ac, .m (Sp.doB ⟨rl.xs, rc.xs, pr, ex, lo, hi, rt.xs⟩ { ls := ls, km := km, si := si, ac := ac, es := es, ps := ps, tm := tm, ev := ev } i { kind := (cel evs.xs i.toNat (0 : Nat)).int, at_ := (cel evs.xs i.toNat (0+1 : Nat)).int, l := (cel evs.xs i.toNat (0+1+1 : Nat)).int, c := (cel evs.xs i.toNat (0+1+1+1 : Nat)).int, b := (cel evs.xs i.toNat (0+1+1+1+1 : Nat)).int, s := (cel evs.xs i.toNat (0+1+1+1+1+1 : Nat)).int, h := (cel evs.xs i.toNat (0+1+1+1+1+1+1 : Nat)).int, d := (cel evs.xs i.toNat (0+1+1+1+1+1+1+1 : Nat)).int, w := (cel evs.xs i.toNat (0+1+1+1+1+1+1+1+1 : Nat)).int, k := (cel evs.xs i.toNat (0+1+1+1+1+1+1+1+1+1 : Nat)).int, m := (cel evs.xs i.toNat (0+1+1+1+1+1+1+1+1+1+1 : Nat)).int }).es, .l (Sp.doB ⟨rl.xs, rc.xs, pr, ex, lo, hi, rt.xs⟩ { ls := ls, km := km, si := si, ac := ac, es := es, ps := ps, tm := tm, ev := ev } i { kind := (cel evs.xs i.toNat (0 : Nat)).int, at_ := (cel evs.xs i.toNat (0+1 : Nat)).int, l := (cel evs.xs i.toNat (0+1+1 : Nat)).int, c := (cel evs.xs i.toNat (0+1+1+1 : Nat)).int, b := (cel evs.xs i.toNat (0+1+1+1+1 : Nat)).int, s := (cel evs.xs i.toNat (0+1+1+1+1+1 : Nat)).int, h := (cel evs.xs i.toNat (0+1+1+1+1+1+1 : Nat)).int, d := (cel evs.xs i.toNat (0+1+1+1+1+1+1+1 : Nat)).int, w := (cel evs.xs i.toNat (0+1+1+1+1+1+1+1+1 : Nat)).int, k := (cel evs.xs i.toNat (0+1+1+1+1+1+1+1+1+1 : Nat)).int, m := (cel evs.xs i.toNat (0+1+1+1+1+1+1+1+1+1+1 : Nat)).int }).ps, .l (er ++ [[Cl.i (Sp.doE ⟨rl.xs, rc.xs, pr, ex, lo, hi, rt.xs⟩ { ls := ls, km := km, si := si, ac := ac, es := es, ps := ps, tm := tm, ev := ev } i { kind := (cel evs.xs i.toNat (0 : Nat)).int, at_ := (cel evs.xs i.toNat (0+1 : Nat)).int, l := (cel evs.xs i.toNat (0+1+1 : Nat)).int, c := (cel evs.xs i.toNat (0+1+1+1 : Nat)).int, b := (cel evs.xs i.toNat (0+1+1+1+1 : Nat)).int, s := (cel evs.xs i.toNat (0+1+1+1+1+1 : Nat)).int, h := (cel evs.xs i.toNat (0+1+1+1+1+1+1 : Nat)).int, d := (cel evs.xs i.toNat (0+1+1+1+1+1+1+1 : Nat)).int, w := (cel evs.xs i.toNat (0+1+1+1+1+1+1+1+1 : Nat)).int, k := (cel evs.xs i.toNat (0+1+1+1+1+1+1+1+1+1 : Nat)).int, m := (cel evs.xs i.toNat (0+1+1+1+1+1+1+1+1+1+1 : Nat)).int })]])]))))) (K (0 : Nat) [.ro _ rl, .ro _ rc, .i pr, .i ex, .i lo, .i hi, .ro _ rt, .i tm, .i ev, .l ls, .l km, .l si, .l ac, .m es, .l ps, .l er])
theorem vcl_runP (W : InW) (evs n i rl rc pr ex lo hi rt tm ev ls km si ac es ps er A K) : vcTop { cxT Try.prog TT TPc 1000 50 with fn := 50 } 1000 (loopAt Try.prog 50 6) (tmOut 36 [(4, .ptr 4 0), (5, .rw 12), (19, .rs _ evs), (20, .si .i64 n), (21, .si .i64 i)] [7, 8, 22, 23, 24, 25, 26, 27, 28, 29, 30, 31, 32, 33]) [(4, .blk 95 [.rs _ rl, .rs _ rc, .si .i64 pr, .si .i64 ex, .si .i64 lo, .si .i64 hi, .rs _ rt, .rw 6, .rw 7, .rw 10, .rw 13, .mp 16, .rw 9, .si .i64 tm, .si .i64 ev]), (6, .arr 63 Iv5 ls), (7, .arr 3 [.int .i64] km), (10, .arr 3 [.int .i64] si), (13, .arr 3 [.int .i64] ac), (16, .obj (.mpI es)), (9, .arr 61 Iv4 ps), (12, .arr 30 [.int .i64] er)] (roundL lc_runP A K) = VCL_runP evs n i rl rc pr ex lo hi rt tm ev ls km si ac es ps er A K := by kernel_rfl
def okLt_runP : Prop := ∀ (W : InW) (body a : Code), (Try.prog.funcs[50]?).bind (·.body) = some body -> a ∈ loopsIn body -> keyOf a = 6 -> @LoopOk W Try.prog a (@loopRun W lc_runP)
theorem okl_runP (meas : [InW] -> List Ed -> Nat) (hyp_ : ∀ (W : InW) (evs : Ro Iv11) (n : Int) (i : Int) (rl : Ro [.str]) (rc : Ro Ivs) (pr : Int) (ex : Int) (lo : Int) (hi : Int) (rt : Ro [.int .i64, .int .i64]) (tm : Int) (ev : Int) (ls : Dt) (km : Dt) (si : Dt) (ac : Dt) (es : List (Int × Int)) (ps : Dt) (er : Dt) (K : Nat -> List Ed -> Prop), sp_runP [.ro _ evs, .i n, .i i, .ro _ rl, .ro _ rc, .i pr, .i ex, .i lo, .i hi, .ro _ rt, .i tm, .i ev, .l ls, .l km, .l si, .l ac, .m es, .l ps, .l er] K -> ∀ A : List Ed -> Prop, (∀ e, meas e < meas [.ro _ evs, .i n, .i i, .ro _ rl, .ro _ rc, .i pr, .i ex, .i lo, .i hi, .ro _ rt, .i tm, .i ev, .l ls, .l km, .l si, .l ac, .m es, .l ps, .l er] -> sp_runP e K -> A e) -> VCL_runP evs n i rl rc pr ex lo hi rt tm ev ls km si ac es ps er A K) : okLt_runP :=
  LE.okOf' (fun W => @TT W) (fun W => @TT_ok W) mixed_ok TPc 1000 50 (by kernel_rfl) lc_runP (fun W => @meas W) fun W evs n i rl rc pr ex lo hi rt tm ev ls km si ac es ps er K hs =>
    (vcl_runP W evs n i rl rc pr ex lo hi rt tm ev ls km si ac es ps er (fun e => meas e < meas [.ro _ evs, .i n, .i i, .ro _ rl, .ro _ rc, .i pr, .i ex, .i lo, .i hi, .ro _ rt, .i tm, .i ev, .l ls, .l km, .l si, .l ac, .m es, .l ps, .l er] /\ sp_runP e K) K).mpr (hyp_ W evs n i rl rc pr ex lo hi rt tm ev ls km si ac es ps er K hs _ fun e h1 h2 => ⟨h1, h2⟩)
theorem okLrunP : okLt_runP := okl_runP (fun e => match e with | _ :: .i n :: .i i :: _ => (n - i).toNat | _ => 0) fun W evs n i rl rc pr ex lo hi rt tm ev ls km si ac es ps er K hs A hA => by
  obtain ⟨⟨rfl, h0, h1, h2, h3, hI⟩, hk⟩ := hs;unfold VCL_runP;simp only [Nat.zero_add, Nat.reduceAdd];refine vifd (fun e => ned (by simp; omega) (nedd (by omega) ⟨hI, nedd (by simp only [List.length_append, List.length_cons, List.length_nil]; omega) (ar64 (by omega) (hA _ ?_ ⟨⟨rfl, h0, by omega, by omega, by simp only [List.length_append, List.length_cons, List.length_nil]; omega, hI.step (by omega) _⟩, ?_⟩))⟩)) fun e => ?_
  · show ((evs.xs.length : Int) - (i + 1)).toNat < ((evs.xs.length : Int) - i).toNat
    omega
  · rw [show evs.xs.length - i.toNat = (evs.xs.length - (i.toNat + 1)) + 1 by omega] at hk;rw [show (i + 1).toNat = i.toNat + 1 by omega, List.append_assoc];exact hk
  · rw [show evs.xs.length - i.toNat = 0 by omega] at hk;simp only [Sp.runB, Sp.runE, List.append_nil] at hk;exact hk
noncomputable def le_runP : LE Try.prog := ⟨50, 6, fun W => @loopRun W lc_runP, okLrunP⟩
noncomputable def TPd : Tab Try.prog := ⟨[], [le_runP], [ce_open67, ce_do]⟩
namespace Sp
def open0 (s : Sch) : Bks := ⟨[], kms s.rc 0 s.rc.length, List.replicate s.rc.length [.i 0], List.replicate (s.rl.length + 4) [.i 0], [], [], 0, 0⟩
def runErr (rl rc : Dt) (pr ex lo hi : Int) (rt : Dt) (evs : Dt) : Int :=
  if chkE rl rc pr ex lo hi rt = 0 then (if 60 < evs.length then 3 else 0) else chkE rl rc pr ex lo hi rt
def runAll (s : Sch) (evs : Dt) : Bks := runB s evs evs.length 0 (open0 s)
def errAll (s : Sch) (evs : Dt) : Dt := runE s evs evs.length 0 (open0 s)
end Sp
def sp_run50 [InW] (e : List Ed) (K : Nat -> List Ed -> Prop) : Prop := match e with
  | [.ro _ rl, .ro _ rc, .i pr, .i ex, .i lo, .i hi, .ro _ rt, .ro _ evs] =>
    Vif (decide (Sp.runErr rl.xs rc.xs pr ex lo hi rt.xs evs.xs = 0))
      (FinR K 1 rl rc pr ex lo hi rt (Sp.runAll ⟨rl.xs, rc.xs, pr, ex, lo, hi, rt.xs⟩ evs.xs) (Sp.errAll ⟨rl.xs, rc.xs, pr, ex, lo, hi, rt.xs⟩ evs.xs))
      (K 0 [.i (Sp.runErr rl.xs rc.xs pr ex lo hi rt.xs evs.xs)])
  | _ => False
noncomputable def cc_run50 : CC where
  g := 50
  args := [.agg [.rs [.str], .rs Ivs, .int .i64, .int .i64, .int .i64, .int .i64, .rs [.int .i64, .int .i64]], .rs Iv11]
  H := []
  outs := [⟨false, .tup [(.lit (.pointer none)), (.lit (.slice none 0 0)), .int .i64], [], false⟩, ⟨false, .tup [(.ptr 6 0), (.row 27), (.lit (.int .i64 0))], [(6, .blk 95 [.rs [.str], .rs Ivs, .int .i64, .int .i64, .int .i64, .int .i64, .rs [.int .i64, .int .i64], (.row 9), (.row 12), (.row 15), (.row 18), (.mp 21), (.row 24), .int .i64, .int .i64]), (9, .arr 63 Iv5), (12, .arr 3 [.int .i64]), (15, .arr 3 [.int .i64]), (18, .arr 3 [.int .i64]), (21, .mpI), (24, .arr 61 Iv4), (27, .arr 30 [.int .i64])], false⟩]
  spec := sp_run50
def VCC_run50 [W : InW] (rl : Ro [.str]) (rc : Ro Ivs) (pr ex lo hi : Int) (rt : Ro [.int .i64, .int .i64]) (evs : Ro Iv11) (K : Nat -> List Ed -> Prop) : Prop :=
  Pre ((0 : Int) <= (↑(evs.xs.length) : Int)) (Vif (decide (Sp.chkE rl.xs rc.xs pr ex lo hi rt.xs = (0 : Int))) (Vif (decide ((60 : Int) < (↑(evs.xs.length) : Int))) (Vif (!decide ((3 : Int) = (0 : Int))) (K (0 : Nat) [.i (3 : Int)]) ((435 : Nat) = (435 : Nat) + (1 : Nat))) (Pre ((↑(evs.xs.length) : Int) = (↑(evs.xs.length) : Int) /\ (↑(evs.xs.length) : Int) <= (60 : Int) /\ (0 : Int) <= (0 : Int) /\ (0 : Int) <= (↑(evs.xs.length) : Int) /\ (↑(0 : Nat) : Int) = (0 : Int) /\ Sp.Inv ⟨rl.xs, rc.xs, pr, ex, lo, hi, rt.xs⟩ { ls := [], km := Sp.kms rc.xs (0 : Nat) (rc.xs.length), si := List.replicate (rc.xs.length) [Cl.i (0 : Int)], ac := List.replicate (rl.xs.length + (4 : Nat)) [Cl.i (0 : Int)], es := [], ps := [], tm := (0 : Int), ev := (0 : Int) } (0 : Int)) (K (0+1 : Nat) [.ro _ rl, .ro _ rc, .i pr, .i ex, .i lo, .i hi, .ro _ rt, .i (Sp.runB ⟨rl.xs, rc.xs, pr, ex, lo, hi, rt.xs⟩ evs.xs (evs.xs.length - Int.toNat (0 : Int)) (0 : Int) { ls := [], km := Sp.kms rc.xs (0 : Nat) (rc.xs.length), si := List.replicate (rc.xs.length) [Cl.i (0 : Int)], ac := List.replicate (rl.xs.length + (4 : Nat)) [Cl.i (0 : Int)], es := [], ps := [], tm := (0 : Int), ev := (0 : Int) }).tm, .i (Sp.runB ⟨rl.xs, rc.xs, pr, ex, lo, hi, rt.xs⟩ evs.xs (evs.xs.length - Int.toNat (0 : Int)) (0 : Int) { ls := [], km := Sp.kms rc.xs (0 : Nat) (rc.xs.length), si := List.replicate (rc.xs.length) [Cl.i (0 : Int)], ac := List.replicate (rl.xs.length + (4 : Nat)) [Cl.i (0 : Int)], es := [], ps := [], tm := (0 : Int), ev := (0 : Int) }).ev, .l (Sp.runB ⟨rl.xs, rc.xs, pr, ex, lo, hi, rt.xs⟩ evs.xs (evs.xs.length - Int.toNat (0 : Int)) (0 : Int) { ls := [], km := Sp.kms rc.xs (0 : Nat) (rc.xs.length), si := List.replicate (rc.xs.length) [Cl.i (0 : Int)], ac := List.replicate (rl.xs.length + (4 : Nat)) [Cl.i (0 : Int)], es := [], ps := [], tm := (0 : Int), ev := (0 : Int) }).ls, .l (Sp.runB ⟨rl.xs, rc.xs, pr, ex, lo, hi, rt.xs⟩ evs.xs (evs.xs.length - Int.toNat (0 : Int)) (0 : Int) { ls := [], km := Sp.kms rc.xs (0 : Nat) (rc.xs.length), si := List.replicate (rc.xs.length) [Cl.i (0 : Int)], ac := List.replicate (rl.xs.length + (4 : Nat)) [Cl.i (0 : Int)], es := [], ps := [], tm := (0 : Int), ev := (0 : Int) }).km, .l (Sp.runB ⟨rl.xs, rc.xs, pr, ex, lo, hi, rt.xs⟩ evs.xs (evs.xs.length - Int.toNat (0 : Int)) (0 : Int) { ls := [], km := Sp.kms rc.xs (0 : Nat) (rc.xs.length), si := List.replicate (rc.xs.length) [Cl.i (0 : Int)], ac := List.replicate (rl.xs.length + (4 : Nat)) [Cl.i (0 : Int)], es := [], ps := [], tm := (0 : Int), ev := (0 : Int) }).si, .l (Sp.runB ⟨rl.xs, rc.xs, pr, ex, lo, hi, rt.xs⟩ evs.xs (evs.xs.length - Int.toNat (0 : Int)) (0 : Int) { ls := [], km := Sp.kms rc.xs (0 : Nat) (rc.xs.length), si := List.replicate (rc.xs.length) [Cl.i (0 : Int)], ac := List.replicate (rl.xs.length + (4 : Nat)) [Cl.i (0 : Int)], es := [], ps := [], tm := (0 : Int), ev := (0 : Int) }).ac, .m (Sp.runB ⟨rl.xs, rc.xs, pr, ex, lo, hi, rt.xs⟩ evs.xs (evs.xs.length - Int.toNat (0 : Int)) (0 : Int) { ls := [], km := Sp.kms rc.xs (0 : Nat) (rc.xs.length), si := List.replicate (rc.xs.length) [Cl.i (0 : Int)], ac := List.replicate (rl.xs.length + (4 : Nat)) [Cl.i (0 : Int)], es := [], ps := [], tm := (0 : Int), ev := (0 : Int) }).es, .l (Sp.runB ⟨rl.xs, rc.xs, pr, ex, lo, hi, rt.xs⟩ evs.xs (evs.xs.length - Int.toNat (0 : Int)) (0 : Int) { ls := [], km := Sp.kms rc.xs (0 : Nat) (rc.xs.length), si := List.replicate (rc.xs.length) [Cl.i (0 : Int)], ac := List.replicate (rl.xs.length + (4 : Nat)) [Cl.i (0 : Int)], es := [], ps := [], tm := (0 : Int), ev := (0 : Int) }).ps, .l (Sp.runE ⟨rl.xs, rc.xs, pr, ex, lo, hi, rt.xs⟩ evs.xs (evs.xs.length - Int.toNat (0 : Int)) (0 : Int) { ls := [], km := Sp.kms rc.xs (0 : Nat) (rc.xs.length), si := List.replicate (rc.xs.length) [Cl.i (0 : Int)], ac := List.replicate (rl.xs.length + (4 : Nat)) [Cl.i (0 : Int)], es := [], ps := [], tm := (0 : Int), ev := (0 : Int) })]))) (Vif (!decide (Sp.chkE rl.xs rc.xs pr ex lo hi rt.xs = (0 : Int))) (K (0 : Nat) [.i (Sp.chkE rl.xs rc.xs pr ex lo hi rt.xs)]) ((435 : Nat) = (435 : Nat) + (1 : Nat))))
theorem vcc_run50 (W : InW) (rl rc pr ex lo hi rt evs K) : coreK (cxT Try.prog TT TPd 1000 50) 1000 50 [.agg [.rs _ rl, .rs _ rc, .si .i64 pr, .si .i64 ex, .si .i64 lo, .si .i64 hi, .rs _ rt], .rs _ evs] [] (fun v h => outC cc_run50.H [] cc_run50.outs 0 false v h K) (fun v h => outC cc_run50.H [] cc_run50.outs 0 true v h K) = VCC_run50 rl rc pr ex lo hi rt evs K := by kernel_rfl
theorem okc_run50 (hyp_ : ∀ (W : InW) (rl : Ro [.str]) (rc : Ro Ivs) (pr : Int) (ex : Int) (lo : Int) (hi : Int) (rt : Ro [.int .i64, .int .i64]) (evs : Ro Iv11) (K : Nat -> List Ed -> Prop), sp_run50 [.ro _ rl, .ro _ rc, .i pr, .i ex, .i lo, .i hi, .ro _ rt, .ro _ evs] K -> VCC_run50 rl rc pr ex lo hi rt evs K) : ∀ W : InW, @CallC W Try.prog cc_run50 :=
  CC.okOf (fun W => @TT W) (fun W => @TT_ok W) mixed_ok TPd 1000 50 cc_run50 fun W rl rc pr ex lo hi rt evs K hs => (vcc_run50 W rl rc pr ex lo hi rt evs K).mpr (hyp_ W rl rc pr ex lo hi rt evs K hs)
namespace Sp
theorem kms_len (rc : Dt) : ∀ (n i : Nat), (kms rc i n).length = n
  | 0, _ => rfl
  | n + 1, i => by simp [kms, kms_len rc n]
theorem kms_cel (rc : Dt) : ∀ (n i j : Nat), j < n -> (cel (kms rc i n) j 0).int = (cel rc (i + j) 1).int
  | 0, _, _, h => by omega
  | n + 1, i, 0, h => rfl
  | n + 1, i, j + 1, h => by
    rw [show i + (j + 1) = i + 1 + j by omega, <- kms_cel rc n (i + 1) j (by omega)];rfl
theorem cel_rep (n j : Nat) (v : Int) : (cel (List.replicate n [Cl.i v]) j 0).int = if j < n then v else 0 := by
  unfold cel;rw [List.getD_eq_getElem?_getD, List.getD_eq_getElem?_getD, List.getElem?_replicate]
  split <;> rfl
theorem car_in {rc : Dt} {i : Nat} (h : carErr rc i = 0) : (0 <= (cel rc i 1).int /\ (cel rc i 1).int <= 1000000) /\ (1 <= (cel rc i 2).int /\ (cel rc i 2).int <= 1000000) /\ (0 <= (cel rc i 3).int /\ (cel rc i 3).int <= 255) := by
  unfold carErr at h
  split at h
  · split at h
    · cases h
    · split at h
      · rename_i e;simp only [Bool.and_eq_true, inr_iff] at e;exact ⟨e.1.1, e.1.2, e.2⟩
      · cases h
  · cases h
theorem Inv.zero {s : Sch} (h : s.Ok) : Inv s (open0 s) 0 := by
  have hc := h.cars;refine ⟨by omega, h, fun j hj => (car_in (h.car j hj)).2.2, by simp [open0], fun j hj => by simp [open0] at hj, ⟨kms_len _ _ _, fun j hj => ?_⟩, ⟨by simp [open0], fun j hj => ?_⟩, ⟨by simp [open0], fun j => ?_⟩, by simp [open0], by simp [open0], fun d => by simp [open0, getI]⟩
  · have hj' : j < s.rc.length := by rw [<- kms_len s.rc s.rc.length 0]; exact hj
    show 0 <= (cel (kms s.rc 0 s.rc.length) j 0).int /\ (cel (kms s.rc 0 s.rc.length) j 0).int <= _
    rw [kms_cel _ _ _ _ hj', Nat.zero_add];have := (car_in (h.car j hj')).1;omega
  · show 0 <= (cel (List.replicate s.rc.length [Cl.i 0]) j 0).int /\ (cel (List.replicate s.rc.length [Cl.i 0]) j 0).int <= _
    rw [cel_rep]
    split <;> omega
  · show _ <= (cel (List.replicate (s.rl.length + 4) [Cl.i 0]) j 0).int /\ (cel (List.replicate (s.rl.length + 4) [Cl.i 0]) j 0).int <= _
    rw [cel_rep]
    split <;> omega
end Sp
theorem okrun50 : ∀ W : InW, @CallC W Try.prog cc_run50 := okc_run50 fun W rl rc pr ex lo hi rt evs K hs => by
  unfold VCC_run50;obtain ⟨hs1, hs2⟩ := hs;refine ⟨by omega, vif (fun e => ?_) fun e => ?_⟩
  · have e1 : Sp.chkE rl.xs rc.xs pr ex lo hi rt.xs = 0 := by simpa using e
    have hr : Sp.runErr rl.xs rc.xs pr ex lo hi rt.xs evs.xs = if 60 < evs.xs.length then 3 else 0 := by rw [Sp.runErr, if_pos e1]
    refine vifd (fun e2 => ?_) fun e2 => ?_
    · rw [if_pos (by omega)] at hr;rw [hr] at hs1 hs2;exact vif (fun _ => hs2 (by decide)) fun h => absurd h (by decide)
    · rw [if_neg (by omega)] at hr;rw [hr] at hs1 hs2;have hI := Sp.Inv.zero (s := ⟨rl.xs, rc.xs, pr, ex, lo, hi, rt.xs⟩) (chk_ok e1);exact ⟨⟨rfl, by omega, by omega, by omega, rfl, hI⟩, hs1 (by decide)⟩
  · have e1 : ¬ Sp.chkE rl.xs rc.xs pr ex lo hi rt.xs = 0 := by simpa using e
    have hr : Sp.runErr rl.xs rc.xs pr ex lo hi rt.xs evs.xs = Sp.chkE rl.xs rc.xs pr ex lo hi rt.xs := by rw [Sp.runErr, if_neg e1]
    rw [hr] at hs1 hs2;exact vif (fun _ => hs2 (by simpa using e1)) fun h => absurd h (by simpa using e1)
noncomputable def ce_run50 : CE Try.prog := ceOf cc_run50 okrun50
open Go.RowKit
set_option maxRecDepth 100000
namespace Sp
def rErr (s : Sch) (evs : Dt) : Int := runErr s.rl s.rc s.pr s.ex s.lo s.hi s.rt evs
def rB (s : Sch) (evs : Dt) : Bks := if rErr s evs = 0 then runAll s evs else ⟨[], [], [], [], [], [], 0, 0⟩
def rE (s : Sch) (evs : Dt) : Dt := if rErr s evs = 0 then errAll s evs else []
end Sp
open Go.RowKit
set_option maxRecDepth 100000
noncomputable def TPf : Tab Try.prog := ⟨[], [], [ce_can]⟩
def sp_firstC [InW] (e : List Ed) (K : Nat -> List Ed -> Prop) : Prop := match e with
  | [.i l, .i c, .i s, .i h, .i st, .ro _ rl, .ro _ rc, .i pr, .i ex, .i lo, .i hi, .ro _ rt, .i tm, .i ev, .l ls, .l km, .l si, .l ac, .m es, .l ps] =>
    Pre (Sp.CalmP ls) (K 0 [.i (Sp.canE rl.xs rc.xs lo hi ls es tm l c s h)])
  | _ => False
noncomputable def cc_firstC : CC where
  g := 53
  args := [(.fn (.func 54) [] [(.ptr 1 0), (.ptr 4 0)])]
  H := [(1, .blk 90 [(.ptr 7 0)]), (4, .blk 63 [.int .i64, .int .i64, .int .i64, .int .i64, .int .i64]), (7, .blk 95 [.rs [.str], .rs Ivs, .int .i64, .int .i64, .int .i64, .int .i64, .rs [.int .i64, .int .i64], (.row 10), (.row 13), (.row 16), (.row 19), (.mp 22), (.row 25), .int .i64, .int .i64]), (10, .arr 63 Iv5), (13, .arr 3 [.int .i64]), (16, .arr 3 [.int .i64]), (19, .arr 3 [.int .i64]), (22, .mpI), (25, .arr 61 Iv4)]
  outs := [⟨false, .int .i64, [], true⟩]
  spec := sp_firstC
def VCC_firstC [W : InW] (l c s hr st : Int) (rl : Ro [.str]) (rc : Ro [.str, .int .i64, .int .i64, .int .i64]) (pr ex lo hi : Int) (rt : Ro [.int .i64, .int .i64]) (tm ev : Int) (ls km si ac : Dt) (es : List (Int × Int)) (ps : Dt) (K : Nat -> List Ed -> Prop) : Prop :=
  Pre (Sp.CalmP ls) (Vif (decide (Sp.canE rl.xs rc.xs lo hi ls es tm l c s hr = (0 : Int))) ([] ++ [] ++ ([Ed.i l] ++ ([Ed.i c] ++ ([Ed.i s] ++ ([Ed.i hr] ++ ([Ed.i st] ++ [])))) ++ ([Ed.ro [Ty.str] (rsK._proof_1 [Ty.str] [Ty.str] rfl ▸ rsK._proof_1 [Ty.str] [Ty.str] rfl ▸ rl)] ++ ([Ed.ro [Ty.str, Ty.int IntKind.i64, Ty.int IntKind.i64, Ty.int IntKind.i64] (rsK._proof_1 [Ty.str, Ty.int IntKind.i64, Ty.int IntKind.i64, Ty.int IntKind.i64] [Ty.str, Ty.int IntKind.i64, Ty.int IntKind.i64, Ty.int IntKind.i64] rfl ▸ rsK._proof_1 [Ty.str, Ty.int IntKind.i64, Ty.int IntKind.i64, Ty.int IntKind.i64] [Ty.str, Ty.int IntKind.i64, Ty.int IntKind.i64, Ty.int IntKind.i64] rfl ▸ rc)] ++ ([Ed.i pr] ++ ([Ed.i ex] ++ ([Ed.i lo] ++ ([Ed.i hi] ++ ([Ed.ro [Ty.int IntKind.i64, Ty.int IntKind.i64] (rsK._proof_1 [Ty.int IntKind.i64, Ty.int IntKind.i64] [Ty.int IntKind.i64, Ty.int IntKind.i64] rfl ▸ rt)] ++ ([] ++ ([] ++ ([] ++ ([] ++ ([] ++ ([] ++ ([Ed.i tm] ++ ([Ed.i ev] ++ [])))))))))))))) ++ ([Ed.l ls] ++ ([Ed.l km] ++ ([Ed.l si] ++ ([Ed.l ac] ++ ([Ed.m es] ++ ([Ed.l ps] ++ [])))))))) = [Ed.i l, Ed.i c, Ed.i s, Ed.i hr, Ed.i st, Ed.ro _ rl, Ed.ro _ rc, Ed.i pr, Ed.i ex, Ed.i lo, Ed.i hi, Ed.ro _ rt, Ed.i tm, Ed.i ev, Ed.l ls, Ed.l km, Ed.l si, Ed.l ac, Ed.m es, Ed.l ps] /\ K (0 : Nat) [Ed.i (0 : Int)]) (Vif (decide (Sp.canE rl.xs rc.xs lo hi ls es tm l c s hr = (4 : Int))) ([] ++ [] ++ ([Ed.i l] ++ ([Ed.i c] ++ ([Ed.i s] ++ ([Ed.i hr] ++ ([Ed.i st] ++ [])))) ++ ([Ed.ro [Ty.str] (rsK._proof_1 [Ty.str] [Ty.str] rfl ▸ rsK._proof_1 [Ty.str] [Ty.str] rfl ▸ rl)] ++ ([Ed.ro [Ty.str, Ty.int IntKind.i64, Ty.int IntKind.i64, Ty.int IntKind.i64] (rsK._proof_1 [Ty.str, Ty.int IntKind.i64, Ty.int IntKind.i64, Ty.int IntKind.i64] [Ty.str, Ty.int IntKind.i64, Ty.int IntKind.i64, Ty.int IntKind.i64] rfl ▸ rsK._proof_1 [Ty.str, Ty.int IntKind.i64, Ty.int IntKind.i64, Ty.int IntKind.i64] [Ty.str, Ty.int IntKind.i64, Ty.int IntKind.i64, Ty.int IntKind.i64] rfl ▸ rc)] ++ ([Ed.i pr] ++ ([Ed.i ex] ++ ([Ed.i lo] ++ ([Ed.i hi] ++ ([Ed.ro [Ty.int IntKind.i64, Ty.int IntKind.i64] (rsK._proof_1 [Ty.int IntKind.i64, Ty.int IntKind.i64] [Ty.int IntKind.i64, Ty.int IntKind.i64] rfl ▸ rt)] ++ ([] ++ ([] ++ ([] ++ ([] ++ ([] ++ ([] ++ ([Ed.i tm] ++ ([Ed.i ev] ++ [])))))))))))))) ++ ([Ed.l ls] ++ ([Ed.l km] ++ ([Ed.l si] ++ ([Ed.l ac] ++ ([Ed.m es] ++ ([Ed.l ps] ++ [])))))))) = [Ed.i l, Ed.i c, Ed.i s, Ed.i hr, Ed.i st, Ed.ro _ rl, Ed.ro _ rc, Ed.i pr, Ed.i ex, Ed.i lo, Ed.i hi, Ed.ro _ rt, Ed.i tm, Ed.i ev, Ed.l ls, Ed.l km, Ed.l si, Ed.l ac, Ed.m es, Ed.l ps] /\ K (0 : Nat) [Ed.i (Int.ofNat (nat_lit 3 + (1 : Nat)))]) (Vif (decide (Sp.canE rl.xs rc.xs lo hi ls es tm l c s hr = (7 : Int))) ([] ++ [] ++ ([Ed.i l] ++ ([Ed.i c] ++ ([Ed.i s] ++ ([Ed.i hr] ++ ([Ed.i st] ++ [])))) ++ ([Ed.ro [Ty.str] (rsK._proof_1 [Ty.str] [Ty.str] rfl ▸ rsK._proof_1 [Ty.str] [Ty.str] rfl ▸ rl)] ++ ([Ed.ro [Ty.str, Ty.int IntKind.i64, Ty.int IntKind.i64, Ty.int IntKind.i64] (rsK._proof_1 [Ty.str, Ty.int IntKind.i64, Ty.int IntKind.i64, Ty.int IntKind.i64] [Ty.str, Ty.int IntKind.i64, Ty.int IntKind.i64, Ty.int IntKind.i64] rfl ▸ rsK._proof_1 [Ty.str, Ty.int IntKind.i64, Ty.int IntKind.i64, Ty.int IntKind.i64] [Ty.str, Ty.int IntKind.i64, Ty.int IntKind.i64, Ty.int IntKind.i64] rfl ▸ rc)] ++ ([Ed.i pr] ++ ([Ed.i ex] ++ ([Ed.i lo] ++ ([Ed.i hi] ++ ([Ed.ro [Ty.int IntKind.i64, Ty.int IntKind.i64] (rsK._proof_1 [Ty.int IntKind.i64, Ty.int IntKind.i64] [Ty.int IntKind.i64, Ty.int IntKind.i64] rfl ▸ rt)] ++ ([] ++ ([] ++ ([] ++ ([] ++ ([] ++ ([] ++ ([Ed.i tm] ++ ([Ed.i ev] ++ [])))))))))))))) ++ ([Ed.l ls] ++ ([Ed.l km] ++ ([Ed.l si] ++ ([Ed.l ac] ++ ([Ed.m es] ++ ([Ed.l ps] ++ [])))))))) = [Ed.i l, Ed.i c, Ed.i s, Ed.i hr, Ed.i st, Ed.ro _ rl, Ed.ro _ rc, Ed.i pr, Ed.i ex, Ed.i lo, Ed.i hi, Ed.ro _ rt, Ed.i tm, Ed.i ev, Ed.l ls, Ed.l km, Ed.l si, Ed.l ac, Ed.m es, Ed.l ps] /\ K (0 : Nat) [Ed.i (Int.ofNat (nat_lit 6 + (1 : Nat)))]) (Vif (decide (Sp.canE rl.xs rc.xs lo hi ls es tm l c s hr = (2 : Int))) ([] ++ [] ++ ([Ed.i l] ++ ([Ed.i c] ++ ([Ed.i s] ++ ([Ed.i hr] ++ ([Ed.i st] ++ [])))) ++ ([Ed.ro [Ty.str] (rsK._proof_1 [Ty.str] [Ty.str] rfl ▸ rsK._proof_1 [Ty.str] [Ty.str] rfl ▸ rl)] ++ ([Ed.ro [Ty.str, Ty.int IntKind.i64, Ty.int IntKind.i64, Ty.int IntKind.i64] (rsK._proof_1 [Ty.str, Ty.int IntKind.i64, Ty.int IntKind.i64, Ty.int IntKind.i64] [Ty.str, Ty.int IntKind.i64, Ty.int IntKind.i64, Ty.int IntKind.i64] rfl ▸ rsK._proof_1 [Ty.str, Ty.int IntKind.i64, Ty.int IntKind.i64, Ty.int IntKind.i64] [Ty.str, Ty.int IntKind.i64, Ty.int IntKind.i64, Ty.int IntKind.i64] rfl ▸ rc)] ++ ([Ed.i pr] ++ ([Ed.i ex] ++ ([Ed.i lo] ++ ([Ed.i hi] ++ ([Ed.ro [Ty.int IntKind.i64, Ty.int IntKind.i64] (rsK._proof_1 [Ty.int IntKind.i64, Ty.int IntKind.i64] [Ty.int IntKind.i64, Ty.int IntKind.i64] rfl ▸ rt)] ++ ([] ++ ([] ++ ([] ++ ([] ++ ([] ++ ([] ++ ([Ed.i tm] ++ ([Ed.i ev] ++ [])))))))))))))) ++ ([Ed.l ls] ++ ([Ed.l km] ++ ([Ed.l si] ++ ([Ed.l ac] ++ ([Ed.m es] ++ ([Ed.l ps] ++ [])))))))) = [Ed.i l, Ed.i c, Ed.i s, Ed.i hr, Ed.i st, Ed.ro _ rl, Ed.ro _ rc, Ed.i pr, Ed.i ex, Ed.i lo, Ed.i hi, Ed.ro _ rt, Ed.i tm, Ed.i ev, Ed.l ls, Ed.l km, Ed.l si, Ed.l ac, Ed.m es, Ed.l ps] /\ K (0 : Nat) [Ed.i (Int.ofNat (nat_lit 1 + (1 : Nat)))]) (Vif (decide (Sp.canE rl.xs rc.xs lo hi ls es tm l c s hr = (9 : Int))) ([] ++ [] ++ ([Ed.i l] ++ ([Ed.i c] ++ ([Ed.i s] ++ ([Ed.i hr] ++ ([Ed.i st] ++ [])))) ++ ([Ed.ro [Ty.str] (rsK._proof_1 [Ty.str] [Ty.str] rfl ▸ rsK._proof_1 [Ty.str] [Ty.str] rfl ▸ rl)] ++ ([Ed.ro [Ty.str, Ty.int IntKind.i64, Ty.int IntKind.i64, Ty.int IntKind.i64] (rsK._proof_1 [Ty.str, Ty.int IntKind.i64, Ty.int IntKind.i64, Ty.int IntKind.i64] [Ty.str, Ty.int IntKind.i64, Ty.int IntKind.i64, Ty.int IntKind.i64] rfl ▸ rsK._proof_1 [Ty.str, Ty.int IntKind.i64, Ty.int IntKind.i64, Ty.int IntKind.i64] [Ty.str, Ty.int IntKind.i64, Ty.int IntKind.i64, Ty.int IntKind.i64] rfl ▸ rc)] ++ ([Ed.i pr] ++ ([Ed.i ex] ++ ([Ed.i lo] ++ ([Ed.i hi] ++ ([Ed.ro [Ty.int IntKind.i64, Ty.int IntKind.i64] (rsK._proof_1 [Ty.int IntKind.i64, Ty.int IntKind.i64] [Ty.int IntKind.i64, Ty.int IntKind.i64] rfl ▸ rt)] ++ ([] ++ ([] ++ ([] ++ ([] ++ ([] ++ ([] ++ ([Ed.i tm] ++ ([Ed.i ev] ++ [])))))))))))))) ++ ([Ed.l ls] ++ ([Ed.l km] ++ ([Ed.l si] ++ ([Ed.l ac] ++ ([Ed.m es] ++ ([Ed.l ps] ++ [])))))))) = [Ed.i l, Ed.i c, Ed.i s, Ed.i hr, Ed.i st, Ed.ro _ rl, Ed.ro _ rc, Ed.i pr, Ed.i ex, Ed.i lo, Ed.i hi, Ed.ro _ rt, Ed.i tm, Ed.i ev, Ed.l ls, Ed.l km, Ed.l si, Ed.l ac, Ed.m es, Ed.l ps] /\ K (0 : Nat) [Ed.i (Int.ofNat (nat_lit 8 + (1 : Nat)))]) ([] ++ [] ++ ([Ed.i l] ++ ([Ed.i c] ++ ([Ed.i s] ++ ([Ed.i hr] ++ ([Ed.i st] ++ [])))) ++ ([Ed.ro [Ty.str] (rsK._proof_1 [Ty.str] [Ty.str] rfl ▸ rsK._proof_1 [Ty.str] [Ty.str] rfl ▸ rl)] ++ ([Ed.ro [Ty.str, Ty.int IntKind.i64, Ty.int IntKind.i64, Ty.int IntKind.i64] (rsK._proof_1 [Ty.str, Ty.int IntKind.i64, Ty.int IntKind.i64, Ty.int IntKind.i64] [Ty.str, Ty.int IntKind.i64, Ty.int IntKind.i64, Ty.int IntKind.i64] rfl ▸ rsK._proof_1 [Ty.str, Ty.int IntKind.i64, Ty.int IntKind.i64, Ty.int IntKind.i64] [Ty.str, Ty.int IntKind.i64, Ty.int IntKind.i64, Ty.int IntKind.i64] rfl ▸ rc)] ++ ([Ed.i pr] ++ ([Ed.i ex] ++ ([Ed.i lo] ++ ([Ed.i hi] ++ ([Ed.ro [Ty.int IntKind.i64, Ty.int IntKind.i64] (rsK._proof_1 [Ty.int IntKind.i64, Ty.int IntKind.i64] [Ty.int IntKind.i64, Ty.int IntKind.i64] rfl ▸ rt)] ++ ([] ++ ([] ++ ([] ++ ([] ++ ([] ++ ([] ++ ([Ed.i tm] ++ ([Ed.i ev] ++ [])))))))))))))) ++ ([Ed.l ls] ++ ([Ed.l km] ++ ([Ed.l si] ++ ([Ed.l ac] ++ ([Ed.m es] ++ ([Ed.l ps] ++ [])))))))) = [Ed.i l, Ed.i c, Ed.i s, Ed.i hr, Ed.i st, Ed.ro _ rl, Ed.ro _ rc, Ed.i pr, Ed.i ex, Ed.i lo, Ed.i hi, Ed.ro _ rt, Ed.i tm, Ed.i ev, Ed.l ls, Ed.l km, Ed.l si, Ed.l ac, Ed.m es, Ed.l ps] /\ K (0 : Nat) [Ed.i (Int.ofNat (nat_lit 4 + (1 : Nat)))]))))))
theorem vcc_firstC (W : InW) (l c s hr st rl rc pr ex lo hi rt tm ev ls km si ac es ps K) : coreK (cxT Try.prog TT TPf 1000 50) 1000 53 [.fn (.func 54) [] [.ptr 1 0, .ptr 4 0]] [(1, .blk 90 [.ptr 7 0]), (4, .blk 63 [.si .i64 l, .si .i64 c, .si .i64 s, .si .i64 hr, .si .i64 st]), (7, .blk 95 [.rs _ rl, .rs _ rc, .si .i64 pr, .si .i64 ex, .si .i64 lo, .si .i64 hi, .rs _ rt, .rw 10, .rw 13, .rw 16, .rw 19, .mp 22, .rw 25, .si .i64 tm, .si .i64 ev]), (10, .arr 63 Iv5 ls), (13, .arr 3 [.int .i64] km), (16, .arr 3 [.int .i64] si), (19, .arr 3 [.int .i64] ac), (22, .obj (.mpI es)), (25, .arr 61 Iv4 ps)] (fun v h => outC cc_firstC.H [.i l, .i c, .i s, .i hr, .i st, .ro _ rl, .ro _ rc, .i pr, .i ex, .i lo, .i hi, .ro _ rt, .i tm, .i ev, .l ls, .l km, .l si, .l ac, .m es, .l ps] cc_firstC.outs 0 false v h K) (fun v h => outC cc_firstC.H [.i l, .i c, .i s, .i hr, .i st, .ro _ rl, .ro _ rc, .i pr, .i ex, .i lo, .i hi, .ro _ rt, .i tm, .i ev, .l ls, .l km, .l si, .l ac, .m es, .l ps] cc_firstC.outs 0 true v h K) = VCC_firstC l c s hr st rl rc pr ex lo hi rt tm ev ls km si ac es ps K := by kernel_rfl
theorem okc_firstC (hyp_ : ∀ (W : InW) (l : Int) (c : Int) (s : Int) (hr : Int) (st : Int) (rl : Ro [.str]) (rc : Ro Ivs) (pr : Int) (ex : Int) (lo : Int) (hi : Int) (rt : Ro [.int .i64, .int .i64]) (tm : Int) (ev : Int) (ls : Dt) (km : Dt) (si : Dt) (ac : Dt) (es : List (Int × Int)) (ps : Dt) (K : Nat -> List Ed -> Prop), sp_firstC [.i l, .i c, .i s, .i hr, .i st, .ro _ rl, .ro _ rc, .i pr, .i ex, .i lo, .i hi, .ro _ rt, .i tm, .i ev, .l ls, .l km, .l si, .l ac, .m es, .l ps] K -> VCC_firstC l c s hr st rl rc pr ex lo hi rt tm ev ls km si ac es ps K) : ∀ W : InW, @CallC W Try.prog cc_firstC :=
  CC.okOf (fun W => @TT W) (fun W => @TT_ok W) mixed_ok TPf 1000 50 cc_firstC fun W l c s hr st rl rc pr ex lo hi rt tm ev ls km si ac es ps K hs => (vcc_firstC W l c s hr st rl rc pr ex lo hi rt tm ev ls km si ac es ps K).mpr (hyp_ W l c s hr st rl rc pr ex lo hi rt tm ev ls km si ac es ps K hs)
theorem okfirstC : ∀ W : InW, @CallC W Try.prog cc_firstC := okc_firstC fun W l c s hr st rl rc pr ex lo hi rt tm ev ls km si ac es ps K hs => by
  obtain ⟨hc, hk⟩ := hs;unfold VCC_firstC;have hin := Sp.canE_in rl.xs rc.xs lo hi ls es tm l c s hr;generalize Sp.canE rl.xs rc.xs lo hi ls es tm l c s hr = E at *;exact ⟨hc, vifd (fun e => ⟨rfl, by subst e; exact hk⟩) fun e0 => vifd (fun e => ⟨rfl, by subst e; exact hk⟩) fun e1 => vifd (fun e => ⟨rfl, by subst e; exact hk⟩) fun e2 => vifd (fun e => ⟨rfl, by subst e; exact hk⟩) fun e3 => vifd (fun e => ⟨rfl, by subst e; exact hk⟩) fun e4 => ⟨rfl, by obtain rfl : E = 5 := (by omega); exact hk⟩⟩
noncomputable def ce_firstC : CE Try.prog := ceOf cc_firstC okfirstC
noncomputable def TPg : Tab Try.prog := ⟨[], [], [ce_firstC]⟩
namespace Sp
def firstH (s : Sch) (b : Bks) (l c h : Int) : Nat -> Int -> Option Int
  | 0, _ => none
  | n + 1, x => if canE s.rl s.rc s.lo s.hi b.ls b.es b.tm l c x h = 0 then some x else firstH s b l c h n (x + 1)
def fB (s : Sch) (b : Bks) (l c h x : Int) : Bool := (firstH s b l c h (4801 - x).toNat x).isSome
def fS (s : Sch) (b : Bks) (l c h x : Int) : Int := (firstH s b l c h (4801 - x).toNat x).getD 0
end Sp
def sp_firstL [InW] (e : List Ed) (K : Nat -> List Ed -> Prop) : Prop := match e with
  | [.i l, .i c, .i s, .i hr, .i st, .ro _ rl, .ro _ rc, .i pr, .i ex, .i lo, .i hi, .ro _ rt, .i tm, .i ev, .l ls, .l km, .l si, .l ac, .m es, .l ps] =>
    Pre (Sp.CalmP ls /\ 0 <= s /\ s <= 4801) (Vif (Sp.fB ⟨rl.xs, rc.xs, pr, ex, lo, hi, rt.xs⟩ ⟨ls, km, si, ac, es, ps, tm, ev⟩ l c hr s) (K 1 [.i (Sp.fS ⟨rl.xs, rc.xs, pr, ex, lo, hi, rt.xs⟩ ⟨ls, km, si, ac, es, ps, tm, ev⟩ l c hr s)]) (K 0 []))
  | _ => False
noncomputable def lc_firstL : LC where
  len := 73
  T := [(14, (.ptr 1 0)), (17, (.ptr 6 0))]
  H := [(1, .blk 90 [(.ptr 7 0)]), (6, .blk 63 [.int .i64, .int .i64, .int .i64, .int .i64, .int .i64]), (7, .blk 95 [.rs [.str], .rs Ivs, .int .i64, .int .i64, .int .i64, .int .i64, .rs [.int .i64, .int .i64], (.row 10), (.row 13), (.row 16), (.row 19), (.mp 22), (.row 25), .int .i64, .int .i64]), (10, .arr 63 Iv5), (13, .arr 3 [.int .i64]), (16, .arr 3 [.int .i64]), (19, .arr 3 [.int .i64]), (22, .mpI), (25, .arr 61 Iv4)]
  W := [12, 13, 60, 61, 62, 63, 64, 65, 66, 67, 68, 69, 70, 71, 72]
  outs := [⟨.exit 1, [], [], [12, 13, 14, 17, 60, 61, 62, 63, 64, 65, 66, 67, 68, 69, 70, 71, 72]⟩, ⟨.ret, [(12, .int .i64), (13, (.lit (.int .i64 0)))], [], [14, 17, 60, 61, 62, 63, 64, 65, 66, 67, 68, 69, 70, 71, 72]⟩]
  spec := sp_firstL
def VCL_firstL [W : InW] (l c s hr st : Int) (rl : Ro [.str]) (rc : Ro Ivs) (pr ex lo hi : Int) (rt : Ro [.int .i64, .int .i64]) (tm ev : Int) (ls km si ac : Dt) (es : List (Int × Int)) (ps : Dt) (A : List Ed -> Prop) (K : Nat -> List Ed -> Prop) : Prop :=
  Vif (decide (s <= (4800 : Int))) (Pre (Sp.CalmP ls) (Vif (decide (Sp.canE rl.xs rc.xs lo hi ls es tm l c s hr = (0 : Int))) (K (0+1 : Nat) [.i s]) (Ar .i64 (s + (1 : Int)) fun z => A [.i l, .i c, .i z, .i hr, .i st, .ro _ rl, .ro _ rc, .i pr, .i ex, .i lo, .i hi, .ro _ rt, .i tm, .i ev, .l ls, .l km, .l si, .l ac, .m es, .l ps]))) (K (0 : Nat) [])
theorem vcl_firstL (W : InW) (l c s hr st rl rc pr ex lo hi rt tm ev ls km si ac es ps A K) : vcTop { cxT Try.prog TT TPg 1000 50 with fn := 28 } 1000 (loopAt Try.prog 28 10) (tmOut 73 [(14, .ptr 1 0), (17, .ptr 6 0)] [12, 13, 60, 61, 62, 63, 64, 65, 66, 67, 68, 69, 70, 71, 72]) [(1, .blk 90 [.ptr 7 0]), (6, .blk 63 [.si .i64 l, .si .i64 c, .si .i64 s, .si .i64 hr, .si .i64 st]), (7, .blk 95 [.rs _ rl, .rs _ rc, .si .i64 pr, .si .i64 ex, .si .i64 lo, .si .i64 hi, .rs _ rt, .rw 10, .rw 13, .rw 16, .rw 19, .mp 22, .rw 25, .si .i64 tm, .si .i64 ev]), (10, .arr 63 Iv5 ls), (13, .arr 3 [.int .i64] km), (16, .arr 3 [.int .i64] si), (19, .arr 3 [.int .i64] ac), (22, .obj (.mpI es)), (25, .arr 61 Iv4 ps)] (roundL lc_firstL A K) = VCL_firstL l c s hr st rl rc pr ex lo hi rt tm ev ls km si ac es ps A K := by kernel_rfl
def okLt_firstL : Prop := ∀ (W : InW) (body a : Code), (Try.prog.funcs[28]?).bind (·.body) = some body -> a ∈ loopsIn body -> keyOf a = 10 -> @LoopOk W Try.prog a (@loopRun W lc_firstL)
theorem okl_firstL (meas : [InW] -> List Ed -> Nat) (hyp_ : ∀ (W : InW) (l : Int) (c : Int) (s : Int) (hr : Int) (st : Int) (rl : Ro [.str]) (rc : Ro Ivs) (pr : Int) (ex : Int) (lo : Int) (hi : Int) (rt : Ro [.int .i64, .int .i64]) (tm : Int) (ev : Int) (ls : Dt) (km : Dt) (si : Dt) (ac : Dt) (es : List (Int × Int)) (ps : Dt) (K : Nat -> List Ed -> Prop), sp_firstL [.i l, .i c, .i s, .i hr, .i st, .ro _ rl, .ro _ rc, .i pr, .i ex, .i lo, .i hi, .ro _ rt, .i tm, .i ev, .l ls, .l km, .l si, .l ac, .m es, .l ps] K -> ∀ A : List Ed -> Prop, (∀ e, meas e < meas [.i l, .i c, .i s, .i hr, .i st, .ro _ rl, .ro _ rc, .i pr, .i ex, .i lo, .i hi, .ro _ rt, .i tm, .i ev, .l ls, .l km, .l si, .l ac, .m es, .l ps] -> sp_firstL e K -> A e) -> VCL_firstL l c s hr st rl rc pr ex lo hi rt tm ev ls km si ac es ps A K) : okLt_firstL :=
  LE.okOf' (fun W => @TT W) (fun W => @TT_ok W) mixed_ok TPg 1000 50 (by kernel_rfl) lc_firstL (fun W => @meas W) fun W l c s hr st rl rc pr ex lo hi rt tm ev ls km si ac es ps K hs =>
    (vcl_firstL W l c s hr st rl rc pr ex lo hi rt tm ev ls km si ac es ps (fun e => meas e < meas [.i l, .i c, .i s, .i hr, .i st, .ro _ rl, .ro _ rc, .i pr, .i ex, .i lo, .i hi, .ro _ rt, .i tm, .i ev, .l ls, .l km, .l si, .l ac, .m es, .l ps] /\ sp_firstL e K) K).mpr (hyp_ W l c s hr st rl rc pr ex lo hi rt tm ev ls km si ac es ps K hs _ fun e h1 h2 => ⟨h1, h2⟩)
theorem okLfirstL : okLt_firstL := okl_firstL (fun e => match e with | _ :: _ :: .i s :: _ => (4801 - s).toNat | _ => 0) fun W l c s hr st rl rc pr ex lo hi rt tm ev ls km si ac es ps K hs A hA => by
  obtain ⟨⟨hc, h0, h1⟩, hk⟩ := hs;unfold VCL_firstL;unfold Sp.fB Sp.fS at hk;refine vifd (fun e => ⟨hc, ?_⟩) fun e => ?_
  · rw [show (4801 - s).toNat = (4801 - (s + 1)).toNat + 1 by omega, Sp.firstH] at hk;refine vifd (fun e1 => ?_) fun e1 => ar64 (by omega) (hA _ ?_ ⟨⟨hc, by omega, by omega⟩, ?_⟩)
    · rw [if_pos e1] at hk;exact hk.1 rfl
    · show (4801 - (s + 1)).toNat < (4801 - s).toNat
      omega
    · rw [if_neg e1] at hk;exact hk
  · rw [show (4801 - s).toNat = 0 by omega, Sp.firstH] at hk;exact hk.2 rfl
noncomputable def le_firstL : LE Try.prog := ⟨28, 10, fun W => @loopRun W lc_firstL, okLfirstL⟩
noncomputable def TPh : Tab Try.prog := ⟨[pc_out], [le_firstL], [ce_run50]⟩
def VC_bFirst [W : InW] (s_Learners : Ro [.str]) (s_Cars : Ro Ivs) (s_Price s_Excess s_Lo s_Hi : Int) (s_Terms : Ro [.int .i64, .int .i64]) (evs : Ro Iv11) (learner car from_ hours : Int) (Q : DS -> Prop) : Prop :=
  Vif (decide (Sp.runErr s_Learners.xs s_Cars.xs s_Price s_Excess s_Lo s_Hi s_Terms.xs evs.xs = (0 : Int))) (Ar .i64 ((↑(s_Learners.xs.length) : Int) - (1 : Int)) fun z => Pre True (Vif (Sp.out (0 : Int) z [[Cl.i learner]]) (Q [[Cl.i (0 : Int)], [Cl.i (4 : Int)]]) (Ar .i64 ((↑(s_Cars.xs.length) : Int) - (1 : Int)) fun z => Pre True (Vif (Sp.out (0 : Int) z [[Cl.i car]]) (Q [[Cl.i (0 : Int)], [Cl.i (4 : Int)]]) (Pre True (Vif (Sp.out (0 : Int) (4800 : Int) [[Cl.i from_]]) (Q [[Cl.i (0 : Int)], [Cl.i (7 : Int)]]) (Pre True (Vif (Sp.out (1 : Int) (4 : Int) [[Cl.i hours]]) (Q [[Cl.i (0 : Int)], [Cl.i (7 : Int)]]) (Pre (Sp.CalmP (Sp.runAll ⟨s_Learners.xs, s_Cars.xs, s_Price, s_Excess, s_Lo, s_Hi, s_Terms.xs⟩ evs.xs).ls /\ (0 : Int) <= from_ /\ from_ <= (4801 : Int)) (Vif (Sp.fB ⟨s_Learners.xs, s_Cars.xs, s_Price, s_Excess, s_Lo, s_Hi, s_Terms.xs⟩ { ls := (Sp.runAll ⟨s_Learners.xs, s_Cars.xs, s_Price, s_Excess, s_Lo, s_Hi, s_Terms.xs⟩ evs.xs).ls, km := (Sp.runAll ⟨s_Learners.xs, s_Cars.xs, s_Price, s_Excess, s_Lo, s_Hi, s_Terms.xs⟩ evs.xs).km, si := (Sp.runAll ⟨s_Learners.xs, s_Cars.xs, s_Price, s_Excess, s_Lo, s_Hi, s_Terms.xs⟩ evs.xs).si, ac := (Sp.runAll ⟨s_Learners.xs, s_Cars.xs, s_Price, s_Excess, s_Lo, s_Hi, s_Terms.xs⟩ evs.xs).ac, es := (Sp.runAll ⟨s_Learners.xs, s_Cars.xs, s_Price, s_Excess, s_Lo, s_Hi, s_Terms.xs⟩ evs.xs).es, ps := (Sp.runAll ⟨s_Learners.xs, s_Cars.xs, s_Price, s_Excess, s_Lo, s_Hi, s_Terms.xs⟩ evs.xs).ps, tm := (Sp.runAll ⟨s_Learners.xs, s_Cars.xs, s_Price, s_Excess, s_Lo, s_Hi, s_Terms.xs⟩ evs.xs).tm, ev := (Sp.runAll ⟨s_Learners.xs, s_Cars.xs, s_Price, s_Excess, s_Lo, s_Hi, s_Terms.xs⟩ evs.xs).ev } learner car hours from_) (Q [[Cl.i (Sp.fS ⟨s_Learners.xs, s_Cars.xs, s_Price, s_Excess, s_Lo, s_Hi, s_Terms.xs⟩ { ls := (Sp.runAll ⟨s_Learners.xs, s_Cars.xs, s_Price, s_Excess, s_Lo, s_Hi, s_Terms.xs⟩ evs.xs).ls, km := (Sp.runAll ⟨s_Learners.xs, s_Cars.xs, s_Price, s_Excess, s_Lo, s_Hi, s_Terms.xs⟩ evs.xs).km, si := (Sp.runAll ⟨s_Learners.xs, s_Cars.xs, s_Price, s_Excess, s_Lo, s_Hi, s_Terms.xs⟩ evs.xs).si, ac := (Sp.runAll ⟨s_Learners.xs, s_Cars.xs, s_Price, s_Excess, s_Lo, s_Hi, s_Terms.xs⟩ evs.xs).ac, es := (Sp.runAll ⟨s_Learners.xs, s_Cars.xs, s_Price, s_Excess, s_Lo, s_Hi, s_Terms.xs⟩ evs.xs).es, ps := (Sp.runAll ⟨s_Learners.xs, s_Cars.xs, s_Price, s_Excess, s_Lo, s_Hi, s_Terms.xs⟩ evs.xs).ps, tm := (Sp.runAll ⟨s_Learners.xs, s_Cars.xs, s_Price, s_Excess, s_Lo, s_Hi, s_Terms.xs⟩ evs.xs).tm, ev := (Sp.runAll ⟨s_Learners.xs, s_Cars.xs, s_Price, s_Excess, s_Lo, s_Hi, s_Terms.xs⟩ evs.xs).ev } learner car hours from_)], [Cl.i (0 : Int)]]) (Q [[Cl.i (0 : Int)], [Cl.i (9 : Int)]]))))))))))) (Vif (!decide (Sp.runErr s_Learners.xs s_Cars.xs s_Price s_Excess s_Lo s_Hi s_Terms.xs evs.xs = (0 : Int))) (Q [[Cl.i (0 : Int)], [Cl.i (Sp.runErr s_Learners.xs s_Cars.xs s_Price s_Excess s_Lo s_Hi s_Terms.xs evs.xs)]]) (Ar .i64 ((↑(s_Learners.xs.length) : Int) - (1 : Int)) fun z => Pre True (Vif (Sp.out (0 : Int) z [[Cl.i learner]]) (Q [[Cl.i (0 : Int)], [Cl.i (4 : Int)]]) (Ar .i64 ((↑(s_Cars.xs.length) : Int) - (1 : Int)) fun z => Pre True (Vif (Sp.out (0 : Int) z [[Cl.i car]]) (Q [[Cl.i (0 : Int)], [Cl.i (4 : Int)]]) (Pre True (Vif (Sp.out (0 : Int) (4800 : Int) [[Cl.i from_]]) (Q [[Cl.i (0 : Int)], [Cl.i (7 : Int)]]) (Pre True (Vif (Sp.out (1 : Int) (4 : Int) [[Cl.i hours]]) (Q [[Cl.i (0 : Int)], [Cl.i (7 : Int)]]) ((435 : Nat) = (435 : Nat) + (1 : Nat)))))))))))
theorem vc_bFirst (W : InW) (s_Learners s_Cars s_Price s_Excess s_Lo s_Hi s_Terms evs learner car from_ hours Q) : bodyK (cxT Try.prog TT TPh 1000 50) 1000 28 [.agg [.rs _ s_Learners, .rs _ s_Cars, .si .i64 s_Price, .si .i64 s_Excess, .si .i64 s_Lo, .si .i64 s_Hi, .rs _ s_Terms], .rs _ evs, .si .i64 learner, .si .i64 car, .si .i64 from_, .si .i64 hours] [] 0 (leafK [(false, [.int .i64]), (false, [.int .i64])] Q) (fun _ _ _ _ => Stuck 421) = VC_bFirst s_Learners s_Cars s_Price s_Excess s_Lo s_Hi s_Terms evs learner car from_ hours Q := by kernel_rfl
abbrev ats_bFirst : List AT := [.agg [.sl [.str], .sl Ivs, .int .i64, .int .i64, .int .i64, .int .i64, .sl [.int .i64, .int .i64]], .one (.sl Iv11), .one (.int .i64), .one (.int .i64), .one (.int .i64), .one (.int .i64)]
theorem ok_bFirst {pre : DS -> Prop} {res : DS -> DS} (hyp_ : ∀ (W : InW) (s_Learners : Ro [.str]) (s_Cars : Ro Ivs) (s_Price : Int) (s_Excess : Int) (s_Lo : Int) (s_Hi : Int) (s_Terms : Ro [.int .i64, .int .i64]) (evs : Ro Iv11) (learner : Int) (car : Int) (from_ : Int) (hours : Int), pre [[.l s_Learners.xs, .l s_Cars.xs, .i s_Price, .i s_Excess, .i s_Lo, .i s_Hi, .l s_Terms.xs], [.l evs.xs], [.i learner], [.i car], [.i from_], [.i hours]] -> ∀ Q : DS -> Prop, Q (res [[.l s_Learners.xs, .l s_Cars.xs, .i s_Price, .i s_Excess, .i s_Lo, .i s_Hi, .l s_Terms.xs], [.l evs.xs], [.i learner], [.i car], [.i from_], [.i hours]]) -> VC_bFirst s_Learners s_Cars s_Price s_Excess s_Lo s_Hi s_Terms evs learner car from_ hours Q) : PureOk Try.prog 28 ats_bFirst [(false, [.int .i64]), (false, [.int .i64])] pre res :=
  PureOk.of' (fun W => @TT W) (fun W => @TT_ok W) mixed_ok TPh 1000 50 fun W s_Learners s_Cars s_Price s_Excess s_Lo s_Hi s_Terms evs learner car from_ hours hp =>
    (vc_bFirst W s_Learners s_Cars s_Price s_Excess s_Lo s_Hi s_Terms evs learner car from_ hours (fun o => o = res [[.l s_Learners.xs, .l s_Cars.xs, .i s_Price, .i s_Excess, .i s_Lo, .i s_Hi, .l s_Terms.xs], [.l evs.xs], [.i learner], [.i car], [.i from_], [.i hours]])).mpr (hyp_ W s_Learners s_Cars s_Price s_Excess s_Lo s_Hi s_Terms evs learner car from_ hours hp _ rfl)
namespace Sp
def firE (s : Sch) (evs : Dt) (l c f h : Int) : Int :=
  if rErr s evs = 0 then (if !(inr l 0 ((s.rl.length : Int) - 1) && inr c 0 ((s.rc.length : Int) - 1)) then 4 else if !(inr f 0 4800 && inr h 1 4) then 7 else if fB s (runAll s evs) l c h f then 0 else 9) else rErr s evs
def firV (s : Sch) (evs : Dt) (l c f h : Int) : Int := if firE s evs l c f h = 0 then fS s (runAll s evs) l c h f else 0
end Sp
abbrev res_bFirst (ds : DS) : DS := match ds with | [[.l rl, .l rc, .i pr, .i ex, .i lo, .i hi, .l rt], [.l evs], [.i l], [.i c], [.i f], [.i h]] => [[.i (Sp.firV ⟨rl, rc, pr, ex, lo, hi, rt⟩ evs l c f h)], [.i (Sp.firE ⟨rl, rc, pr, ex, lo, hi, rt⟩ evs l c f h)]] | _ => []
namespace Sp
theorem Inv.run {s : Sch} {evs : Dt} : ∀ (n : Nat) (i : Int) (b : Bks), Inv s b i -> i + n <= 60 -> Inv s (runB s evs n i b) (i + n)
  | 0, i, b, h, _ => by simpa [runB] using h
  | n + 1, i, b, h, hn => by
    have := Inv.run (evs := evs) n (i + 1) _ (h.step (by omega) (evt evs i)) (by omega);rw [show i + ((n + 1 : Nat) : Int) = i + 1 + n by omega];exact this
theorem rErr_ok {s : Sch} {evs : Dt} (h : rErr s evs = 0) : s.Ok /\ evs.length <= 60 := by
  unfold rErr runErr at h
  split at h
  · rename_i e
    split at h
    · cases h
    · exact ⟨chk_ok e, by omega⟩
  · rename_i e; exact absurd h e
theorem rErr_inv {s : Sch} {evs : Dt} (h : rErr s evs = 0) : Inv s (runAll s evs) evs.length := by
  obtain ⟨h1, h2⟩ := rErr_ok h;have := Inv.run (evs := evs) evs.length 0 _ (Inv.zero h1) (by omega);rw [Int.zero_add] at this;exact this
end Sp
theorem okbFirst : PureOk Try.prog 28 ats_bFirst [(false, [.int .i64]), (false, [.int .i64])] (fun _ => True) res_bFirst :=
  ok_bFirst fun W rl rc pr ex lo hi rt evs l c f hr _ Q h => by
    unfold VC_bFirst;have hm := rl.len;have hm2 := rc.len;simp only [maxLen] at hm hm2;simp only [res_bFirst, Sp.firV, Sp.firE] at h
    by_cases e : Sp.rErr ⟨rl.xs, rc.xs, pr, ex, lo, hi, rt.xs⟩ evs.xs = 0
    · have hI := Sp.rErr_inv e;rw [show Sp.runErr rl.xs rc.xs pr ex lo hi rt.xs evs.xs = 0 from e];simp only [if_pos e] at h;simp only [out1];refine ⟨fun _ => ?_, fun h => absurd h (by decide)⟩;refine ar64 (by omega) ⟨trivial, vif (fun e1 => ?_) fun e1 => ar64 (by omega) ⟨trivial, vif (fun e2 => ?_) fun e2 => ⟨trivial, vif (fun e3 => ?_) fun e3 => ⟨trivial, vif (fun e4 => ?_) fun e4 => ⟨⟨hI.calm, ?_⟩, vif (fun e5 => ?_) fun e5 => ?_⟩⟩⟩⟩⟩
      · simpa [e1] using h
      · simpa [e1, e2] using h
      · simpa [e1, e2, e3] using h
      · simpa [e1, e2, e3, e4] using h
      · have := Sp.inr_iff.1 (by simpa using e3);omega
      · rw [Bool.not_eq_false'] at e1 e2 e3 e4;simp only [e1, e2, e3, e4, Bool.and_self, Bool.not_true, Bool.false_eq_true, if_false] at h;have e6 : Sp.fB ⟨rl.xs, rc.xs, pr, ex, lo, hi, rt.xs⟩ (Sp.runAll ⟨rl.xs, rc.xs, pr, ex, lo, hi, rt.xs⟩ evs.xs) l c hr f = true := e5;simp only [e6, if_true] at h;exact h
      · rw [Bool.not_eq_false'] at e1 e2 e3 e4;simp only [e1, e2, e3, e4, Bool.and_self, Bool.not_true, Bool.false_eq_true, if_false] at h;have e6 : Sp.fB ⟨rl.xs, rc.xs, pr, ex, lo, hi, rt.xs⟩ (Sp.runAll ⟨rl.xs, rc.xs, pr, ex, lo, hi, rt.xs⟩ evs.xs) l c hr f = false := e5;rw [e6] at h;exact h
    · rw [if_neg e] at h;have e' : ¬ Sp.runErr rl.xs rc.xs pr ex lo hi rt.xs evs.xs = 0 := e;rw [if_neg e] at h;exact vifd (fun e1 => absurd e1 e') fun e1 => vif (fun _ => h) fun h => absurd h (by simpa using e')
noncomputable def pc_bFirst : PC Try.prog := ⟨28, ats_bFirst, [(false, [.int .i64]), (false, [.int .i64])], fun _ => True, res_bFirst, okbFirst⟩
open Go.RowKit
set_option maxRecDepth 100000
namespace Sp
def sameI (a b : Dt) : Nat -> Nat -> Bool
  | _, 0 => true
  | i, n + 1 => (if (cel a i 0).int = (cel b i 0).int then true else false) && sameI a b (i + 1) n
end Sp
open Go.RowKit
set_option maxRecDepth 100000
open Go.RowKit
set_option maxRecDepth 100000
theorem notT {b : Bool} (h : (!b) = true) : b = false := by cases b <;> simp_all
theorem notF {b : Bool} (h : (!b) = false) : b = true := by cases b <;> simp_all
theorem vifn [InW] {p : Prop} {_ : Decidable p} {A B : Prop} (h : ¬ p -> A) (h2 : p -> B) : Vif (!decide p) A B := ⟨fun e => h (of_decide_eq_false (notT e)), fun e => h2 (of_decide_eq_true (notF e))⟩
open Go.RowKit
set_option maxRecDepth 100000
abbrev lM1 (n : Int) : Pt := .lit (.int .i64 n)
abbrev vM1 [W : InW] (n : Int) : AV := .v (.int .i64 n)
abbrev pM1xa : Nat × PI := (10, .row 65 11 6 [lM1 0, lM1 0, lM1 0, lM1 0, lM1 0, lM1 33, lM1 2, lM1 0, lM1 0, lM1 0, lM1 0, lM1 0, lM1 0, lM1 1, lM1 0, lM1 0, lM1 34, lM1 1, lM1 0, lM1 0, lM1 0, lM1 0, lM1 0, lM1 0, lM1 1, lM1 1, lM1 0, lM1 34, lM1 1, lM1 0, lM1 0, lM1 0, lM1 0, lM1 1, lM1 5, lM1 0, lM1 0, lM1 0, lM1 0, lM1 0, lM1 0, lM1 0, lM1 0, lM1 0, lM1 3, lM1 35, lM1 0, lM1 0, lM1 1, lM1 0, lM1 0, lM1 0, lM1 0, lM1 150, lM1 0, lM1 5, lM1 36, lM1 0, lM1 0, lM1 1, lM1 0, lM1 0, lM1 0, lM1 0, lM1 0, lM1 50000])
abbrev pM1xb : Nat × PI := (10, .row 65 11 5 [lM1 0, lM1 0, lM1 0, lM1 0, lM1 0, lM1 33, lM1 2, lM1 0, lM1 0, lM1 0, lM1 0, lM1 0, lM1 0, lM1 1, lM1 0, lM1 0, lM1 34, lM1 1, lM1 0, lM1 0, lM1 0, lM1 0, lM1 0, lM1 0, lM1 1, lM1 1, lM1 0, lM1 34, lM1 1, lM1 0, lM1 0, lM1 0, lM1 0, lM1 2, lM1 4, lM1 0, lM1 0, lM1 0, lM1 0, lM1 0, lM1 1, lM1 1, lM1 0, lM1 0, lM1 1, lM1 5, lM1 0, lM1 0, lM1 0, lM1 0, lM1 0, lM1 0, lM1 0, lM1 0, lM1 0])
abbrev pM1xc : Nat × PI := (10, .row 65 11 4 [lM1 0, lM1 0, lM1 0, lM1 0, lM1 0, lM1 33, lM1 2, lM1 0, lM1 0, lM1 0, lM1 0, lM1 0, lM1 0, lM1 1, lM1 0, lM1 0, lM1 34, lM1 1, lM1 0, lM1 0, lM1 0, lM1 0, lM1 0, lM1 0, lM1 1, lM1 1, lM1 0, lM1 34, lM1 1, lM1 0, lM1 0, lM1 0, lM1 0, lM1 1, lM1 5, lM1 0, lM1 0, lM1 0, lM1 0, lM1 0, lM1 0, lM1 0, lM1 0, lM1 0])
abbrev pM1xd : Nat × PI := (4, .row 67 4 2 [.lit (Value.string { data := { toList := [ 109 , 105 , 110 , 105 ] } }), lM1 0, lM1 100, lM1 2, .lit (Value.string { data := { toList := [ 118 , 97 , 110 ] } }), lM1 500, lM1 200, lM1 0])
abbrev pM1xe : Nat × PI := (7, .row 67 4 2 [.lit (Value.string { data := { toList := [ 109 , 105 , 110 , 105 ] } }), lM1 0, lM1 100, lM1 2, .lit (Value.string { data := { toList := [ 118 , 97 , 110 ] } }), lM1 500, lM1 200, lM1 0])
abbrev pM1xf : Nat × PI := (1, .blk 95 [.sl 4 0 0 2, .sl 7 0 0 2, lM1 4000, lM1 30000, lM1 8, lM1 20, .sl 10 0 0 2, .sl 13 0 0 1, .sl 16 0 0 2, .sl 19 0 0 2, .sl 22 0 0 6, .mp 25, .lit (Value.slice none 0 0), lM1 0, lM1 1])
abbrev pM1xg : Nat × PI := (1, .blk 95 [.sl 4 0 0 2, .sl 7 0 0 2, lM1 4000, lM1 30000, lM1 8, lM1 20, .sl 10 0 0 2, .sl 13 0 0 2, .sl 16 0 0 2, .sl 19 0 0 2, .sl 22 0 0 6, .mp 25, .lit (Value.slice none 0 0), lM1 0, lM1 2])
abbrev pM1xh : Nat × PI := (1, .blk 95 [.sl 4 0 0 2, .sl 7 0 0 2, lM1 4000, lM1 30000, lM1 8, lM1 20, .sl 10 0 0 2, .sl 13 0 0 2, .sl 16 0 0 2, .sl 19 0 0 2, .sl 22 0 0 6, .mp 25, .lit (Value.slice none 0 0), lM1 4, lM1 3])
abbrev pM1xi : Nat × PI := (1, .row 9 1 2 [.lit (Value.string { data := { toList := [ 97 , 110 , 110 ] } }), .lit (Value.string { data := { toList := [ 98 , 101 , 110 ] } })])
abbrev pM1xj : Nat × PI := (4, .row 9 1 2 [.lit (Value.string { data := { toList := [ 97 , 110 , 110 ] } }), .lit (Value.string { data := { toList := [ 98 , 101 , 110 ] } })])
abbrev pM1xba : Nat × PI := (22, .row 3 1 6 [lM1 (Int.negSucc 3999), lM1 (Int.negSucc 3999), lM1 8000, lM1 0, lM1 0, lM1 0])
abbrev pM1xbb : Nat × PI := (13, .row 63 5 2 [lM1 0, lM1 0, lM1 33, lM1 2, lM1 0, lM1 1, lM1 1, lM1 34, lM1 1, lM1 0])
abbrev pM1xbc : Nat × PI := (13, .row 63 5 2 [lM1 0, lM1 0, lM1 33, lM1 2, lM1 1, lM1 1, lM1 1, lM1 34, lM1 1, lM1 0])
abbrev pM1xbd : Nat × PI := (13, .row 63 5 2 [lM1 0, lM1 0, lM1 33, lM1 2, lM1 1, lM1 1, lM1 1, lM1 34, lM1 1, lM1 2])
abbrev pM1xbe : Nat × PI := (13, .row 63 5 2 [lM1 0, lM1 0, lM1 57, lM1 2, lM1 0, lM1 1, lM1 1, lM1 34, lM1 1, lM1 0])
abbrev pM1xbf : Nat × PI := (22, .row 3 1 6 [lM1 (Int.negSucc 3999), lM1 0, lM1 4000, lM1 0, lM1 0, lM1 0])
def xsM1 [W : InW] (c : CC) : List AV := match insL c.args [] with | some x => x.1 | none => []
def ysM1 [W : InW] (c : CC) : Heap := match insH c.H [] with | some x => x.1 | none => []
def cc_mbxb : CC where
  g := 16
  args := [.agg [.sl 1 0 0 2, .sl 4 0 0 2, lM1 4000, lM1 30000, lM1 8, lM1 20, .sl 7 0 0 2]]
  H := [pM1xi, pM1xd, (7, .row 85 2 2 [lM1 48, lM1 0, lM1 24, lM1 500])]
  outs := [⟨false, .tup [lM1 0, lM1 0, lM1 0], [pM1xi, pM1xd, (7, .row 85 2 2 [lM1 48, lM1 0, lM1 24, lM1 500])], false⟩]
  spec := fun _ K => K 0 []
noncomputable def TM_mbxb : Tab Try.prog := ⟨[], [], []⟩
theorem vc_mbxb (W : InW) (K : Nat -> List Ed -> Prop) : coreK (cxT Try.prog TT TM_mbxb 1000 50) 1000 16 (xsM1 cc_mbxb) (ysM1 cc_mbxb) (fun v h => outC cc_mbxb.H [] cc_mbxb.outs 0 false v h K) (fun v h => outC cc_mbxb.H [] cc_mbxb.outs 0 true v h K) = K 0 [] := by kernel_rfl
theorem ok_mbxb : ∀ W : InW, @CallC W Try.prog cc_mbxb :=
  CC.okOf (fun W => @TT W) (fun W => @TT_ok W) mixed_ok TM_mbxb 1000 50 cc_mbxb fun W K h => (vc_mbxb W K).mpr h
noncomputable def ce_mbxb : CE Try.prog := ceOf cc_mbxb ok_mbxb
def cc_mbxc : CC where
  g := 18
  args := [.agg [.sl 1 0 0 2, .sl 4 0 0 2, lM1 4000, lM1 30000, lM1 8, lM1 20, .sl 7 0 0 2], lM1 2, lM1 28]
  H := [pM1xi, pM1xd, (7, .row 85 2 2 [lM1 48, lM1 0, lM1 24, lM1 500])]
  outs := [⟨false, .tup [lM1 4000, lM1 0], [pM1xi, pM1xd, (7, .row 85 2 2 [lM1 48, lM1 0, lM1 24, lM1 500])], false⟩]
  spec := fun _ K => K 0 []
noncomputable def TM_mbxc : Tab Try.prog := ⟨[], [], [ce_mbxb]⟩
theorem vc_mbxc (W : InW) (K : Nat -> List Ed -> Prop) : coreK (cxT Try.prog TT TM_mbxc 1000 50) 1000 18 (xsM1 cc_mbxc) (ysM1 cc_mbxc) (fun v h => outC cc_mbxc.H [] cc_mbxc.outs 0 false v h K) (fun v h => outC cc_mbxc.H [] cc_mbxc.outs 0 true v h K) = K 0 [] := by kernel_rfl
theorem ok_mbxc : ∀ W : InW, @CallC W Try.prog cc_mbxc :=
  CC.okOf (fun W => @TT W) (fun W => @TT_ok W) mixed_ok TM_mbxc 1000 50 cc_mbxc fun W K h => (vc_mbxc W K).mpr h
noncomputable def ce_mbxc : CE Try.prog := ceOf cc_mbxc ok_mbxc
def cc_mbxd : CC where
  g := 68
  args := [.ptr 1 0, lM1 0, .agg [lM1 0, lM1 0, lM1 0, lM1 0, lM1 0, lM1 33, lM1 2, lM1 0, lM1 0, lM1 0, lM1 0]]
  H := [(1, .blk 95 [.sl 4 0 0 2, .sl 7 0 0 2, lM1 4000, lM1 30000, lM1 8, lM1 20, .sl 10 0 0 2, .lit (Value.slice none 0 0), .sl 13 0 0 2, .sl 16 0 0 2, .sl 19 0 0 6, .mp 22, .lit (Value.slice none 0 0), lM1 0, lM1 0]), pM1xj, pM1xe, (10, .row 85 2 2 [lM1 48, lM1 0, lM1 24, lM1 500]), (13, .row 3 1 2 [lM1 0, lM1 500]), (16, .row 3 1 2 [lM1 0, lM1 0]), (19, .row 3 1 6 [lM1 0, lM1 0, lM1 0, lM1 0, lM1 0, lM1 0]), (22, .obj (OI.mpV [] 0))]
  outs := [⟨false, lM1 0, [(1, .blk 95 [.sl 4 0 0 2, .sl 7 0 0 2, lM1 4000, lM1 30000, lM1 8, lM1 20, .sl 10 0 0 2, .sl 6 0 0 1, .sl 13 0 0 2, .sl 16 0 0 2, .sl 19 0 0 6, .mp 22, .lit (Value.slice none 0 0), lM1 0, lM1 0]), pM1xj, pM1xe, (10, .row 85 2 2 [lM1 48, lM1 0, lM1 24, lM1 500]), (13, .row 3 1 2 [lM1 0, lM1 500]), (16, .row 3 1 2 [lM1 0, lM1 0]), (19, .row 3 1 6 [lM1 0, lM1 0, lM1 0, lM1 0, lM1 0, lM1 0]), (22, .obj (OI.mpV [] 0)), (6, .row 63 5 1 [lM1 0, lM1 0, lM1 33, lM1 2, lM1 0])], false⟩]
  spec := fun _ K => K 0 []
noncomputable def TM_mbxd : Tab Try.prog := ⟨[], [], [ce_mbxc, ce_mbxb]⟩
theorem vc_mbxd (W : InW) (K : Nat -> List Ed -> Prop) : coreK (cxT Try.prog TT TM_mbxd 1000 50) 1000 68 (xsM1 cc_mbxd) (ysM1 cc_mbxd) (fun v h => outC cc_mbxd.H [] cc_mbxd.outs 0 false v h K) (fun v h => outC cc_mbxd.H [] cc_mbxd.outs 0 true v h K) = K 0 [] := by kernel_rfl
theorem ok_mbxd : ∀ W : InW, @CallC W Try.prog cc_mbxd :=
  CC.okOf (fun W => @TT W) (fun W => @TT_ok W) mixed_ok TM_mbxd 1000 50 cc_mbxd fun W K h => (vc_mbxd W K).mpr h
noncomputable def ce_mbxd : CE Try.prog := ceOf cc_mbxd ok_mbxd
def cc_mbxe : CC where
  g := 68
  args := [.ptr 1 0, lM1 1, .agg [lM1 0, lM1 0, lM1 1, lM1 0, lM1 0, lM1 34, lM1 1, lM1 0, lM1 0, lM1 0, lM1 0]]
  H := [(1, .blk 95 [.sl 4 0 0 2, .sl 7 0 0 2, lM1 4000, lM1 30000, lM1 8, lM1 20, .sl 10 0 0 2, .sl 13 0 0 1, .sl 16 0 0 2, .sl 19 0 0 2, .sl 22 0 0 6, .mp 25, .lit (Value.slice none 0 0), lM1 0, lM1 0]), pM1xj, pM1xe, (10, .row 85 2 2 [lM1 48, lM1 0, lM1 24, lM1 500]), (13, .row 63 5 1 [lM1 0, lM1 0, lM1 33, lM1 2, lM1 0]), (16, .row 3 1 2 [lM1 0, lM1 500]), (19, .row 3 1 2 [lM1 0, lM1 0]), (22, .row 3 1 6 [lM1 0, lM1 0, lM1 0, lM1 0, lM1 0, lM1 0]), (25, .obj (OI.mpV [] 0))]
  outs := [⟨false, lM1 5, [pM1xf, pM1xj, pM1xe, (10, .row 85 2 2 [lM1 48, lM1 0, lM1 24, lM1 500]), (13, .row 63 5 1 [lM1 0, lM1 0, lM1 33, lM1 2, lM1 0]), (16, .row 3 1 2 [lM1 0, lM1 500]), (19, .row 3 1 2 [lM1 0, lM1 0]), (22, .row 3 1 6 [lM1 0, lM1 0, lM1 0, lM1 0, lM1 0, lM1 0]), (25, .obj (OI.mpV [] 0))], false⟩]
  spec := fun _ K => K 0 []
noncomputable def TM_mbxe : Tab Try.prog := ⟨[], [], [ce_mbxd, ce_mbxc, ce_mbxb]⟩
theorem vc_mbxe (W : InW) (K : Nat -> List Ed -> Prop) : coreK (cxT Try.prog TT TM_mbxe 1000 50) 1000 68 (xsM1 cc_mbxe) (ysM1 cc_mbxe) (fun v h => outC cc_mbxe.H [] cc_mbxe.outs 0 false v h K) (fun v h => outC cc_mbxe.H [] cc_mbxe.outs 0 true v h K) = K 0 [] := by kernel_rfl
theorem ok_mbxe : ∀ W : InW, @CallC W Try.prog cc_mbxe :=
  CC.okOf (fun W => @TT W) (fun W => @TT_ok W) mixed_ok TM_mbxe 1000 50 cc_mbxe fun W K h => (vc_mbxe W K).mpr h
noncomputable def ce_mbxe : CE Try.prog := ceOf cc_mbxe ok_mbxe
def cc_mbxf : CC where
  g := 68
  args := [.ptr 1 0, lM1 2, .agg [lM1 0, lM1 0, lM1 1, lM1 1, lM1 0, lM1 34, lM1 1, lM1 0, lM1 0, lM1 0, lM1 0]]
  H := [pM1xf, pM1xj, pM1xe, (10, .row 85 2 2 [lM1 48, lM1 0, lM1 24, lM1 500]), (13, .row 63 5 1 [lM1 0, lM1 0, lM1 33, lM1 2, lM1 0]), (16, .row 3 1 2 [lM1 0, lM1 500]), (19, .row 3 1 2 [lM1 0, lM1 0]), (22, .row 3 1 6 [lM1 0, lM1 0, lM1 0, lM1 0, lM1 0, lM1 0]), (25, .obj (OI.mpV [] 0))]
  outs := [⟨false, lM1 0, [(1, .blk 95 [.sl 4 0 0 2, .sl 7 0 0 2, lM1 4000, lM1 30000, lM1 8, lM1 20, .sl 10 0 0 2, .sl 6 0 0 2, .sl 16 0 0 2, .sl 19 0 0 2, .sl 22 0 0 6, .mp 25, .lit (Value.slice none 0 0), lM1 0, lM1 2]), pM1xj, pM1xe, (10, .row 85 2 2 [lM1 48, lM1 0, lM1 24, lM1 500]), (16, .row 3 1 2 [lM1 0, lM1 500]), (19, .row 3 1 2 [lM1 0, lM1 0]), (22, .row 3 1 6 [lM1 0, lM1 0, lM1 0, lM1 0, lM1 0, lM1 0]), (25, .obj (OI.mpV [] 0)), (6, .row 63 5 2 [lM1 0, lM1 0, lM1 33, lM1 2, lM1 0, lM1 1, lM1 1, lM1 34, lM1 1, lM1 0])], false⟩]
  spec := fun _ K => K 0 []
noncomputable def TM_mbxf : Tab Try.prog := ⟨[], [], [ce_mbxe, ce_mbxd, ce_mbxc, ce_mbxb]⟩
theorem vc_mbxf (W : InW) (K : Nat -> List Ed -> Prop) : coreK (cxT Try.prog TT TM_mbxf 1000 50) 1000 68 (xsM1 cc_mbxf) (ysM1 cc_mbxf) (fun v h => outC cc_mbxf.H [] cc_mbxf.outs 0 false v h K) (fun v h => outC cc_mbxf.H [] cc_mbxf.outs 0 true v h K) = K 0 [] := by kernel_rfl
theorem ok_mbxf : ∀ W : InW, @CallC W Try.prog cc_mbxf :=
  CC.okOf (fun W => @TT W) (fun W => @TT_ok W) mixed_ok TM_mbxf 1000 50 cc_mbxf fun W K h => (vc_mbxf W K).mpr h
noncomputable def ce_mbxf : CE Try.prog := ceOf cc_mbxf ok_mbxf
def cc_mbxg : CC where
  g := 68
  args := [.ptr 1 0, lM1 3, .agg [lM1 1, lM1 5, lM1 0, lM1 0, lM1 0, lM1 0, lM1 0, lM1 0, lM1 0, lM1 0, lM1 0]]
  H := [pM1xg, pM1xj, pM1xe, (10, .row 85 2 2 [lM1 48, lM1 0, lM1 24, lM1 500]), pM1xbb, (16, .row 3 1 2 [lM1 0, lM1 500]), (19, .row 3 1 2 [lM1 0, lM1 0]), (22, .row 3 1 6 [lM1 0, lM1 0, lM1 0, lM1 0, lM1 0, lM1 0]), (25, .obj (OI.mpV [] 0))]
  outs := [⟨false, lM1 0, [(1, .blk 95 [.sl 4 0 0 2, .sl 7 0 0 2, lM1 4000, lM1 30000, lM1 8, lM1 20, .sl 10 0 0 2, .sl 13 0 0 2, .sl 16 0 0 2, .sl 19 0 0 2, .sl 22 0 0 6, .mp 25, .sl 6 0 0 1, lM1 5, lM1 3]), pM1xj, pM1xe, (10, .row 85 2 2 [lM1 48, lM1 0, lM1 24, lM1 500]), pM1xbc, (16, .row 3 1 2 [lM1 0, lM1 500]), (19, .row 3 1 2 [lM1 0, lM1 0]), pM1xbf, (25, .obj (OI.mpV [] 0)), (6, .row 61 4 1 [lM1 3, lM1 0, .lit (.int .i64 ↑2), lM1 4000])], false⟩]
  spec := fun _ K => K 0 []
noncomputable def TM_mbxg : Tab Try.prog := ⟨[], [], [ce_mbxf, ce_mbxe, ce_mbxd, ce_mbxc, ce_mbxb]⟩
theorem vc_mbxg (W : InW) (K : Nat -> List Ed -> Prop) : coreK (cxT Try.prog TT TM_mbxg 1000 50) 1000 68 (xsM1 cc_mbxg) (ysM1 cc_mbxg) (fun v h => outC cc_mbxg.H [] cc_mbxg.outs 0 false v h K) (fun v h => outC cc_mbxg.H [] cc_mbxg.outs 0 true v h K) = K 0 [] := by kernel_rfl
theorem ok_mbxg : ∀ W : InW, @CallC W Try.prog cc_mbxg :=
  CC.okOf (fun W => @TT W) (fun W => @TT_ok W) mixed_ok TM_mbxg 1000 50 cc_mbxg fun W K h => (vc_mbxg W K).mpr h
noncomputable def ce_mbxg : CE Try.prog := ceOf cc_mbxg ok_mbxg
def cc_mbxh : CC where
  g := 68
  args := [.ptr 1 0, lM1 4, .agg [lM1 3, lM1 35, lM1 0, lM1 0, lM1 1, lM1 0, lM1 0, lM1 0, lM1 0, lM1 150, lM1 0]]
  H := [(1, .blk 95 [.sl 4 0 0 2, .sl 7 0 0 2, lM1 4000, lM1 30000, lM1 8, lM1 20, .sl 10 0 0 2, .sl 13 0 0 2, .sl 16 0 0 2, .sl 19 0 0 2, .sl 22 0 0 6, .mp 25, .sl 28 0 0 1, lM1 5, lM1 3]), pM1xj, pM1xe, (10, .row 85 2 2 [lM1 48, lM1 0, lM1 24, lM1 500]), pM1xbc, (16, .row 3 1 2 [lM1 0, lM1 500]), (19, .row 3 1 2 [lM1 0, lM1 0]), pM1xbf, (25, .obj (OI.mpV [] 0)), (28, .row 61 4 1 [lM1 3, lM1 0, lM1 2, lM1 4000])]
  outs := [⟨false, lM1 0, [(1, .blk 95 [.sl 4 0 0 2, .sl 7 0 0 2, lM1 4000, lM1 30000, lM1 8, lM1 20, .sl 10 0 0 2, .sl 13 0 0 2, .sl 16 0 0 2, .sl 19 0 0 2, .sl 22 0 0 6, .mp 25, .sl 6 0 0 2, lM1 35, lM1 4]), pM1xj, pM1xe, (10, .row 85 2 2 [lM1 48, lM1 0, lM1 24, lM1 500]), pM1xbd, (16, .row 3 1 2 [lM1 0, lM1 650]), (19, .row 3 1 2 [lM1 0, lM1 150]), pM1xba, (25, .obj (OI.mpV [] 0)), (6, .row 61 4 2 [lM1 3, lM1 0, lM1 2, lM1 4000, lM1 4, lM1 1, .lit (.int .i64 ↑2), lM1 4000])], false⟩]
  spec := fun _ K => K 0 []
noncomputable def TM_mbxh : Tab Try.prog := ⟨[], [], [ce_mbxg, ce_mbxf, ce_mbxe, ce_mbxd, ce_mbxc, ce_mbxb]⟩
theorem vc_mbxh (W : InW) (K : Nat -> List Ed -> Prop) : coreK (cxT Try.prog TT TM_mbxh 1000 50) 1000 68 (xsM1 cc_mbxh) (ysM1 cc_mbxh) (fun v h => outC cc_mbxh.H [] cc_mbxh.outs 0 false v h K) (fun v h => outC cc_mbxh.H [] cc_mbxh.outs 0 true v h K) = K 0 [] := by kernel_rfl
theorem ok_mbxh : ∀ W : InW, @CallC W Try.prog cc_mbxh :=
  CC.okOf (fun W => @TT W) (fun W => @TT_ok W) mixed_ok TM_mbxh 1000 50 cc_mbxh fun W K h => (vc_mbxh W K).mpr h
noncomputable def ce_mbxh : CE Try.prog := ceOf cc_mbxh ok_mbxh
def cc_mbxi : CC where
  g := 68
  args := [.ptr 1 0, lM1 5, .agg [lM1 5, lM1 36, lM1 0, lM1 0, lM1 1, lM1 0, lM1 0, lM1 0, lM1 0, lM1 0, lM1 50000]]
  H := [(1, .blk 95 [.sl 4 0 0 2, .sl 7 0 0 2, lM1 4000, lM1 30000, lM1 8, lM1 20, .sl 10 0 0 2, .sl 13 0 0 2, .sl 16 0 0 2, .sl 19 0 0 2, .sl 22 0 0 6, .mp 25, .sl 28 0 0 2, lM1 35, lM1 4]), pM1xj, pM1xe, (10, .row 85 2 2 [lM1 48, lM1 0, lM1 24, lM1 500]), pM1xbd, (16, .row 3 1 2 [lM1 0, lM1 650]), (19, .row 3 1 2 [lM1 0, lM1 150]), pM1xba, (25, .obj (OI.mpV [] 0)), (28, .row 61 4 2 [lM1 3, lM1 0, lM1 2, lM1 4000, lM1 4, lM1 1, lM1 2, lM1 4000])]
  outs := [⟨false, lM1 0, [(1, .blk 95 [.sl 4 0 0 2, .sl 7 0 0 2, lM1 4000, lM1 30000, lM1 8, lM1 20, .sl 10 0 0 2, .sl 13 0 0 2, .sl 16 0 0 2, .sl 19 0 0 2, .sl 22 0 0 6, .mp 25, .sl 6 0 0 4, lM1 36, lM1 5]), pM1xj, pM1xe, (10, .row 85 2 2 [lM1 48, lM1 0, lM1 24, lM1 500]), (13, .row 63 5 2 [lM1 0, lM1 0, lM1 33, lM1 2, lM1 1, lM1 1, lM1 1, lM1 34, lM1 1, lM1 3]), (16, .row 3 1 2 [lM1 0, lM1 650]), (19, .row 3 1 2 [lM1 0, lM1 150]), (22, .row 3 1 6 [lM1 (Int.negSucc 3999), lM1 (Int.negSucc 3999), lM1 (Int.negSucc 21999), lM1 50000, lM1 (Int.negSucc 19999), lM1 0]), (25, .obj (OI.mpV [] 0)), (6, .row 61 4 4 [lM1 3, lM1 0, lM1 2, lM1 4000, lM1 4, lM1 1, lM1 2, lM1 4000, lM1 5, .lit (.int .i64 ↑2), lM1 3, lM1 30000, lM1 5, lM1 4, lM1 3, lM1 20000])], false⟩]
  spec := fun _ K => K 0 []
noncomputable def TM_mbxi : Tab Try.prog := ⟨[], [], [ce_mbxh, ce_mbxg, ce_mbxf, ce_mbxe, ce_mbxd, ce_mbxc, ce_mbxb]⟩
theorem vc_mbxi (W : InW) (K : Nat -> List Ed -> Prop) : coreK (cxT Try.prog TT TM_mbxi 1000 50) 1000 68 (xsM1 cc_mbxi) (ysM1 cc_mbxi) (fun v h => outC cc_mbxi.H [] cc_mbxi.outs 0 false v h K) (fun v h => outC cc_mbxi.H [] cc_mbxi.outs 0 true v h K) = K 0 [] := by kernel_rfl
theorem ok_mbxi : ∀ W : InW, @CallC W Try.prog cc_mbxi :=
  CC.okOf (fun W => @TT W) (fun W => @TT_ok W) mixed_ok TM_mbxi 1000 50 cc_mbxi fun W K h => (vc_mbxi W K).mpr h
noncomputable def ce_mbxi : CE Try.prog := ceOf cc_mbxi ok_mbxi
def cc_mbxj : CC where
  g := 50
  args := [.agg [.sl 1 0 0 2, .sl 4 0 0 2, lM1 4000, lM1 30000, lM1 8, lM1 20, .sl 7 0 0 2], .sl 10 0 0 6]
  H := [pM1xi, pM1xd, (7, .row 85 2 2 [lM1 48, lM1 0, lM1 24, lM1 500]), pM1xa]
  outs := [⟨false, .tup [.ptr 6 0, .sl 9 0 0 6, lM1 0], [pM1xi, pM1xd, (7, .row 85 2 2 [lM1 48, lM1 0, lM1 24, lM1 500]), pM1xa, (6, .blk 95 [.sl 1 0 0 2, .sl 4 0 0 2, lM1 4000, lM1 30000, lM1 8, lM1 20, .sl 7 0 0 2, .sl 12 0 0 2, .sl 15 0 0 2, .sl 18 0 0 2, .sl 21 0 0 6, .mp 24, .sl 27 0 0 4, lM1 36, lM1 5]), (9, .row 30 1 6 [lM1 0, lM1 5, lM1 0, lM1 0, lM1 0, lM1 0]), (12, .row 63 5 2 [lM1 0, lM1 0, lM1 33, lM1 2, lM1 1, lM1 1, lM1 1, lM1 34, lM1 1, lM1 3]), (15, .row 3 1 2 [lM1 0, lM1 650]), (18, .row 3 1 2 [lM1 0, lM1 150]), (21, .row 3 1 6 [lM1 (Int.negSucc 3999), lM1 (Int.negSucc 3999), lM1 (Int.negSucc 21999), lM1 50000, lM1 (Int.negSucc 19999), lM1 0]), (24, .obj (OI.mpV [] 0)), (27, .row 61 4 4 [lM1 3, lM1 0, lM1 2, lM1 4000, lM1 4, lM1 1, lM1 2, lM1 4000, lM1 5, lM1 2, lM1 3, lM1 30000, lM1 5, lM1 4, lM1 3, lM1 20000])], false⟩]
  spec := fun _ K => K 0 []
noncomputable def TM_mbxj : Tab Try.prog := ⟨[], [], [ce_mbxi, ce_mbxh, ce_mbxg, ce_mbxf, ce_mbxe, ce_mbxd, ce_mbxc, ce_mbxb]⟩
theorem vc_mbxj (W : InW) (K : Nat -> List Ed -> Prop) : coreK (cxT Try.prog TT TM_mbxj 1000 50) 1000 50 (xsM1 cc_mbxj) (ysM1 cc_mbxj) (fun v h => outC cc_mbxj.H [] cc_mbxj.outs 0 false v h K) (fun v h => outC cc_mbxj.H [] cc_mbxj.outs 0 true v h K) = K 0 [] := by kernel_rfl
theorem ok_mbxj : ∀ W : InW, @CallC W Try.prog cc_mbxj :=
  CC.okOf (fun W => @TT W) (fun W => @TT_ok W) mixed_ok TM_mbxj 1000 50 cc_mbxj fun W K h => (vc_mbxj W K).mpr h
noncomputable def ce_mbxj : CE Try.prog := ceOf cc_mbxj ok_mbxj
def cc_mbxba : CC where
  g := 21
  args := [.agg [.sl 1 0 0 2, .sl 4 0 0 2, lM1 4000, lM1 30000, lM1 8, lM1 20, .sl 7 0 0 2], .sl 10 0 0 6]
  H := [pM1xi, pM1xd, (7, .row 85 2 2 [lM1 48, lM1 0, lM1 24, lM1 500]), pM1xa]
  outs := [⟨false, .tup [.sl 6 0 0 6, .agg [.sl 9 0 0 2, .sl 12 0 0 2, .sl 15 0 0 2, .sl 18 0 0 6], lM1 0], [pM1xi, pM1xd, (7, .row 85 2 2 [lM1 48, lM1 0, lM1 24, lM1 500]), pM1xa, (6, .row 30 1 6 [lM1 0, lM1 5, lM1 0, lM1 0, lM1 0, lM1 0]), (9, .row 63 5 2 [lM1 0, lM1 0, lM1 33, lM1 2, lM1 1, lM1 1, lM1 1, lM1 34, lM1 1, lM1 3]), (12, .row 3 1 2 [lM1 0, lM1 650]), (15, .row 3 1 2 [lM1 0, lM1 150]), (18, .row 3 1 6 [lM1 (Int.negSucc 3999), lM1 (Int.negSucc 3999), lM1 (Int.negSucc 21999), lM1 50000, lM1 (Int.negSucc 19999), lM1 0])], false⟩]
  spec := fun _ K => K 0 []
noncomputable def TM_mbxba : Tab Try.prog := ⟨[], [], [ce_mbxj, ce_mbxi, ce_mbxh, ce_mbxg, ce_mbxf, ce_mbxe, ce_mbxd, ce_mbxc, ce_mbxb]⟩
theorem vc_mbxba (W : InW) (K : Nat -> List Ed -> Prop) : coreK (cxT Try.prog TT TM_mbxba 1000 50) 1000 21 (xsM1 cc_mbxba) (ysM1 cc_mbxba) (fun v h => outC cc_mbxba.H [] cc_mbxba.outs 0 false v h K) (fun v h => outC cc_mbxba.H [] cc_mbxba.outs 0 true v h K) = K 0 [] := by kernel_rfl
theorem ok_mbxba : ∀ W : InW, @CallC W Try.prog cc_mbxba :=
  CC.okOf (fun W => @TT W) (fun W => @TT_ok W) mixed_ok TM_mbxba 1000 50 cc_mbxba fun W K h => (vc_mbxba W K).mpr h
noncomputable def ce_mbxba : CE Try.prog := ceOf cc_mbxba ok_mbxba
def cc_mbxbb : CC where
  g := 50
  args := [.agg [.sl 1 0 0 2, .sl 4 0 0 2, lM1 4000, lM1 30000, lM1 8, lM1 20, .sl 7 0 0 2], .sl 10 0 0 4]
  H := [pM1xi, pM1xd, (7, .row 85 2 2 [lM1 48, lM1 0, lM1 24, lM1 500]), pM1xc]
  outs := [⟨false, .tup [.ptr 6 0, .sl 9 0 0 4, lM1 0], [pM1xi, pM1xd, (7, .row 85 2 2 [lM1 48, lM1 0, lM1 24, lM1 500]), pM1xc, (6, .blk 95 [.sl 1 0 0 2, .sl 4 0 0 2, lM1 4000, lM1 30000, lM1 8, lM1 20, .sl 7 0 0 2, .sl 12 0 0 2, .sl 15 0 0 2, .sl 18 0 0 2, .sl 21 0 0 6, .mp 24, .sl 27 0 0 1, lM1 5, lM1 3]), (9, .row 30 1 4 [lM1 0, lM1 5, lM1 0, lM1 0]), (12, .row 63 5 2 [lM1 0, lM1 0, lM1 33, lM1 2, lM1 1, lM1 1, lM1 1, lM1 34, lM1 1, lM1 0]), (15, .row 3 1 2 [lM1 0, lM1 500]), (18, .row 3 1 2 [lM1 0, lM1 0]), (21, .row 3 1 6 [lM1 (Int.negSucc 3999), lM1 0, lM1 4000, lM1 0, lM1 0, lM1 0]), (24, .obj (OI.mpV [] 0)), (27, .row 61 4 1 [lM1 3, lM1 0, lM1 2, lM1 4000])], false⟩]
  spec := fun _ K => K 0 []
noncomputable def TM_mbxbb : Tab Try.prog := ⟨[], [], [ce_mbxba, ce_mbxj, ce_mbxi, ce_mbxh, ce_mbxg, ce_mbxf, ce_mbxe, ce_mbxd, ce_mbxc, ce_mbxb]⟩
theorem vc_mbxbb (W : InW) (K : Nat -> List Ed -> Prop) : coreK (cxT Try.prog TT TM_mbxbb 1000 50) 1000 50 (xsM1 cc_mbxbb) (ysM1 cc_mbxbb) (fun v h => outC cc_mbxbb.H [] cc_mbxbb.outs 0 false v h K) (fun v h => outC cc_mbxbb.H [] cc_mbxbb.outs 0 true v h K) = K 0 [] := by kernel_rfl
theorem ok_mbxbb : ∀ W : InW, @CallC W Try.prog cc_mbxbb :=
  CC.okOf (fun W => @TT W) (fun W => @TT_ok W) mixed_ok TM_mbxbb 1000 50 cc_mbxbb fun W K h => (vc_mbxbb W K).mpr h
noncomputable def ce_mbxbb : CE Try.prog := ceOf cc_mbxbb ok_mbxbb
def cc_mbxbc : CC where
  g := 25
  args := [.agg [.sl 1 0 0 2, .sl 4 0 0 2, lM1 4000, lM1 30000, lM1 8, lM1 20, .sl 7 0 0 2], .sl 10 0 0 4]
  H := [pM1xi, pM1xd, (7, .row 85 2 2 [lM1 48, lM1 0, lM1 24, lM1 500]), pM1xc]
  outs := [⟨false, .tup [.sl 6 0 0 1, lM1 0], [pM1xi, pM1xd, (7, .row 85 2 2 [lM1 48, lM1 0, lM1 24, lM1 500]), pM1xc, (6, .row 61 4 1 [lM1 3, lM1 0, lM1 2, lM1 4000])], false⟩]
  spec := fun _ K => K 0 []
noncomputable def TM_mbxbc : Tab Try.prog := ⟨[], [], [ce_mbxbb, ce_mbxba, ce_mbxj, ce_mbxi, ce_mbxh, ce_mbxg, ce_mbxf, ce_mbxe, ce_mbxd, ce_mbxc, ce_mbxb]⟩
theorem vc_mbxbc (W : InW) (K : Nat -> List Ed -> Prop) : coreK (cxT Try.prog TT TM_mbxbc 1000 50) 1000 25 (xsM1 cc_mbxbc) (ysM1 cc_mbxbc) (fun v h => outC cc_mbxbc.H [] cc_mbxbc.outs 0 false v h K) (fun v h => outC cc_mbxbc.H [] cc_mbxbc.outs 0 true v h K) = K 0 [] := by kernel_rfl
theorem ok_mbxbc : ∀ W : InW, @CallC W Try.prog cc_mbxbc :=
  CC.okOf (fun W => @TT W) (fun W => @TT_ok W) mixed_ok TM_mbxbc 1000 50 cc_mbxbc fun W K h => (vc_mbxbc W K).mpr h
noncomputable def ce_mbxbc : CE Try.prog := ceOf cc_mbxbc ok_mbxbc
def cc_mbxbd : CC where
  g := 28
  args := [.agg [.sl 1 0 0 2, .sl 4 0 0 2, lM1 4000, lM1 30000, lM1 8, lM1 20, .sl 7 0 0 2], .sl 10 0 0 4, lM1 1, lM1 0, lM1 43, lM1 2]
  H := [pM1xi, pM1xd, (7, .row 85 2 2 [lM1 48, lM1 0, lM1 24, lM1 500]), pM1xc]
  outs := [⟨false, .tup [lM1 56, lM1 0], [pM1xi, pM1xd, (7, .row 85 2 2 [lM1 48, lM1 0, lM1 24, lM1 500]), pM1xc], false⟩]
  spec := fun _ K => K 0 []
noncomputable def TM_mbxbd : Tab Try.prog := ⟨[], [], [ce_mbxbc, ce_mbxbb, ce_mbxba, ce_mbxj, ce_mbxi, ce_mbxh, ce_mbxg, ce_mbxf, ce_mbxe, ce_mbxd, ce_mbxc, ce_mbxb]⟩
theorem vc_mbxbd (W : InW) (K : Nat -> List Ed -> Prop) : coreK (cxT Try.prog TT TM_mbxbd 1000 50) 1000 28 (xsM1 cc_mbxbd) (ysM1 cc_mbxbd) (fun v h => outC cc_mbxbd.H [] cc_mbxbd.outs 0 false v h K) (fun v h => outC cc_mbxbd.H [] cc_mbxbd.outs 0 true v h K) = K 0 [] := by kernel_rfl
theorem ok_mbxbd : ∀ W : InW, @CallC W Try.prog cc_mbxbd :=
  CC.okOf (fun W => @TT W) (fun W => @TT_ok W) mixed_ok TM_mbxbd 1000 50 cc_mbxbd fun W K h => (vc_mbxbd W K).mpr h
noncomputable def ce_mbxbd : CE Try.prog := ceOf cc_mbxbd ok_mbxbd
def cc_mbxbe : CC where
  g := 68
  args := [.ptr 1 0, lM1 3, .agg [lM1 2, lM1 4, lM1 0, lM1 0, lM1 0, lM1 0, lM1 0, lM1 1, lM1 1, lM1 0, lM1 0]]
  H := [pM1xg, pM1xj, pM1xe, (10, .row 85 2 2 [lM1 48, lM1 0, lM1 24, lM1 500]), pM1xbb, (16, .row 3 1 2 [lM1 0, lM1 500]), (19, .row 3 1 2 [lM1 0, lM1 0]), (22, .row 3 1 6 [lM1 0, lM1 0, lM1 0, lM1 0, lM1 0, lM1 0]), (25, .obj (OI.mpV [] 0))]
  outs := [⟨false, lM1 0, [pM1xh, pM1xj, pM1xe, (10, .row 85 2 2 [lM1 48, lM1 0, lM1 24, lM1 500]), pM1xbe, (16, .row 3 1 2 [lM1 0, lM1 500]), (19, .row 3 1 2 [lM1 0, lM1 0]), (22, .row 3 1 6 [lM1 0, lM1 0, lM1 0, lM1 0, lM1 0, lM1 0]), (25, .obj (OI.mpV [{ key := .int .i64 1 , val := .int .i64 ( Int.ofNat ( 1 + 1 ) ) , born := 0 }] 1))], false⟩]
  spec := fun _ K => K 0 []
noncomputable def TM_mbxbe : Tab Try.prog := ⟨[], [], [ce_mbxbd, ce_mbxbc, ce_mbxbb, ce_mbxba, ce_mbxj, ce_mbxi, ce_mbxh, ce_mbxg, ce_mbxf, ce_mbxe, ce_mbxd, ce_mbxc, ce_mbxb]⟩
theorem vc_mbxbe (W : InW) (K : Nat -> List Ed -> Prop) : coreK (cxT Try.prog TT TM_mbxbe 1000 50) 1000 68 (xsM1 cc_mbxbe) (ysM1 cc_mbxbe) (fun v h => outC cc_mbxbe.H [] cc_mbxbe.outs 0 false v h K) (fun v h => outC cc_mbxbe.H [] cc_mbxbe.outs 0 true v h K) = K 0 [] := by kernel_rfl
theorem ok_mbxbe : ∀ W : InW, @CallC W Try.prog cc_mbxbe :=
  CC.okOf (fun W => @TT W) (fun W => @TT_ok W) mixed_ok TM_mbxbe 1000 50 cc_mbxbe fun W K h => (vc_mbxbe W K).mpr h
noncomputable def ce_mbxbe : CE Try.prog := ceOf cc_mbxbe ok_mbxbe
def cc_mbxbf : CC where
  g := 68
  args := [.ptr 1 0, lM1 4, .agg [lM1 1, lM1 5, lM1 0, lM1 0, lM1 0, lM1 0, lM1 0, lM1 0, lM1 0, lM1 0, lM1 0]]
  H := [pM1xh, pM1xj, pM1xe, (10, .row 85 2 2 [lM1 48, lM1 0, lM1 24, lM1 500]), pM1xbe, (16, .row 3 1 2 [lM1 0, lM1 500]), (19, .row 3 1 2 [lM1 0, lM1 0]), (22, .row 3 1 6 [lM1 0, lM1 0, lM1 0, lM1 0, lM1 0, lM1 0]), (25, .obj (OI.mpV [{ key := .int .i64 1 , val := .int .i64 ( Int.ofNat ( 1 + 1 ) ) , born := 0 }] 1))]
  outs := [⟨false, lM1 0, [(1, .blk 95 [.sl 4 0 0 2, .sl 7 0 0 2, lM1 4000, lM1 30000, lM1 8, lM1 20, .sl 10 0 0 2, .sl 13 0 0 2, .sl 16 0 0 2, .sl 19 0 0 2, .sl 22 0 0 6, .mp 25, .lit (Value.slice none 0 0), lM1 5, lM1 4]), pM1xj, pM1xe, (10, .row 85 2 2 [lM1 48, lM1 0, lM1 24, lM1 500]), (13, .row 63 5 2 [lM1 0, lM1 0, lM1 57, lM1 2, lM1 1, lM1 1, lM1 1, lM1 34, lM1 1, lM1 0]), (16, .row 3 1 2 [lM1 0, lM1 500]), (19, .row 3 1 2 [lM1 0, lM1 0]), (22, .row 3 1 6 [lM1 0, lM1 0, lM1 0, lM1 0, lM1 0, lM1 0]), (25, .obj (OI.mpV [{ key := .int .i64 1 , val := .int .i64 ( Int.ofNat ( 1 + 1 ) ) , born := 0 }] 1))], false⟩]
  spec := fun _ K => K 0 []
noncomputable def TM_mbxbf : Tab Try.prog := ⟨[], [], [ce_mbxbe, ce_mbxbd, ce_mbxbc, ce_mbxbb, ce_mbxba, ce_mbxj, ce_mbxi, ce_mbxh, ce_mbxg, ce_mbxf, ce_mbxe, ce_mbxd, ce_mbxc, ce_mbxb]⟩
theorem vc_mbxbf (W : InW) (K : Nat -> List Ed -> Prop) : coreK (cxT Try.prog TT TM_mbxbf 1000 50) 1000 68 (xsM1 cc_mbxbf) (ysM1 cc_mbxbf) (fun v h => outC cc_mbxbf.H [] cc_mbxbf.outs 0 false v h K) (fun v h => outC cc_mbxbf.H [] cc_mbxbf.outs 0 true v h K) = K 0 [] := by kernel_rfl
theorem ok_mbxbf : ∀ W : InW, @CallC W Try.prog cc_mbxbf :=
  CC.okOf (fun W => @TT W) (fun W => @TT_ok W) mixed_ok TM_mbxbf 1000 50 cc_mbxbf fun W K h => (vc_mbxbf W K).mpr h
noncomputable def ce_mbxbf : CE Try.prog := ceOf cc_mbxbf ok_mbxbf
def cc_mbxbg : CC where
  g := 50
  args := [.agg [.sl 1 0 0 2, .sl 4 0 0 2, lM1 4000, lM1 30000, lM1 8, lM1 20, .sl 7 0 0 2], .sl 10 0 0 5]
  H := [pM1xi, pM1xd, (7, .row 85 2 2 [lM1 48, lM1 0, lM1 24, lM1 500]), pM1xb]
  outs := [⟨false, .tup [.ptr 6 0, .sl 9 0 0 5, lM1 0], [pM1xi, pM1xd, (7, .row 85 2 2 [lM1 48, lM1 0, lM1 24, lM1 500]), pM1xb, (6, .blk 95 [.sl 1 0 0 2, .sl 4 0 0 2, lM1 4000, lM1 30000, lM1 8, lM1 20, .sl 7 0 0 2, .sl 12 0 0 2, .sl 15 0 0 2, .sl 18 0 0 2, .sl 21 0 0 6, .mp 24, .lit (Value.slice none 0 0), lM1 5, lM1 4]), (9, .row 30 1 5 [lM1 0, lM1 5, lM1 0, lM1 0, lM1 0]), (12, .row 63 5 2 [lM1 0, lM1 0, lM1 57, lM1 2, lM1 1, lM1 1, lM1 1, lM1 34, lM1 1, lM1 0]), (15, .row 3 1 2 [lM1 0, lM1 500]), (18, .row 3 1 2 [lM1 0, lM1 0]), (21, .row 3 1 6 [lM1 0, lM1 0, lM1 0, lM1 0, lM1 0, lM1 0]), (24, .obj (OI.mpV [{ key := .int .i64 1 , val := .int .i64 ( Int.ofNat ( 1 + 1 ) ) , born := 0 }] 1))], false⟩]
  spec := fun _ K => K 0 []
noncomputable def TM_mbxbg : Tab Try.prog := ⟨[], [], [ce_mbxbf, ce_mbxbe, ce_mbxbd, ce_mbxbc, ce_mbxbb, ce_mbxba, ce_mbxj, ce_mbxi, ce_mbxh, ce_mbxg, ce_mbxf, ce_mbxe, ce_mbxd, ce_mbxc, ce_mbxb]⟩
theorem vc_mbxbg (W : InW) (K : Nat -> List Ed -> Prop) : coreK (cxT Try.prog TT TM_mbxbg 1000 50) 1000 50 (xsM1 cc_mbxbg) (ysM1 cc_mbxbg) (fun v h => outC cc_mbxbg.H [] cc_mbxbg.outs 0 false v h K) (fun v h => outC cc_mbxbg.H [] cc_mbxbg.outs 0 true v h K) = K 0 [] := by kernel_rfl
theorem ok_mbxbg : ∀ W : InW, @CallC W Try.prog cc_mbxbg :=
  CC.okOf (fun W => @TT W) (fun W => @TT_ok W) mixed_ok TM_mbxbg 1000 50 cc_mbxbg fun W K h => (vc_mbxbg W K).mpr h
noncomputable def ce_mbxbg : CE Try.prog := ceOf cc_mbxbg ok_mbxbg
def cc_mbxbh : CC where
  g := 21
  args := [.agg [.sl 1 0 0 2, .sl 4 0 0 2, lM1 4000, lM1 30000, lM1 8, lM1 20, .sl 7 0 0 2], .sl 10 0 0 5]
  H := [pM1xi, pM1xd, (7, .row 85 2 2 [lM1 48, lM1 0, lM1 24, lM1 500]), pM1xb]
  outs := [⟨false, .tup [.sl 6 0 0 5, .agg [.sl 9 0 0 2, .sl 12 0 0 2, .sl 15 0 0 2, .sl 18 0 0 6], lM1 0], [pM1xi, pM1xd, (7, .row 85 2 2 [lM1 48, lM1 0, lM1 24, lM1 500]), pM1xb, (6, .row 30 1 5 [lM1 0, lM1 5, lM1 0, lM1 0, lM1 0]), (9, .row 63 5 2 [lM1 0, lM1 0, lM1 57, lM1 2, lM1 1, lM1 1, lM1 1, lM1 34, lM1 1, lM1 0]), (12, .row 3 1 2 [lM1 0, lM1 500]), (15, .row 3 1 2 [lM1 0, lM1 0]), (18, .row 3 1 6 [lM1 0, lM1 0, lM1 0, lM1 0, lM1 0, lM1 0])], false⟩]
  spec := fun _ K => K 0 []
noncomputable def TM_mbxbh : Tab Try.prog := ⟨[], [], [ce_mbxbg, ce_mbxbf, ce_mbxbe, ce_mbxbd, ce_mbxbc, ce_mbxbb, ce_mbxba, ce_mbxj, ce_mbxi, ce_mbxh, ce_mbxg, ce_mbxf, ce_mbxe, ce_mbxd, ce_mbxc, ce_mbxb]⟩
theorem vc_mbxbh (W : InW) (K : Nat -> List Ed -> Prop) : coreK (cxT Try.prog TT TM_mbxbh 1000 50) 1000 21 (xsM1 cc_mbxbh) (ysM1 cc_mbxbh) (fun v h => outC cc_mbxbh.H [] cc_mbxbh.outs 0 false v h K) (fun v h => outC cc_mbxbh.H [] cc_mbxbh.outs 0 true v h K) = K 0 [] := by kernel_rfl
theorem ok_mbxbh : ∀ W : InW, @CallC W Try.prog cc_mbxbh :=
  CC.okOf (fun W => @TT W) (fun W => @TT_ok W) mixed_ok TM_mbxbh 1000 50 cc_mbxbh fun W K h => (vc_mbxbh W K).mpr h
noncomputable def ce_mbxbh : CE Try.prog := ceOf cc_mbxbh ok_mbxbh
def cc_mbxbi : CC where
  g := 16
  args := [.agg [.lit (Value.slice none 0 0), .lit (Value.slice none 0 0), lM1 0, lM1 0, lM1 0, lM1 0, .lit (Value.slice none 0 0)]]
  H := []
  outs := [⟨false, .tup [lM1 1, lM1 0, lM1 3], [], false⟩]
  spec := fun _ K => K 0 []
noncomputable def TM_mbxbi : Tab Try.prog := ⟨[], [], [ce_mbxbh, ce_mbxbg, ce_mbxbf, ce_mbxbe, ce_mbxbd, ce_mbxbc, ce_mbxbb, ce_mbxba, ce_mbxj, ce_mbxi, ce_mbxh, ce_mbxg, ce_mbxf, ce_mbxe, ce_mbxd, ce_mbxc, ce_mbxb]⟩
theorem vc_mbxbi (W : InW) (K : Nat -> List Ed -> Prop) : coreK (cxT Try.prog TT TM_mbxbi 1000 50) 1000 16 (xsM1 cc_mbxbi) (ysM1 cc_mbxbi) (fun v h => outC cc_mbxbi.H [] cc_mbxbi.outs 0 false v h K) (fun v h => outC cc_mbxbi.H [] cc_mbxbi.outs 0 true v h K) = K 0 [] := by kernel_rfl
theorem ok_mbxbi : ∀ W : InW, @CallC W Try.prog cc_mbxbi :=
  CC.okOf (fun W => @TT W) (fun W => @TT_ok W) mixed_ok TM_mbxbi 1000 50 cc_mbxbi fun W K h => (vc_mbxbi W K).mpr h
noncomputable def ce_mbxbi : CE Try.prog := ceOf cc_mbxbi ok_mbxbi
def cc_mbxbj : CC where
  g := 18
  args := [.agg [.lit (Value.slice none 0 0), .lit (Value.slice none 0 0), lM1 0, lM1 0, lM1 0, lM1 0, .lit (Value.slice none 0 0)], lM1 1, lM1 1]
  H := []
  outs := [⟨false, .tup [lM1 0, lM1 3], [], false⟩]
  spec := fun _ K => K 0 []
noncomputable def TM_mbxbj : Tab Try.prog := ⟨[], [], [ce_mbxbi, ce_mbxbh, ce_mbxbg, ce_mbxbf, ce_mbxbe, ce_mbxbd, ce_mbxbc, ce_mbxbb, ce_mbxba, ce_mbxj, ce_mbxi, ce_mbxh, ce_mbxg, ce_mbxf, ce_mbxe, ce_mbxd, ce_mbxc, ce_mbxb]⟩
theorem vc_mbxbj (W : InW) (K : Nat -> List Ed -> Prop) : coreK (cxT Try.prog TT TM_mbxbj 1000 50) 1000 18 (xsM1 cc_mbxbj) (ysM1 cc_mbxbj) (fun v h => outC cc_mbxbj.H [] cc_mbxbj.outs 0 false v h K) (fun v h => outC cc_mbxbj.H [] cc_mbxbj.outs 0 true v h K) = K 0 [] := by kernel_rfl
theorem ok_mbxbj : ∀ W : InW, @CallC W Try.prog cc_mbxbj :=
  CC.okOf (fun W => @TT W) (fun W => @TT_ok W) mixed_ok TM_mbxbj 1000 50 cc_mbxbj fun W K h => (vc_mbxbj W K).mpr h
noncomputable def ce_mbxbj : CE Try.prog := ceOf cc_mbxbj ok_mbxbj
def cc_mbxca : CC where
  g := 20
  args := []
  H := []
  outs := [⟨false, .lit (Value.bool true), [], false⟩]
  spec := fun _ K => K 0 []
noncomputable def TM_mbxca : Tab Try.prog := ⟨[], [], [ce_mbxbj, ce_mbxbi, ce_mbxbh, ce_mbxbg, ce_mbxbf, ce_mbxbe, ce_mbxbd, ce_mbxbc, ce_mbxbb, ce_mbxba, ce_mbxj, ce_mbxi, ce_mbxh, ce_mbxg, ce_mbxf, ce_mbxe, ce_mbxd, ce_mbxc, ce_mbxb]⟩
theorem vc_mbxca (W : InW) (K : Nat -> List Ed -> Prop) : coreK (cxT Try.prog TT TM_mbxca 1000 50) 1000 20 (xsM1 cc_mbxca) (ysM1 cc_mbxca) (fun v h => outC cc_mbxca.H [] cc_mbxca.outs 0 false v h K) (fun v h => outC cc_mbxca.H [] cc_mbxca.outs 0 true v h K) = K 0 [] := by kernel_rfl
theorem ok_mbxca : ∀ W : InW, @CallC W Try.prog cc_mbxca :=
  CC.okOf (fun W => @TT W) (fun W => @TT_ok W) mixed_ok TM_mbxca 1000 50 cc_mbxca fun W K h => (vc_mbxca W K).mpr h
abbrev cc_M1 : CC := cc_mbxca
theorem ok_M1 : ∀ W : InW, @CallC W Try.prog cc_M1 := ok_mbxca
noncomputable def pc_Awake : PC Try.prog := ⟨20, [], [(false, [.bool])], fun _ => True, fun _ => [[.b true]], pure_of_closed ok_M1 rfl rfl rfl fun _ _ _ => rfl⟩
open Go.RowKit
set_option maxRecDepth 100000
theorem WfC.str_le {c : Cl} (h : WfC .str c) : c.str.size <= maxLen := by cases h; assumption
theorem WfC.cell {ts : List Ty} {xs : Dt} (h : WfC (.sl ts) (.l xs)) {i k : Nat} {t : Ty} (hi : i < xs.length) (ht : ts[k]? = some t) : WfC t (cel xs i k) := by
  cases h with
  | sl _ _ _ _ h => exact h i k t hi ht
theorem names_ok {ts : List Ty} {xs : Dt} (h : WfC (.sl (.str :: ts)) (.l xs)) : Sp.NamesOk xs := fun i => by
  by_cases hi : i < xs.length
  · have := (h.cell hi (k := 0) rfl).str_le;simp only [maxLen] at this
    show (cel xs i 0).str.size <= _
    omega
  · have : cel xs i 0 = .z := by simp [cel, List.getD_eq_getElem?_getD, List.getElem?_eq_none (Nat.le_of_not_lt hi)]
    show (cel xs i 0).str.size <= _
    rw [this]; decide
theorem school_names {rl rc : Dt} {pr ex lo hi : Int} {rt : Dt} (h : WfL [.sl [.str], .sl Ivs, .int .i64, .int .i64, .int .i64, .int .i64, .sl [.int .i64, .int .i64]] [.l rl, .l rc, .i pr, .i ex, .i lo, .i hi, .l rt]) : Sp.NamesOk rl /\ Sp.NamesOk rc := by
  cases h with
  | cons h1 h =>
    cases h with
    | cons h2 h => exact ⟨names_ok h1, names_ok h2⟩
open Go.RowKit
set_option maxRecDepth 100000
open Go.RowKit
set_option maxRecDepth 100000
namespace Sp
def pays (ps : Dt) : Nat -> Nat -> Dt -> Dt
  | 0, _, h => h
  | n + 1, i, h => pays ps n (i + 1) (addA (addA h (cel ps i 1).int (-(cel ps i 3).int)) (cel ps i 2).int (cel ps i 3).int)
structure PsOk (na n : Int) (ps : Dt) : Prop where
  row : ∀ j, j < ps.length -> (0 <= (cel ps j 0).int /\ (cel ps j 0).int < n) /\ (0 <= (cel ps j 1).int /\ (cel ps j 1).int < na) /\ (0 <= (cel ps j 2).int /\ (cel ps j 2).int < na) /\ (cel ps j 1).int ≠ (cel ps j 2).int /\ (0 < (cel ps j 3).int /\ (cel ps j 3).int <= 10000000)
  up : ∀ j, j + 1 < ps.length -> (cel ps j 0).int <= (cel ps (j + 1) 0).int
def sumI (a : Dt) : Nat -> Nat -> Int
  | _, 0 => 0
  | i, n + 1 => (cel a i 0).int + sumI a (i + 1) n
end Sp
namespace Sp
theorem rB_ok {s : Sch} {evs : Dt} (h : rErr s evs = 0) : rB s evs = runAll s evs := if_pos h
theorem rB_no {s : Sch} {evs : Dt} (h : ¬ rErr s evs = 0) : rB s evs = ⟨[], [], [], [], [], [], 0, 0⟩ := if_neg h
theorem rE_ok {s : Sch} {evs : Dt} (h : rErr s evs = 0) : rE s evs = errAll s evs := if_pos h
theorem rE_no {s : Sch} {evs : Dt} (h : ¬ rErr s evs = 0) : rE s evs = [] := if_neg h
theorem sumI_set (a : Dt) (v : Int) (i : Nat) (hi : i < a.length) : ∀ (n k : Nat), sumI (a.set i [.i v]) k n = sumI a k n + if k <= i /\ i < k + n then v - (cel a i 0).int else 0
  | 0, k => by simp [sumI]; omega
  | n + 1, k => by
    unfold sumI;rw [sumI_set a v i hi n (k + 1), cel_set]
    by_cases h : i = k
    · subst h;rw [if_pos ⟨rfl, hi⟩, if_neg (by omega), if_pos (by omega)]
      show v + _ = _
      omega
    · rw [if_neg (fun e => h e.1)]
      by_cases h2 : k + 1 <= i /\ i < k + 1 + n
      · rw [if_pos h2, if_pos (by omega)]; omega
      · rw [if_neg h2, if_neg (by omega)]; omega
theorem sumI_addA (a : Dt) (i c : Int) (h : 0 <= i /\ i < a.length) : sumI (addA a i c) 0 a.length = sumI a 0 a.length + c := by
  unfold addA;rw [sumI_set a _ i.toNat (by omega), if_pos (by omega)];omega
theorem pays_app (ps : Dt) (r : List Cl) : ∀ (n i : Nat) (h : Dt), i + n = ps.length -> pays (ps ++ [r]) (n + 1) i h = addA (addA (pays ps n i h) (r.getD 1 .z).int (-(r.getD 3 .z).int)) (r.getD 2 .z).int (r.getD 3 .z).int
  | 0, i, h, e => by
    have : ∀ k, cel (ps ++ [r]) i k = r.getD k .z := fun k => by
      rw [show i = ps.length by omega];simp [cel, List.getD_eq_getElem?_getD]
    simp only [pays, this]
  | n + 1, i, h, e => by
    have : ∀ k, cel (ps ++ [r]) i k = cel ps i k := fun k => by simp [cel, List.getD_eq_getElem?_getD, List.getElem?_append_left (show i < ps.length by omega)]
    rw [pays, pays_app ps r n (i + 1) _ (by omega), this, this, this];rfl
structure Led (s : Sch) (b : Bks) (n : Int) : Prop where
  ac : b.ac = pays b.ps b.ps.length 0 (List.replicate (s.rl.length + 4) [.i 0])
  ps : PsOk ((s.rl.length : Int) + 4) n b.ps
  sum : sumI b.ac 0 b.ac.length = 0
theorem PsOk.post {na n : Int} {ps : Dt} (h : PsOk na (n + 1) ps) (h0 : 0 <= n) {u v c : Int} (hu : 0 <= u /\ u < na) (hv : 0 <= v /\ v < na) (hn : u ≠ v) (hc : 0 <= c /\ c <= 10000000) : PsOk na (n + 1) (postP ps n u v c) := by
  unfold postP
  split
  · exact h
  · rename_i e;have a1 : ∀ j k, j < ps.length -> cel (ps ++ [[Cl.i n, .i u, .i v, .i c]]) j k = cel ps j k := fun j k hj => by simp [cel, List.getD_eq_getElem?_getD, List.getElem?_append_left hj]
    have a2 : ∀ k, cel (ps ++ [[Cl.i n, .i u, .i v, .i c]]) ps.length k = [Cl.i n, .i u, .i v, .i c].getD k .z := fun k => by simp [cel, List.getD_eq_getElem?_getD]
    refine ⟨fun j hj => ?_, fun j hj => ?_⟩
    · simp only [List.length_append, List.length_singleton] at hj
      by_cases hj' : j < ps.length
      · simp only [a1 j _ hj']; exact h.row j hj'
      · rw [show j = ps.length by omega];simp only [a2];exact ⟨⟨h0, by show n < n + 1; omega⟩, hu, hv, hn, by show 0 < c /\ c <= _; omega⟩
    · simp only [List.length_append, List.length_singleton] at hj
      by_cases hj' : j + 1 < ps.length
      · rw [a1 _ _ hj', a1 _ _ (by omega)]; exact h.up j hj'
      · rw [a1 _ _ (by omega), show j + 1 = ps.length by omega, a2];have := (h.row j (by omega)).1.2
        show _ <= n
        omega
theorem Led.post {s : Sch} {b : Bks} {n : Int} (h : Led s b (n + 1)) (h0 : 0 <= n) (he : b.ev = n) (hl : b.ac.length = s.rl.length + 4) {u v c : Int} (hu : 0 <= u /\ u < (s.rl.length : Int) + 4) (hv : 0 <= v /\ v < (s.rl.length : Int) + 4) (hn : u ≠ v) (hc : 0 <= c /\ c <= 10000000) : Led s (b.post u v c) (n + 1) := by
  refine ⟨?_, ?_, ?_⟩
  · show postA b.ac u v c = pays (postP b.ps b.ev u v c) (postP b.ps b.ev u v c).length 0 _
    unfold postA postP
    split
    · exact h.ac
    · rw [List.length_append, List.length_singleton, pays_app b.ps _ b.ps.length 0 _ (by omega), <- h.ac];rfl
  · show PsOk _ _ (postP b.ps b.ev u v c)
    rw [he];exact h.ps.post h0 hu hv hn hc
  · show sumI (postA b.ac u v c) 0 (postA b.ac u v c).length = 0
    rw [postA_len];unfold postA
    split
    · exact h.sum
    · have e1 := sumI_addA b.ac u (-c) (by omega);have e2 := sumI_addA (addA b.ac u (-c)) v c (by rw [addA_len]; omega);rw [addA_len] at e2;rw [e2, e1, h.sum];omega
end Sp
open Go.RowKit
set_option maxRecDepth 100000
namespace Sp
def iter {α : Type} (f : Nat -> α -> α) : Nat -> Nat -> α -> α
  | 0, _, a => a
  | n + 1, i, a => iter f n (i + 1) (f i a)
theorem cel_right (a b : Dt) (j k : Nat) (h : a.length <= j) : cel (a ++ b) j k = cel b (j - a.length) k := by simp [cel, List.getD_eq_getElem?_getD, List.getElem?_append_right h]
theorem cel_take (a : Dt) (m j k : Nat) (h : j < m) : cel (a.take m) j k = cel a j k := by simp [cel, List.getD_eq_getElem?_getD, List.getElem?_take, h]
theorem step_cases (s : Sch) (b : Bks) (n : Int) (x : Evt) :
    (doE s b n x = 0 /\ inr x.kind 0 6 = true /\ b.tm <= x.at_ /\ x.at_ <= 4800 /\ err s b x = 0 /\ doB s b n x = { eff s { b with ev := n } x with tm := x.at_ }) \/
    (doE s b n x ≠ 0 /\ ∃ e, doB s b n x = { b with ev := e }) := by
  unfold doE doB
  by_cases e1 : inr x.kind 0 6 = true
  · by_cases e2 : inr x.at_ b.tm 4800 = true
    · by_cases e3 : err s b x = 0
      · have ht := inr_iff.1 e2;simp only [e1, e2, e3, Bool.not_true, Bool.false_eq_true, if_false, if_true];exact .inl ⟨trivial, trivial, ht.1, ht.2, trivial, trivial⟩
      · simp only [e1, e2, e3, Bool.not_true, Bool.false_eq_true, if_false];exact .inr ⟨e3, _, rfl⟩
    · simp only [e1, Bool.not_eq_true] at e2 ⊢;simp only [e2, Bool.not_true, Bool.false_eq_true, if_false, Bool.not_false, if_true];exact .inr ⟨by decide, b.ev, rfl⟩
  · rw [Bool.not_eq_true] at e1;simp only [e1, Bool.not_false, if_true];exact .inr ⟨by decide, b.ev, rfl⟩
structure Kept (a b : Dt) : Prop where
  len : a.length <= b.length
  row : ∀ j, j < a.length -> (cel b j 0).int = (cel a j 0).int /\ (cel b j 1).int = (cel a j 1).int /\ (cel b j 3).int = (cel a j 3).int
theorem Kept.refl (a : Dt) : Kept a a := ⟨Nat.le_refl _, fun _ _ => ⟨rfl, rfl, rfl⟩⟩
theorem Kept.trans {a b c : Dt} (h : Kept a b) (h2 : Kept b c) : Kept a c := ⟨Nat.le_trans h.len h2.len, fun j hj => by
  have := h.row j hj;have := h2.row j (by have := h.len; omega);omega⟩
theorem Kept.setSt (a : Dt) (i st : Int) : Kept a (setSt a i st) := ⟨by rw [setSt_len]; exact Nat.le_refl _, fun j hj => by
  rw [cel_setSt _ _ _ _ _ (by decide), cel_setSt _ _ _ _ _ (by decide), cel_setSt _ _ _ _ _ (by decide)];exact ⟨rfl, rfl, rfl⟩⟩
end Sp
open Go.RowKit
set_option maxRecDepth 100000
open Go.RowKit
set_option maxRecDepth 100000
namespace Sp
def rI (r : List Cl) (k : Nat) : Int := (r.getD k .z).int
theorem cel_rI (a : Dt) (j k : Nat) : (cel a j k).int = rI (a.getD j []) k := rfl
theorem row_mem {P : List Cl -> Prop} {a : Dt} (h : ∀ r ∈ a, P r) (j : Nat) (hj : j < a.length) : P (a.getD j []) := by
  rw [List.getD_eq_getElem?_getD, List.getElem?_eq_getElem hj];exact h _ (List.getElem_mem hj)
end Sp
open Go.RowKit
set_option maxRecDepth 100000
open Go.RowKit
set_option maxRecDepth 100000
open Go.RowKit
set_option maxRecDepth 100000
namespace Sp
theorem setCls_at (cs : List Cl) : ∀ (n : Nat) (l : List Cl) (k : Nat), k < cs.length -> (setCls l n cs).getD (n + k) .z = cs.getD k .z
  | 0, l, k, h => by simp [setCls, List.getD_eq_getElem?_getD, List.getElem?_append_left h]
  | n + 1, l, k, h => by
    rw [show n + 1 + k = (n + k) + 1 by omega, setCls];exact setCls_at cs n l.tail k h
theorem cel_setSt4 {ls : Dt} {i st : Int} (h : i.toNat < ls.length) (j : Nat) : cel (setSt ls i st) j 4 = if i.toNat = j then .i st else cel ls j 4 := by
  unfold setSt;rw [cel_set]
  by_cases e : i.toNat = j
  · rw [if_pos ⟨e, h⟩, if_pos e];exact setCls_at [.i st] 4 _ 0 (by simp)
  · rw [if_neg (fun x => e x.1), if_neg e]
theorem moveL_row {rc ls : Dt} {es : List (Int × Int)} {i : Int} (hi : i.toNat < ls.length) (j : Nat) :
    (i.toNat ≠ j -> ∀ k, cel (moveL rc ls es i) j k = cel ls j k) /\
    (i.toNat = j -> (cel (moveL rc ls es i) j 0).int = (cel ls j 0).int /\ (cel (moveL rc ls es i) j 1).int = (cel ls j 1).int /\ (cel (moveL rc ls es i) j 3).int = (cel ls j 3).int /\
      ((moveTo rc ls es (cel ls j 0).int (cel ls j 1).int (cel ls j 3).int i (days ((cel ls j 2).int + 24)) ((cel ls j 2).int + 24) = none /\ (cel (moveL rc ls es i) j 2).int = (cel ls j 2).int /\ (cel (moveL rc ls es i) j 4).int = 1) \/
       (moveTo rc ls es (cel ls j 0).int (cel ls j 1).int (cel ls j 3).int i (days ((cel ls j 2).int + 24)) ((cel ls j 2).int + 24) = some (cel (moveL rc ls es i) j 2).int /\ (cel (moveL rc ls es i) j 4).int = (cel ls j 4).int))) := by
  refine ⟨fun e k => ?_, fun e => ?_⟩
  · unfold moveL setSt
    split
    · rw [cel_set, if_neg (fun h => e h.1)]
    · rw [cel_set, if_neg (fun h => e h.1)]
  · subst e;unfold moveL
    split
    · rename_i s hs;have e : ∀ k, cel (ls.set i.toNat [.i (cel ls i.toNat 0).int, .i (cel ls i.toNat 1).int, .i s, .i (cel ls i.toNat 3).int, .i (cel ls i.toNat 4).int]) i.toNat k = [Cl.i (cel ls i.toNat 0).int, .i (cel ls i.toNat 1).int, .i s, .i (cel ls i.toNat 3).int, .i (cel ls i.toNat 4).int].getD k .z := fun k => by rw [cel_set, if_pos ⟨rfl, hi⟩]
      rw [e, e, e, e, e];exact ⟨rfl, rfl, rfl, .inr ⟨hs, rfl⟩⟩
    · rename_i hs;rw [cel_setSt _ _ _ _ _ (by decide), cel_setSt _ _ _ _ _ (by decide), cel_setSt _ _ _ _ _ (by decide), cel_setSt _ _ _ _ _ (by decide), cel_setSt4 hi, if_pos rfl];exact ⟨rfl, rfl, rfl, .inl ⟨hs, rfl, rfl⟩⟩
end Sp
open Go.RowKit
set_option maxRecDepth 100000
namespace Sp
theorem ofInt_nat {m : Int} (h : 0 <= m /\ m <= 255) : (BitVec.ofInt 64 m).toNat = m.toNat := by
  rw [BitVec.toNat_ofInt];have : (2 ^ 64 : Nat) = 18446744073709551616 := by decide
  rw [this];omega
theorem andI_nat {m n : Int} (h : 0 <= m /\ m <= 255) (h2 : 0 <= n /\ n <= 255) : andI .i64 m n = ((m.toNat &&& n.toNat : Nat) : Int) := by
  unfold andI;rw [show IntKind.i64.bits = 64 from rfl, BitVec.toNat_and, ofInt_nat h, ofInt_nat h2];have := Nat.and_le_left (n := m.toNat) (m := n.toNat);rw [IntWalk.i64_in _ (by omega)]
theorem orI_nat {m n : Int} (h : 0 <= m /\ m <= 255) (h2 : 0 <= n /\ n <= 255) : orI .i64 m n = ((m.toNat ||| n.toNat : Nat) : Int) := by
  unfold orI;rw [show IntKind.i64.bits = 64 from rfl, BitVec.toNat_or, ofInt_nat h, ofInt_nat h2];have : m.toNat ||| n.toNat < 2 ^ 8 := Nat.or_lt_two_pow (by omega) (by omega)
  rw [IntWalk.i64_in _ (by omega)]
theorem pow_in {w : Nat} (h : w <= 7) : (1 : Int) <= 2 ^ w /\ (2 : Int) ^ w <= 255 /\ ((2 : Int) ^ w).toNat = 2 ^ w := by
  have hc : w = 0 \/ w = 1 \/ w = 2 \/ w = 3 \/ w = 4 \/ w = 5 \/ w = 6 \/ w = 7 := by omega
  rcases hc with rfl | rfl | rfl | rfl | rfl | rfl | rfl | rfl <;> decide
theorem halve_div : ∀ (k : Nat) (n : Int), 0 <= n -> halve k n = n / 2 ^ k
  | 0, n, _ => by simp [halve]
  | k + 1, n, h => by
    rw [halve, halve_div k _ (by rw [Int.tdiv_eq_ediv_of_nonneg h]; omega), Int.tdiv_eq_ediv_of_nonneg h, Int.pow_succ', Int.ediv_ediv_of_nonneg (by decide)]
theorem bit_div (n : Int) (h : 0 <= n) (w : Nat) : n.toNat.testBit w = decide ((n / 2 ^ w) % 2 = 1) := by
  obtain ⟨m, rfl⟩ := Int.eq_ofNat_of_zero_le h;rw [Int.toNat_natCast, Nat.testBit_eq_decide_div_mod_eq]
  congr 1
  apply propext;have : ((m : Int) / 2 ^ w) % 2 = ((m / 2 ^ w % 2 : Nat) : Int) := by
    rw [Int.natCast_emod, Int.natCast_ediv, Int.natCast_pow];rfl
  omega
theorem and_pow (n w : Nat) : n &&& 2 ^ w = if n.testBit w then 2 ^ w else 0 := by
  apply Nat.eq_of_testBit_eq;intro i;rw [Nat.testBit_and, Nat.testBit_two_pow]
  by_cases e : w = i
  · subst e;cases h : n.testBit w
    · simp
    · simp [Nat.testBit_two_pow]
  · rw [decide_eq_false e, Bool.and_false]
    split
    · rw [Nat.testBit_two_pow, decide_eq_false e]
    · simp
theorem drives_bit {n w : Int} (h : 0 <= n) : drives n w = !n.toNat.testBit w.toNat := by
  unfold drives;rw [halve_div _ _ h, bit_div n h];have h2 : 0 <= n / 2 ^ w.toNat := Int.ediv_nonneg h (Int.le_of_lt (Int.pow_pos (by decide)));rw [Int.tmod_eq_emod_of_nonneg h2]
  by_cases e : n / 2 ^ w.toNat % 2 = 1
  · rw [decide_eq_true e, decide_eq_false (by omega)]; rfl
  · rw [decide_eq_false e, decide_eq_true (by omega)]; rfl
theorem hit_bit {n w : Int} (h : 0 <= n /\ n <= 255) : decide (andI .i64 (n.fdiv (2 ^ w.toNat)) 1 = 1) = !drives n w := by
  rw [drives_bit h.1, Bool.not_not, Int.fdiv_eq_ediv_of_nonneg _ (Int.le_of_lt (Int.pow_pos (by decide))), bit_div n h.1];have h2 : 0 <= n / 2 ^ w.toNat := Int.ediv_nonneg h.1 (Int.le_of_lt (Int.pow_pos (by decide)));have h3 : n / 2 ^ w.toNat <= n := Int.ediv_le_self _ h.1;rw [andI_nat (by omega) (by omega), show (1 : Int).toNat = 1 from rfl, Nat.and_one_is_mod]
  congr 1
  apply propext;omega
theorem dry_bits {n e : Int} (h : 0 <= n /\ n <= 255) (he : 0 <= e /\ e <= 255) {w : Int} (hw : 0 <= w /\ w <= 7) : decide (andI .i64 n (orI .i64 e (2 ^ w.toNat)) = 0) = (decide (andI .i64 n e = 0) && drives n w) := by
  have hp := pow_in (w := w.toNat) (by omega);have ho : (e.toNat ||| 2 ^ w.toNat) < 2 ^ 8 := Nat.or_lt_two_pow (by omega) (by omega);rw [orI_nat he (by omega), hp.2.2, andI_nat h (by omega), andI_nat h he, drives_bit h.1, Int.toNat_natCast, Nat.and_or_distrib_left, and_pow];have ht : 0 < 2 ^ w.toNat := Nat.pow_pos (by decide);generalize 2 ^ w.toNat = p at *;generalize n.toNat &&& e.toNat = a at *;cases n.toNat.testBit w.toNat
  · simp
  · simp only [if_true, Bool.not_true, Bool.and_false, decide_eq_false_iff_not];intro hx;have : a ||| p = 0 := by omega
    have := (Nat.or_eq_zero_iff.1 this).2;omega
theorem dryB_see {rc : Dt} {es : List (Int × Int)} {d w c s : Int} (hn : 0 <= (cel rc c.toNat 3).int /\ (cel rc c.toNat 3).int <= 255) (he : ∀ d, 0 <= getI es d /\ getI es d <= 255) (hw : 0 <= w /\ w <= 7) :
    dryB rc (seeE es d w) c s = if d = s.tdiv 24 then dryB rc es c s && drives (cel rc c.toNat 3).int w else dryB rc es c s := by
  unfold dryB seeE;rw [getI_setI]
  split
  · rename_i e;rw [dry_bits hn (he d) hw, e]
  · rfl
theorem hit_drives {rc ls : Dt} {i : Int} {x : Evt} (hn : 0 <= (cel rc (cel ls i.toNat 1).int.toNat 3).int /\ (cel rc (cel ls i.toNat 1).int.toNat 3).int <= 255) :
    hit rc ls i x = (decide ((cel ls i.toNat 4).int = 0) && (decide ((cel ls i.toNat 2).int.tdiv 24 = x.d) && (decide (x.at_ < (cel ls i.toNat 2).int) && !drives (cel rc (cel ls i.toNat 1).int.toNat 3).int x.w))) := by
  unfold hit;rw [hit_bit hn]
end Sp
end Go.Proofs.Ytiiicnhjjfmpkaa
