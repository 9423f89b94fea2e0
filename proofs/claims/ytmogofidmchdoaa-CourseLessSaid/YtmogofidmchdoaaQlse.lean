/-
  'CourseLess': for every input the law returns true, and what is handed in reads as before. No condition.
-/
import Derived.Test.YtmogofidmchdoaaQlsd
import Derived.Test.YtmogofidmchdoaaRows
import Derived.WalkKit
import Derived.ProofKit
set_option linter.unusedVariables false
set_option linter.unusedSectionVars false
set_option linter.unusedSimpArgs false
namespace Go.Proofs.Ytmogofidmchdoaa
open Go.RowKit
set_option maxRecDepth 100000
theorem Xck {xs : Dt} (h : (List.range xs.length).all (fun i => decide ((Sp.nm xs i).size <= 9223372036854775807)) = true) : Sp.NamesOk xs := by
 intro i
 by_cases hi : i < xs.length
 ·have := List.all_eq_true.1 h i (List.mem_range.2 hi);exact of_decide_eq_true this
 ·have e : Sp.nm xs i = Sp.nm [] 0 := by
   unfold Sp.nm cel;rw [show xs.getD i [] = [] by rw [List.getD_eq_getElem?_getD, List.getElem?_eq_none (by omega)]; rfl];rfl
  rw [e];decide +kernel
theorem vif_t [InW] {b : Bool} {A B : Prop} (hb : b = true) (ha : A) : Vif b A B := Vif_iff.2 ⟨fun _ => ha, fun h => absurd (hb.symm.trans h) (by decide)⟩
theorem Xok [W : InW] (Q : DS -> Prop) (h : Q [[.b true]]) : Xcf Q := by
 unfold Xcf;delta Zdw Zdu Zdn Zds Zdt Zdx Zdp Zdr Zg Zdq Zdo Zdm Zdv
 iterate 7 refine Pre_iff.2 ⟨⟨Xck (by kernel_rfl), Xck (by kernel_rfl), Xck (by kernel_rfl)⟩, ?_⟩
 repeat first | refine vif_t (by kernel_rfl) ?_ | refine Pre_iff.2 ⟨trivial, ?_⟩ | refine Pre_iff.2 ⟨by decide +kernel, ?_⟩
 exact (congrArg Q (by kernel_rfl)).mpr h
noncomputable def Xm5 : PC Try.prog := ⟨20, [], [(false, [.bool])], fun _ => True, fun _ => [[.b true]], Xn7 fun W hp Q h => Xok Q h⟩
set_option maxHeartbeats 1600000
noncomputable def TH11 : Tab Try.prog := ⟨[], [], []⟩
structure Sp.WdOk (hd : Dt) (xa xb : Int) : Prop where
 few : hd.length <= 40
 ok : ∀ i, i < hd.length -> Sp.HdOk hd i
 a : 0 <= xa /\ xa <= 255
 b : 0 <= xb /\ xb <= 255
def Xhk [InW] (e : List Ed) (K : Nat -> List Ed -> Prop) : Prop := match e with
 | [.i s, .ro _ pl, .ro _ sh, .ro _ ti, .ro _ st, .i ce, .ro _ hd, .ro _ rt, .i wm, .i wd, .i ws, .i wt, .i xa, .i xb, .i xc, .i pb, .l pr, .ro _ pl2, .ro _ sh2, .ro _ ti2, .ro _ st2, .i ce2, .ro _ rt2, .l hw] => Pre (Sp.WdOk hd.xs xa xb /\ 0 <= s /\ s <= hd.xs.length /\ hw = Sp.wid hd.xs xa xb s.toNat)
   (K 0 [.ro _ pl, .ro _ sh, .ro _ ti, .ro _ st, .i ce, .ro _ hd, .ro _ rt, .i wm, .i wd, .i ws, .i wt, .i xa, .i xb, .i xc, .i pb, .l pr, .ro _ pl2, .ro _ sh2, .ro _ ti2, .ro _ st2, .i ce2, .ro _ rt2, .l (Sp.wid hd.xs xa xb hd.xs.length)])
 | _ => False
noncomputable def Xiq : LC where
 len := 251
 T := [(3, (.ptr 1 0)), (4, (.ptr 10 0)), (5, (.ptr 7 0)), (7, (.ptr 13 0)), (9, (.ptr 19 0)), (10, .int .i64)]
 H := [(1, .blk 29 [.rs Jb, .rs Jb, .rs Jb, .rs Jd, .int .i64, .rs Iv4, .rs Je]), (10, .blk 46 [.int .i64, .int .i64, .int .i64, .int .i64]), (7, .blk 83 [.int .u8, .int .u8, .int .u8]), (13, .blk 49 [(.row 16), .int .i64]), (16, .arr 3 Ja), (19, .blk 29 [.rs Jb, .rs Jb, .rs Jb, .rs Jd, .int .i64, (.row 30), .rs Je]), (30, .arr 79 Iv4)]
 W := ([11] ++ rg 55 36)
 outs := [⟨.exit 0, [(3, (.ptr 1 0)), (4, (.ptr 10 0)), (5, (.ptr 7 0)), (7, (.ptr 13 0)), (9, (.ptr 19 0))], [(1, .blk 29 [.rs Jb, .rs Jb, .rs Jb, .rs Jd, .int .i64, .rs Iv4, .rs Je]), (10, .blk 46 [.int .i64, .int .i64, .int .i64, .int .i64]), (7, .blk 83 [.int .u8, .int .u8, .int .u8]), (13, .blk 49 [(.row 16), .int .i64]), (16, .arr 3 Ja), (19, .blk 29 [.rs Jb, .rs Jb, .rs Jb, .rs Jd, .int .i64, (.row 33), .rs Je]), (33, .arr 79 Iv4)], ([10, 11] ++ rg 55 36)⟩]
 spec := Xhk
def Xg2 [W : InW] (s : Int) (pl sh ti : Ro Jb) (st : Ro Jd) (ce : Int) (hd : Ro Iv4) (rt : Ro Je) (wm wd ws wt xa xb xc pb : Int) (pr : Dt) (pl2 sh2 ti2 : Ro Jb) (st2 : Ro Jd) (ce2 : Int) (rt2 : Ro Je) (hw : Dt) (A : List Ed -> Prop) (K : Nat -> List Ed -> Prop) : Prop :=
 Vif (decide (s < (↑(hd.xs.length) : Int))) (Need (decide (0 <= s) && decide (s < (↑(hd.xs.length) : Int))) (Need (decide (s.toNat < hd.xs.length)) (Ar .i64 xa fun z => Ar .i64 ((cel hd.xs s.toNat (Zbd + 1 + 1)).int - z) fun z => Ar .i64 xb fun z_1 => Ar .i64 ((cel hd.xs s.toNat (Zbd + 1 + 1 + 1)).int + z_1) fun z_2 => Need (decide ((hw.length + [[Cl.i (cel hd.xs s.toNat Zbd).int, Cl.i (cel hd.xs s.toNat (0+1)).int, Cl.i (max (0 : Int) z), Cl.i (min (100 : Int) z_2)]].length) * 32 <= 140737488355328)) (Ar .i64 (s + 1) fun z_3 => A [.i z_3, .ro _ pl, .ro _ sh, .ro _ ti, .ro Zb st, .i ce, .ro _ hd, .ro Zdc rt, .i wm, .i wd, .i ws, .i wt, .i xa, .i xb, .i xc, .i pb, .l pr, .ro _ pl2, .ro _ sh2, .ro _ ti2, .ro Zb st2, .i ce2, .ro Zdc rt2, .l (hw ++ [[Cl.i (cel hd.xs s.toNat Zbd).int, Cl.i (cel hd.xs s.toNat (0+1)).int, Cl.i (max (0 : Int) z), Cl.i (min (100 : Int) z_2)]])])))) (K 0 [.ro _ pl, .ro _ sh, .ro _ ti, .ro Zb st, .i ce, .ro _ hd, .ro Zdc rt, .i wm, .i wd, .i ws, .i wt, .i xa, .i xb, .i xc, .i pb, .l pr, .ro _ pl2, .ro _ sh2, .ro _ ti2, .ro Zb st2, .i ce2, .ro Zdc rt2, .l hw])
theorem Xo5 (W : InW) (s pl sh ti st ce hd rt wm wd ws wt xa xb xc pb pr pl2 sh2 ti2 st2 ce2 rt2 hw A K) : Ye9 { cxT Try.prog TT TH11 1000 50 with fn := 11 } 1000 (Ynd Try.prog 11 8) (Yd0 251 [(3, .ptr 1 0), (4, .ptr 10 0), (5, .ptr 7 0), (7, .ptr 13 0), (9, .ptr 19 0), (10, .si .i64 s)] ([11] ++ rg 55 36)) [(1, .blk 29 [.rs _ pl, .rs _ sh, .rs _ ti, .rs _ st, .si .i64 ce, .rs _ hd, .rs _ rt]), (10, .blk 46 [.si .i64 wm, .si .i64 wd, .si .i64 ws, .si .i64 wt]), (7, .blk 83 [.si .u8 xa, .si .u8 xb, .si .u8 xc]), (13, .blk 49 [.rw 16, .si .i64 pb]), (16, .arr 3 Ja pr), (19, .blk 29 [.rs _ pl2, .rs _ sh2, .rs _ ti2, .rs _ st2, .si .i64 ce2, .rw 30, .rs _ rt2]), (30, .arr 79 Iv4 hw)] (Yte Xiq A K) = Xg2 s pl sh ti st ce hd rt wm wd ws wt xa xb xc pb pr pl2 sh2 ti2 st2 ce2 rt2 hw A K := by kernel_rfl
def Xib : Prop := ∀ (W : InW) (body a : Code), (Try.prog.funcs[11]?).bind (·.body) = some body -> a ∈ Yu body -> Yfs a = 8 -> @Yl2 W Try.prog a (@Ysl W Xiq)
theorem Xqa (meas : [InW] -> List Ed -> Nat) (hyp_ : ∀ (W : InW) s pl sh ti st ce hd rt wm wd ws wt xa xb xc pb pr pl2 sh2 ti2 st2 ce2 rt2 hw K, Xhk [.i s, .ro _ pl, .ro _ sh, .ro _ ti, .ro _ st, .i ce, .ro _ hd, .ro _ rt, .i wm, .i wd, .i ws, .i wt, .i xa, .i xb, .i xc, .i pb, .l pr, .ro _ pl2, .ro _ sh2, .ro _ ti2, .ro _ st2, .i ce2, .ro _ rt2, .l hw] K -> ∀ A : List Ed -> Prop, (∀ e, meas e < meas [.i s, .ro _ pl, .ro _ sh, .ro _ ti, .ro _ st, .i ce, .ro _ hd, .ro _ rt, .i wm, .i wd, .i ws, .i wt, .i xa, .i xb, .i xc, .i pb, .l pr, .ro _ pl2, .ro _ sh2, .ro _ ti2, .ro _ st2, .i ce2, .ro _ rt2, .l hw] -> Xhk e K -> A e) -> Xg2 s pl sh ti st ce hd rt wm wd ws wt xa xb xc pb pr pl2 sh2 ti2 st2 ce2 rt2 hw A K) : Xib :=
 LE.okOf' (fun W => @TT W) (fun W => @Xb W) Xa TH11 1000 50 (by kernel_rfl) Xiq (fun W => @meas W) fun W s pl sh ti st ce hd rt wm wd ws wt xa xb xc pb pr pl2 sh2 ti2 st2 ce2 rt2 hw K hs =>
  (Xo5 W s pl sh ti st ce hd rt wm wd ws wt xa xb xc pb pr pl2 sh2 ti2 st2 ce2 rt2 hw (fun e => meas e < meas [.i s, .ro _ pl, .ro _ sh, .ro _ ti, .ro _ st, .i ce, .ro _ hd, .ro _ rt, .i wm, .i wd, .i ws, .i wt, .i xa, .i xb, .i xc, .i pb, .l pr, .ro _ pl2, .ro _ sh2, .ro _ ti2, .ro _ st2, .i ce2, .ro _ rt2, .l hw] /\ Xhk e K) K).mpr (hyp_ W s pl sh ti st ce hd rt wm wd ws wt xa xb xc pb pr pl2 sh2 ti2 st2 ce2 rt2 hw K hs _ fun e h1 h2 => ⟨h1, h2⟩)
theorem Xsq : Xib := Xqa (fun e => match e with | .i s :: _ :: _ :: _ :: _ :: _ :: .ro _ hd :: _ => ((hd.xs.length : Int) - s).toNat | _ => 0) fun W s pl sh ti st ce hd rt wm wd ws wt xa xb xc pb pr pl2 sh2 ti2 st2 ce2 rt2 hw K hs A hA => by
 obtain ⟨⟨ok, s0, s1, rfl⟩, hk⟩ := hs;unfold Xg2;delta Zdc Zb Zbd;have hf := ok.few;have ha := ok.a;have hb := ok.b;have hl := Sp.wid_len hd.xs xa xb s.toNat
 by_cases hi' : s < hd.xs.length
 ·obtain ⟨o1, o2, o3, o4, o5⟩ := ok.ok s.toNat (by omega);have e3 : Sp.hLo hd.xs s.toNat = (cel hd.xs s.toNat 2).int := rfl;have e4 : Sp.hHi hd.xs s.toNat = (cel hd.xs s.toNat 3).int := rfl;have go : A [.i (s + 1), .ro _ pl, .ro _ sh, .ro _ ti, .ro _ st, .i ce, .ro _ hd, .ro _ rt, .i wm, .i wd, .i ws, .i wt, .i xa, .i xb, .i xc, .i pb, .l pr, .ro _ pl2, .ro _ sh2, .ro _ ti2, .ro _ st2, .i ce2, .ro _ rt2, .l (Sp.wid hd.xs xa xb s.toNat ++ [[Cl.i (Sp.hBa hd.xs s.toNat), Cl.i (Sp.hPe hd.xs s.toNat), Cl.i (max 0 (Sp.hLo hd.xs s.toNat - xa)), Cl.i (min 100 (Sp.hHi hd.xs s.toNat + xb))]])] := hA _ (by show ((hd.xs.length : Int) - (s + 1)).toNat < ((hd.xs.length : Int) - s).toNat; omega) ⟨⟨ok, by omega, by omega, by rw [show (s + 1).toNat = s.toNat + 1 by omega, Sp.wid_succ]⟩, hk⟩;refine vifd (fun _ => ?_) (fun h => absurd hi' h);simp only [Nat.zero_add, Nat.reduceAdd];exact ned (by simp; omega) (nedd (by omega) (ar64 (by omega) (ar64 (by omega) (ar64 (by omega) (ar64 (by omega) (nedd (by simp; omega) (ar64 (by omega) go)))))))
 ·refine vifd (fun h => absurd h hi') (fun _ => ?_);rw [show s.toNat = hd.xs.length by omega];exact hk
noncomputable def Xta : LE Try.prog := ⟨11, 8, fun W => @Ysl W Xiq, Xsq⟩
namespace Sp
theorem pk_no {pl sh ti st : Dt} {ce : Int} {hd rt : Dt} {wm wd ws wt : Int} (h : ¬ pkE pl sh ti st ce hd rt wm wd ws wt = 0) : pkL pl sh ti st ce hd rt wm wd ws wt = [] := by
 by_cases hc : cE pl sh ti st ce hd rt = 0
 ·by_cases hw : wsE sh ti wm wd ws wt = 0
  ·unfold pkL pkE at *;rw [if_pos hc, if_pos hw] at h ⊢
   split at h
   ·rename_i g; exact Xce.1 g
   ·exact absurd rfl h
  ·exact (Xkh hc hw).2
 ·exact (Xot hc).2
theorem haE_in {pl sh ti st : Dt} {ce : Int} {hd rt : Dt} {a : Int} (hc : cE pl sh ti st ce hd rt = 0) (h0 : 0 <= a) (h1 : a < rt.length) : haE pl sh ti st ce hd rt a = 0 := by
 unfold haE rtsE;rw [if_pos hc, if_neg];simp [out, outs, inr, cel, Cl.int];omega
theorem pairE_in {pl sh ti st : Dt} {ce : Int} {hd rt : Dt} {a b : Int} (hc : cE pl sh ti st ce hd rt = 0) (h0 : 0 <= a) (h1 : a < rt.length) (h2 : 0 <= b) (h3 : b < rt.length) : pairE pl sh ti st ce hd rt a b = 0 := by
 unfold pairE rtsE;rw [if_pos hc, if_neg];simp [out, outs, inr, cel, Cl.int];omega
end Sp
noncomputable def Xtr : Tab Try.prog := ⟨[Xh8, Xmy, Xh9, Xfv, Xm5], [Xta], []⟩
def Zea [W : InW] (c_Pl c_Sh c_Ti : Ro Jb) := Sp.NamesOk c_Pl.xs /\ Sp.NamesOk c_Sh.xs /\ Sp.NamesOk c_Ti.xs
def Zeb [W : InW] (c_Pl c_Sh c_Ti : Ro Jb) (c_St : Ro Jd) (c_Ce : Int) (c_Hd : Ro Iv4) (c_Rt : Ro Je) (w_Wm w_Wd w_Ws w_Wt : Int) (Q : DS -> Prop) := Vif (!decide (Sp.pkE c_Pl.xs c_Sh.xs c_Ti.xs c_St.xs c_Ce c_Hd.xs c_Rt.xs w_Wm w_Wd w_Ws w_Wt = 0)) (Vif (decide ((↑(List.length (Sp.pkL c_Pl.xs c_Sh.xs c_Ti.xs c_St.xs c_Ce c_Hd.xs c_Rt.xs w_Wm w_Wd w_Ws w_Wt)) : Int) = 0)) (Pre True (Q [[Cl.b true]])) (Q Zdt)) (Q Zdt)
def Zdz [W : InW] (c_Rt : Ro Je) := (↑(c_Rt.xs.length) : Int)
def Zed [W : InW] (c_Hd : Ro Iv4) (x_xa x_xb : Int) := Sp.wid c_Hd.xs x_xa x_xb (c_Hd.xs.length)
def Zec [W : InW] (c_Rt : Ro Je) := List.take (c_Rt.xs.length) c_Rt.xs
def Zdy [W : InW] (c_Pl c_Sh c_Ti : Ro Jb) (c_St : Ro Jd) (c_Ce : Int) (c_Hd : Ro Iv4) (c_Rt : Ro Je) (w_Wm w_Wd w_Ws w_Wt : Int) (Q : DS -> Prop) := Vif (decide (1 < w_Wm)) (Ar .i64 (w_Wm - 1) fun z => Pre (Zea c_Pl c_Sh c_Ti) (Vif (decide (Sp.pkE c_Pl.xs c_Sh.xs c_Ti.xs c_St.xs c_Ce c_Hd.xs c_Rt.xs z w_Wd w_Ws w_Wt = 0)) (Vif (decide (Sp.pkB c_Pl.xs c_Sh.xs c_Ti.xs c_St.xs c_Ce c_Hd.xs c_Rt.xs z w_Wd w_Ws w_Wt <= Sp.pkB c_Pl.xs c_Sh.xs c_Ti.xs c_St.xs c_Ce c_Hd.xs c_Rt.xs w_Wm w_Wd w_Ws w_Wt)) (Pre True (Q [[Cl.b true]])) (Q Zdt)) (Q Zdt))) (Vif (decide (Sp.pkB c_Pl.xs c_Sh.xs c_Ti.xs c_St.xs c_Ce c_Hd.xs c_Rt.xs w_Wm w_Wd w_Ws w_Wt = 0)) (Pre True (Q [[Cl.b true]])) (Q Zdt))
def Xbx [W : InW] (c_Pl c_Sh c_Ti : Ro Jb) (c_St : Ro Jd) (c_Ce : Int) (c_Hd : Ro Iv4) (c_Rt : Ro Je) (w_Wm w_Wd w_Ws w_Wt x_xa x_xb x_xc : Int) (Q : DS -> Prop) : Prop :=
 Pre (Zea c_Pl c_Sh c_Ti) (Vif (!decide (Sp.pkE c_Pl.xs c_Sh.xs c_Ti.xs c_St.xs c_Ce c_Hd.xs c_Rt.xs w_Wm w_Wd w_Ws w_Wt = 0)) (Zeb c_Pl c_Sh c_Ti c_St c_Ce c_Hd c_Rt w_Wm w_Wd w_Ws w_Wt Q) (Pre (Zea c_Pl c_Sh c_Ti) (Vif (!decide (Sp.cE c_Pl.xs c_Sh.xs c_Ti.xs c_St.xs c_Ce c_Hd.xs c_Rt.xs = 0)) (Zeb c_Pl c_Sh c_Ti c_St c_Ce c_Hd c_Rt w_Wm w_Wd w_Ws w_Wt Q) (Vif (decide ((Zdz c_Rt) = 0)) (Zeb c_Pl c_Sh c_Ti c_St c_Ce c_Hd c_Rt w_Wm w_Wd w_Ws w_Wt Q) (Pre (Sp.WdOk c_Hd.xs x_xa x_xb /\ Zg <= 0 /\ Zg <= (↑(c_Hd.xs.length) : Int) /\ [] = Sp.wid c_Hd.xs x_xa x_xb (Int.toNat Zg)) (Pre (Zea c_Pl c_Sh c_Ti) (Vif (!decide (Sp.pkE c_Pl.xs c_Sh.xs c_Ti.xs c_St.xs c_Ce (Zed c_Hd x_xa x_xb) c_Rt.xs w_Wm w_Wd w_Ws w_Wt = 0)) (Q Zdt) (Vif (decide (Sp.pkB c_Pl.xs c_Sh.xs c_Ti.xs c_St.xs c_Ce (Zed c_Hd x_xa x_xb) c_Rt.xs w_Wm w_Wd w_Ws w_Wt < Sp.pkB c_Pl.xs c_Sh.xs c_Ti.xs c_St.xs c_Ce c_Hd.xs c_Rt.xs w_Wm w_Wd w_Ws w_Wt)) (Q Zdt) (Ar .i64 x_xc fun z => Need (!decide ((Zdz c_Rt) = 0)) (Pre (Zea c_Pl c_Sh c_Ti) (Pre (Zea c_Pl c_Sh c_Ti) (Pre (Zea c_Pl c_Sh c_Ti) (Pre (Zea c_Pl c_Sh c_Ti) (Vif (!decide (Sp.haE c_Pl.xs c_Sh.xs c_Ti.xs c_St.xs c_Ce c_Hd.xs c_Rt.xs (z.tmod (Zdz c_Rt)) = 0)) (Q Zdt) (Vif (!decide (Sp.haE c_Pl.xs c_Sh.xs c_Ti.xs c_St.xs c_Ce (Zed c_Hd x_xa x_xb) c_Rt.xs (z.tmod (Zdz c_Rt)) = 0)) (Q Zdt) (Vif (!decide (Sp.pairE c_Pl.xs c_Sh.xs c_Ti.xs c_St.xs c_Ce c_Hd.xs c_Rt.xs (z.tmod (Zdz c_Rt)) Zg = 0)) (Q Zdt) (Vif (!decide (Sp.pairE c_Pl.xs c_Sh.xs c_Ti.xs c_St.xs c_Ce (Zed c_Hd x_xa x_xb) c_Rt.xs (z.tmod (Zdz c_Rt)) Zg = 0)) (Q Zdt) (Vif (decide (Sp.hvLo c_Pl.xs c_Sh.xs c_Ti.xs c_St.xs c_Ce c_Hd.xs c_Rt.xs (z.tmod (Zdz c_Rt)) < Sp.hvLo c_Pl.xs c_Sh.xs c_Ti.xs c_St.xs c_Ce (Zed c_Hd x_xa x_xb) c_Rt.xs (z.tmod (Zdz c_Rt)))) (Q Zdt) (Vif (decide (Sp.hvHi c_Pl.xs c_Sh.xs c_Ti.xs c_St.xs c_Ce (Zed c_Hd x_xa x_xb) c_Rt.xs (z.tmod (Zdz c_Rt)) < Sp.hvHi c_Pl.xs c_Sh.xs c_Ti.xs c_St.xs c_Ce c_Hd.xs c_Rt.xs (z.tmod (Zdz c_Rt)))) (Q Zdt) (Vif (decide (Sp.paLo c_Pl.xs c_Sh.xs c_Ti.xs c_St.xs c_Ce c_Hd.xs c_Rt.xs (z.tmod (Zdz c_Rt)) Zg < Sp.paLo c_Pl.xs c_Sh.xs c_Ti.xs c_St.xs c_Ce (Zed c_Hd x_xa x_xb) c_Rt.xs (z.tmod (Zdz c_Rt)) Zg)) (Q Zdt) (Vif (decide (Sp.paHi c_Pl.xs c_Sh.xs c_Ti.xs c_St.xs c_Ce (Zed c_Hd x_xa x_xb) c_Rt.xs (z.tmod (Zdz c_Rt)) Zg < Sp.paHi c_Pl.xs c_Sh.xs c_Ti.xs c_St.xs c_Ce c_Hd.xs c_Rt.xs (z.tmod (Zdz c_Rt)) Zg)) (Q Zdt) (Need (decide (0 <= z.tmod (Zdz c_Rt))) (Need (decide (Zbd <= (z.tmod (Zdz c_Rt)).toNat) && decide ((z.tmod (Zdz c_Rt)).toNat <= c_Rt.xs.length)) (Need (decide ((List.drop Zbd (List.take (z.tmod (Zdz c_Rt)).toNat c_Rt.xs)).length * 24 <= 140737488355328)) (Ar .i64 (z.tmod (Zdz c_Rt) + 1) fun z_1 => Need (decide (0 <= z_1)) (Need (decide (z_1.toNat <= c_Rt.xs.length) && decide (c_Rt.xs.length <= c_Rt.xs.length)) (Need (decide (((List.drop Zbd (List.take (z.tmod (Zdz c_Rt)).toNat c_Rt.xs)).length + (List.drop z_1.toNat (Zec c_Rt)).length) * 24 <= 140737488355328)) (Pre (Zea c_Pl c_Sh c_Ti) (Vif (!decide (Sp.pkE c_Pl.xs c_Sh.xs c_Ti.xs c_St.xs c_Ce c_Hd.xs (List.drop Zbd (List.take (z.tmod (Zdz c_Rt)).toNat c_Rt.xs) ++ List.drop z_1.toNat (Zec c_Rt)) w_Wm w_Wd w_Ws w_Wt = 0)) (Vif (!decide (Sp.pkE c_Pl.xs c_Sh.xs c_Ti.xs c_St.xs c_Ce c_Hd.xs (List.drop Zbd (List.take (z.tmod (Zdz c_Rt)).toNat c_Rt.xs) ++ List.drop z_1.toNat (Zec c_Rt)) w_Wm w_Wd w_Ws w_Wt = 9)) (Q Zdt) (Vif (decide (Sp.pkE c_Pl.xs c_Sh.xs c_Ti.xs c_St.xs c_Ce c_Hd.xs (List.drop Zbd (List.take (z.tmod (Zdz c_Rt)).toNat c_Rt.xs) ++ List.drop z_1.toNat (Zec c_Rt)) w_Wm w_Wd w_Ws w_Wt = 0)) (Vif (decide (Sp.pkB c_Pl.xs c_Sh.xs c_Ti.xs c_St.xs c_Ce c_Hd.xs (List.drop Zbd (List.take (z.tmod (Zdz c_Rt)).toNat c_Rt.xs) ++ List.drop z_1.toNat (Zec c_Rt)) w_Wm w_Wd w_Ws w_Wt < Sp.pkB c_Pl.xs c_Sh.xs c_Ti.xs c_St.xs c_Ce c_Hd.xs c_Rt.xs w_Wm w_Wd w_Ws w_Wt)) (Q Zdt) (Zdy c_Pl c_Sh c_Ti c_St c_Ce c_Hd c_Rt w_Wm w_Wd w_Ws w_Wt Q)) (Zdy c_Pl c_Sh c_Ti c_St c_Ce c_Hd c_Rt w_Wm w_Wd w_Ws w_Wt Q))) (Vif (decide (Sp.pkE c_Pl.xs c_Sh.xs c_Ti.xs c_St.xs c_Ce c_Hd.xs (List.drop Zbd (List.take (z.tmod (Zdz c_Rt)).toNat c_Rt.xs) ++ List.drop z_1.toNat (Zec c_Rt)) w_Wm w_Wd w_Ws w_Wt = 0)) (Vif (decide (Sp.pkB c_Pl.xs c_Sh.xs c_Ti.xs c_St.xs c_Ce c_Hd.xs (List.drop Zbd (List.take (z.tmod (Zdz c_Rt)).toNat c_Rt.xs) ++ List.drop z_1.toNat (Zec c_Rt)) w_Wm w_Wd w_Ws w_Wt < Sp.pkB c_Pl.xs c_Sh.xs c_Ti.xs c_St.xs c_Ce c_Hd.xs c_Rt.xs w_Wm w_Wd w_Ws w_Wt)) (Q Zdt) (Zdy c_Pl c_Sh c_Ti c_St c_Ce c_Hd c_Rt w_Wm w_Wd w_Ws w_Wt Q)) (Zdy c_Pl c_Sh c_Ti c_St c_Ce c_Hd c_Rt w_Wm w_Wd w_Ws w_Wt Q)))))))))))))))))))))))))))))))
theorem Xjc (W : InW) (c_Pl c_Sh c_Ti c_St c_Ce c_Hd c_Rt w_Wm w_Wd w_Ws w_Wt x_xa x_xb x_xc Q) : Yvi (cxT Try.prog TT Xtr 1000 50) 1000 11 [.agg [.rs _ c_Pl, .rs _ c_Sh, .rs _ c_Ti, .rs _ c_St, .si .i64 c_Ce, .rs _ c_Hd, .rs _ c_Rt], .agg [.si .i64 w_Wm, .si .i64 w_Wd, .si .i64 w_Ws, .si .i64 w_Wt], .agg [.si .u8 x_xa, .si .u8 x_xb, .si .u8 x_xc]] [] 0 (Yzk [(false, [.bool])] Q) (fun _ _ _ _ => Stuck 421) = Xbx c_Pl c_Sh c_Ti c_St c_Ce c_Hd c_Rt w_Wm w_Wd w_Ws w_Wt x_xa x_xb x_xc Q := by kernel_rfl
abbrev X4 : List AT := [.agg [.sl Jb, .sl Jb, .sl Jb, .sl Jd, .int .i64, .sl Iv4, .sl Je], .agg [.int .i64, .int .i64, .int .i64, .int .i64], .agg [.int .u8, .int .u8, .int .u8]]
theorem Xjm {pre : DS -> Prop} {res : DS -> DS} (hyp_ : ∀ (W : InW) (c_Pl c_Sh c_Ti : Ro Jb) (c_St : Ro Jd) (c_Ce : Int) (c_Hd : Ro Iv4) (c_Rt : Ro Je) (w_Wm w_Wd w_Ws w_Wt x_xa x_xb x_xc : Int), pre [[.l c_Pl.xs, .l c_Sh.xs, .l c_Ti.xs, .l c_St.xs, .i c_Ce, .l c_Hd.xs, .l c_Rt.xs], [.i w_Wm, .i w_Wd, .i w_Ws, .i w_Wt], [.i x_xa, .i x_xb, .i x_xc]] -> ∀ Q : DS -> Prop, Q (res [[.l c_Pl.xs, .l c_Sh.xs, .l c_Ti.xs, .l c_St.xs, .i c_Ce, .l c_Hd.xs, .l c_Rt.xs], [.i w_Wm, .i w_Wd, .i w_Ws, .i w_Wt], [.i x_xa, .i x_xb, .i x_xc]]) -> Xbx c_Pl c_Sh c_Ti c_St c_Ce c_Hd c_Rt w_Wm w_Wd w_Ws w_Wt x_xa x_xb x_xc Q) : PureOk Try.prog 11 X4 [(false, [.bool])] pre res :=
 PureOk.of' (fun W => @TT W) (fun W => @Xb W) Xa Xtr 1000 50 fun W c_Pl c_Sh c_Ti c_St c_Ce c_Hd c_Rt w_Wm w_Wd w_Ws w_Wt x_xa x_xb x_xc hp =>
  (Xjc W c_Pl c_Sh c_Ti c_St c_Ce c_Hd c_Rt w_Wm w_Wd w_Ws w_Wt x_xa x_xb x_xc (fun o => o = res [[.l c_Pl.xs, .l c_Sh.xs, .l c_Ti.xs, .l c_St.xs, .i c_Ce, .l c_Hd.xs, .l c_Rt.xs], [.i w_Wm, .i w_Wd, .i w_Ws, .i w_Wt], [.i x_xa, .i x_xb, .i x_xc]])).mpr (hyp_ W c_Pl c_Sh c_Ti c_St c_Ce c_Hd c_Rt w_Wm w_Wd w_Ws w_Wt x_xa x_xb x_xc hp _ rfl)
theorem Xgd : PureOk Try.prog 11 X4 [(false, [.bool])] (WfD X4) fun _ => [[.b true]] :=
 Xjm fun W pl sh ti st ce hd rt wm wd ws wt xa xb xc hp Q h => by
  obtain ⟨d, ds, e1, hp1, hp2⟩ := hp;cases e1;have hn := Xgg hp1;have hx := (WfD.head (WfD.head hp2).2).1;have x1 := Xo4 (WfL.head hx).1;have x2 := Xo4 (WfL.head (WfL.head hx).2).1;have x3 := Xo4 (WfL.head (WfL.head (WfL.head hx).2).2).1;clear hx;unfold Xbx;delta Zdy Zeb Zdt Zea Zec Zdz Zbd Zg Zed;refine Xd hn (vifn (fun e => vifn (fun _ => vifd (fun _ => Xd trivial h) (fun g => absurd (by rw [Sp.pk_no e]; rfl) g)) (fun g => absurd g e)) (fun e => ?_));have hce : Sp.cE pl.xs sh.xs ti.xs st.xs ce hd.xs rt.xs = 0 := by
   by_cases hc : Sp.cE pl.xs sh.xs ti.xs st.xs ce hd.xs rt.xs = 0
   ·exact hc
   ·rw [(Xot hc).1] at e; exact e
  have hw : Sp.wsE sh.xs ti.xs wm wd ws wt = 0 := by
   by_cases hc : Sp.wsE sh.xs ti.xs wm wd ws wt = 0
   ·exact hc
   ·rw [(Xkh hce hc).1] at e; exact e
  have hC := Sp.cchk_ok hce;have hW := Xjp hw;have hr := hC.rl;have hm0 := hW.wm0;have hm1 : wm <= 10 := by
   unfold Sp.wsE at hw
   split at hw
   ·rename_i g;rw [Bool.and_eq_true, Sp.inr_iff] at g;omega
   ·cases hw
  have hrt : 1 <= rt.xs.length := by
   rcases Xr5 (hd := hd.xs) hce hw with ⟨g1, _⟩ | ⟨_, g2, g3, _⟩
   ·rw [e] at g1; exact absurd g1 (by decide)
   ·have := Xrx g3;have : 1 <= (Sp.pkL pl.xs sh.xs ti.xs st.xs ce hd.xs rt.xs wm wd ws wt).length := List.length_pos_iff.2 g2;omega
  have ht : 0 <= xc.tmod rt.xs.length /\ xc.tmod rt.xs.length < rt.xs.length := by
   rw [Int.tmod_eq_emod_of_nonneg x3.1];exact ⟨Int.emod_nonneg _ (by omega), Int.emod_lt_of_pos _ (by omega)⟩
  obtain ⟨p1, p2, _⟩ := Sp.pk_in (hd := hd.xs) hce hw;obtain ⟨wd1, wd2⟩ := Sp.wid_ok (x := xa) (y := xb) hC.hdO x1.1 x2.1;have hcw := Sp.cE_wide hce wd1 wd2;obtain ⟨q1, q2, _⟩ := Sp.pk_in (hd := Sp.wid hd.xs xa xb hd.xs.length) hcw hw;obtain ⟨k1, k2⟩ := wd1.pick hC.hdO wd2 (p := Sp.shP pl.xs sh.xs ti.xs st.xs ce rt.xs ws wt) (rt := rt.xs) (dm := wd) (many := wm) hm0 (p2.1 e);have eq := q2.2 k1;have hh := wd1.ha hC.hdO rt.xs (xc.tmod rt.xs.length).toNat;have hap := wd1.ap hC.hdO wd2 rt.xs (xc.tmod rt.xs.length).toNat (Int.toNat 0);have f1 := Sp.haE_in hce ht.1 ht.2;have f2 := Sp.haE_in hcw ht.1 ht.2;have f3 := Sp.pairE_in (b := 0) hce ht.1 ht.2 (Int.le_refl _) (by omega);have f4 := Sp.pairE_in (b := 0) hcw ht.1 ht.2 (Int.le_refl _) (by omega);have v1 : Sp.hvLo pl.xs sh.xs ti.xs st.xs ce hd.xs rt.xs (xc.tmod rt.xs.length) = Sp.haLo hd.xs rt.xs (xc.tmod rt.xs.length).toNat := if_pos f1;have v2 : Sp.hvHi pl.xs sh.xs ti.xs st.xs ce hd.xs rt.xs (xc.tmod rt.xs.length) = Sp.haHi hd.xs rt.xs (xc.tmod rt.xs.length).toNat := if_pos f1;have v3 : Sp.hvLo pl.xs sh.xs ti.xs st.xs ce (Sp.wid hd.xs xa xb hd.xs.length) rt.xs (xc.tmod rt.xs.length) = Sp.haLo (Sp.wid hd.xs xa xb hd.xs.length) rt.xs (xc.tmod rt.xs.length).toNat := if_pos f2;have v4 : Sp.hvHi pl.xs sh.xs ti.xs st.xs ce (Sp.wid hd.xs xa xb hd.xs.length) rt.xs (xc.tmod rt.xs.length) = Sp.haHi (Sp.wid hd.xs xa xb hd.xs.length) rt.xs (xc.tmod rt.xs.length).toNat := if_pos f2;have u1 : Sp.paLo pl.xs sh.xs ti.xs st.xs ce hd.xs rt.xs (xc.tmod rt.xs.length) 0 = Sp.apLo hd.xs rt.xs (xc.tmod rt.xs.length).toNat (Int.toNat 0) := if_pos f3;have u2 : Sp.paHi pl.xs sh.xs ti.xs st.xs ce hd.xs rt.xs (xc.tmod rt.xs.length) 0 = Sp.apHi hd.xs rt.xs (xc.tmod rt.xs.length).toNat (Int.toNat 0) := if_pos f3;have u3 : Sp.paLo pl.xs sh.xs ti.xs st.xs ce (Sp.wid hd.xs xa xb hd.xs.length) rt.xs (xc.tmod rt.xs.length) 0 = Sp.apLo (Sp.wid hd.xs xa xb hd.xs.length) rt.xs (xc.tmod rt.xs.length).toNat (Int.toNat 0) := if_pos f4;have u4 : Sp.paHi pl.xs sh.xs ti.xs st.xs ce (Sp.wid hd.xs xa xb hd.xs.length) rt.xs (xc.tmod rt.xs.length) 0 = Sp.apHi (Sp.wid hd.xs xa xb hd.xs.length) rt.xs (xc.tmod rt.xs.length).toNat (Int.toNat 0) := if_pos f4;have hrl : (xc.tmod rt.xs.length).toNat < rt.xs.length := by omega
  have hcc := Sp.cE_cut (hd := hd.xs) hce hrl;obtain ⟨c1, c2, c3⟩ := Sp.pk_in (hd := hd.xs) hcc hw;have ecut : List.drop 0 (List.take (xc.tmod rt.xs.length).toNat rt.xs) ++ List.drop (xc.tmod rt.xs.length + 1).toNat (List.take rt.xs.length rt.xs) = Sp.cut rt.xs (xc.tmod rt.xs.length).toNat := by
   unfold Sp.cut;rw [List.drop_zero, List.take_length, show (xc.tmod rt.xs.length + 1).toNat = (xc.tmod rt.xs.length).toNat + 1 by omega]
  have tail : Vif (decide (1 < wm)) (Ar .i64 (wm - 1) fun z => Pre (Sp.NamesOk pl.xs /\ Sp.NamesOk sh.xs /\ Sp.NamesOk ti.xs) (Vif (decide (Sp.pkE pl.xs sh.xs ti.xs st.xs ce hd.xs rt.xs z wd ws wt = 0)) (Vif (decide (Sp.pkB pl.xs sh.xs ti.xs st.xs ce hd.xs rt.xs z wd ws wt <= Sp.pkB pl.xs sh.xs ti.xs st.xs ce hd.xs rt.xs wm wd ws wt)) (Pre True (Q [[.b true]])) (Q [[.b false]])) (Q [[.b false]]))) (Vif (decide (Sp.pkB pl.xs sh.xs ti.xs st.xs ce hd.xs rt.xs wm wd ws wt = 0)) (Pre True (Q [[.b true]])) (Q [[.b false]])) := by
   refine vifd (fun hm => ?_) (fun hm => ?_)
   ·have hw2 := Xo3 hw (m := wm - 1) (by omega) (by omega);obtain ⟨m1, m2, _⟩ := Sp.pk_in (hd := hd.xs) hce hw2;obtain ⟨n1, n2⟩ := Sp.pick_fewer (by omega) (p2.1 e);exact ar64 (by omega) (Xd hn (vifd (fun _ => vifd (fun _ => Xd trivial h) (fun g => absurd (by rw [m1, p1]; exact n2) g)) (fun g => absurd (m2.2 n1) g)))
   ·have hm : wm = 1 := by omega
    refine vifd (fun _ => Xd trivial h) (fun g => absurd ?_ g);rw [p1, hm];exact Sp.pick_one
  refine Xd hn (vifn (fun g => absurd hce g) (fun _ => vifd (fun g => absurd g (by omega)) (fun _ => Xd ⟨⟨by have := hC.hl; have := hC.tw.stL; omega, hC.hdO, x1, x2⟩, by omega, by omega, rfl⟩ (Xd hn ?_))));refine vifn (fun g => absurd eq g) (fun _ => vifd (fun g => absurd g (by rw [q1, p1]; omega)) (fun _ => ar64 (by omega) (ned (by rw [decide_eq_false (by omega)]; rfl) (Xd hn (Xd hn (Xd hn (Xd hn ?_)))))));rw [v1, v2, v3, v4, u1, u2, u3, u4];refine vifn (fun g => absurd f1 g) (fun _ => vifn (fun g => absurd f2 g) (fun _ => vifn (fun g => absurd f3 g) (fun _ => vifn (fun g => absurd f4 g) (fun _ => ?_))));refine vifd (fun g => absurd g (by omega)) (fun _ => vifd (fun g => absurd g (by omega)) (fun _ => vifd (fun g => absurd g (by omega)) (fun _ => vifd (fun g => absurd g (by omega)) (fun _ => ?_))));refine nedd (by omega) (ned (by simp; omega) (nedd (by simp; omega) (ar64 (by omega) (nedd (by omega) (ned (by simp; omega) (nedd (by simp; omega) ?_))))));rw [ecut];refine Xd hn (vifn (fun g => vifn (fun g2 => absurd (c3 g) g2) (fun _ => vifd (fun g2 => absurd g2 g) (fun _ => tail))) (fun g => vifd (fun _ => vifd (fun g2 => absurd g2 ?_) (fun _ => tail)) (fun g2 => absurd g g2)));have hl := Sp.pick_less hrl (Sp.sh_cut hrl) hm0 (c2.1 g);rw [c1, p1];omega
end Go.Proofs.Ytmogofidmchdoaa
namespace Go.Proofs.Ytmogofidmchdoaa.courseLess
open Go.ChangeShapes Go.WideShapes Go.ChangeAt Go.RowKit
set_option maxRecDepth 100000
theorem own : ownKnob Try.prog.godebug = none := by kernel_rfl
theorem laid : laidOutB Try.prog = true := by kernel_rfl
theorem lifted (os : Os) (started : os.Started) (H : Type) (enc : TypeId × Value -> H) :
  ReturnsInHanded {} Try.checked os 11 .any (Rows.courseLessSpec.pre6 enc Try.prog Try.f11 Rows.courseLessRow.domain false) (Rows.courseLessSpec.post enc Try.prog Try.f11 false true false false) := by
 refine returnsInHanded_of_change (C := Try.checked) own started (by kernel_rfl) Try.func11
  (ChangeSpec.witness6 (enc := enc) (C := Try.checked) false ⟨#[], #[(.agg #[.slice none 0 0, .slice none 0 0, .slice none 0 0, .slice none 0 0, .int .i64 0, .slice none 0 0, .slice none 0 0]), (.agg #[.int .i64 0, .int .i64 0, .int .i64 0, .int .i64 0]), (.agg #[.int .u8 0, .int .u8 0, .int .u8 0])], []⟩ 8 (by kernel_rfl) (by kernel_rfl) (by kernel_rfl) (by kernel_rfl)) ?_
 intro W base args ds gs before hval hW _ _;exact law_end (f := Try.f11) (s := Rows.courseLessSpec) (by kernel_rfl) Try.underlying4 (by kernel_rfl) rfl laid (by kernel_rfl)
  (fun ds h => by match ds, (show ds.length = 3 from h) with | [_, _, _], _ => exact ⟨rfl, rfl, rfl⟩) Xgd hval hW
theorem over : Rows.courseLessRow.holds Try.pinned (OpenSpec.ofChange Rows.courseLessSpec) :=
 OpenClaim.holds_of_wide 11 Try.f11 rfl rfl rfl rfl rfl rfl rfl ⟨rfl, rfl, rfl, rfl, rfl⟩ rfl rfl rfl rfl rfl (by kernel_rfl) Try.func11 (by kernel_rfl)
  (of_decide_eq_true (by kernel_rfl)) (by unfold Func.isWrapper; first | (rw [if_pos (by decide +kernel)]; kernel_rfl) | (rw [if_neg (by decide +kernel)]; exact ⟨rfl, rfl⟩))
  (fun os started H enc _ => lifted os started H enc)
theorem proved : Rows.CourseLessSaid := over
end Go.Proofs.Ytmogofidmchdoaa.courseLess
