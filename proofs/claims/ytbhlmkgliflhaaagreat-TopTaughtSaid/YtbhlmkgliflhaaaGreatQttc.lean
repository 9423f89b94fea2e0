/-
  'TopTaught': for every input the law returns true, and what is handed in reads as before. No condition.
-/
import Derived.Test.YtbhlmkgliflhaaaGreatQttb
set_option linter.unusedVariables false
set_option linter.unusedSectionVars false
set_option linter.unusedSimpArgs false
namespace Go.Proofs.YtbhlmkgliflhaaaGreat
open Go.RowKit
set_option maxRecDepth 100000
set_option maxHeartbeats 3200000
noncomputable def TT0 : Tab Tryz.prog := ⟨[], [], []⟩
def Xi4 [InW] (e : List Ed) (K : Nat -> List Ed -> Prop) : Prop := match e with
 | [.i i, .ro _ sk, .ro _ is, .l st] => Pre (sk.xs.length <= 5 /\ 0 <= i /\ i <= sk.xs.length /\ st = Tt.start i.toNat) (K 0 [.ro _ sk, .ro _ is, .l (Tt.start sk.xs.length)])
 | _ => False
noncomputable def Xke : LC where
 len := 261
 T := [(3, (.ptr 1 0)), (16, (.row 6)), (17, .int .i64)]
 H := [(1, .blk 25 [.rs Ja, .rs Jb]), (6, .arr 29 Jc)]
 W := (rgg 71 11)
 outs := [⟨.exit 0, [(3, (.ptr 1 0)), (16, (.row 9))], [(1, .blk 25 [.rs Ja, .rs Jb]), (9, .arr 29 Jc)], ([17] ++ rgg 71 11)⟩]
 spec := Xi4
def Xh7 [W : InW] (i : Int) (sk : Ro Ja) (is : Ro Jb) (st : Dt) (A : List Ed -> Prop) (K : Nat -> List Ed -> Prop) : Prop :=
 Vif (decide (i < (↑(sk.xs.length) : Int))) (Need (decide ((st.length + [[Cl.i 300, Cl.i 600]].length) * 16 <= 140737488355328)) (Ar .i64 (i + 1) fun z => A [.i z, .ro _ sk, .ro _ is, .l (st ++ [[Cl.i 300, Cl.i 600]])])) (K 0 [.ro _ sk, .ro _ is, .l st])
theorem Xrx (W : InW) (i sk is st A K) : Ye9 { cxT Tryz.prog TT TT0 1000 50 with fn := 3 } 1000 (Ynh Tryz.prog 3 9) (Ydy 261 [(3, .ptr 1 0), (16, .rw 6), (17, .si .i64 i)] (rgg 71 11)) [(1, .blk 25 [.rs _ sk, .rs _ is]), (6, .arr 29 Jc st)] (Yth Xke A K) = Xh7 i sk is st A K := by kernel_rfl
def Xju : Prop := ∀ (W : InW) (body a : Code), (Tryz.prog.funcs[3]?).bind (·.body) = some body -> a ∈ Yw body -> Yfu a = 9 -> @Yma W Tryz.prog a (@Ysp W Xke)
theorem Xs2 (meas : [InW] -> List Ed -> Nat) (hyp_ : ∀ (W : InW) i sk is st K, Xi4 [.i i, .ro _ sk, .ro _ is, .l st] K -> ∀ A : List Ed -> Prop, (∀ e, meas e < meas [.i i, .ro _ sk, .ro _ is, .l st] -> Xi4 e K -> A e) -> Xh7 i sk is st A K) : Xju :=
 LE.okOf' (fun W => @TT W) (fun W => @Xb W) Xa TT0 1000 50 (by kernel_rfl) Xke (fun W => @meas W) fun W i sk is st K hs =>
  (Xrx W i sk is st (fun e => meas e < meas [.i i, .ro _ sk, .ro _ is, .l st] /\ Xi4 e K) K).mpr (hyp_ W i sk is st K hs _ fun e h1 h2 => ⟨h1, h2⟩)
theorem Xvt : Xju := Xs2 (fun e => match e with | .i i :: .ro _ sk :: _ => ((sk.xs.length : Int) - i).toNat | _ => 0) fun W i sk is st K hs A hA => by
 obtain ⟨⟨h5, h0, h1, rfl⟩, hk⟩ := hs;unfold Xh7;have hl := Tt.start_len i.toNat;refine vifd (fun e => nedd (by simp; omega) (ar64 (by omega) (hA _ (by show ((sk.xs.length : Int) - (i + 1)).toNat < ((sk.xs.length : Int) - i).toNat; omega) ⟨⟨h5, by omega, by omega, ?_⟩, hk⟩))) fun e => ?_
 ·rw [show (i + 1).toNat = i.toNat + 1 by omega];unfold Tt.start;rw [List.replicate_succ']
 ·rw [show i.toNat = sk.xs.length by omega];exact hk
noncomputable def Xwh : LE Tryz.prog := ⟨3, 9, fun W => @Ysp W Xke, Xvt⟩
namespace Tt
structure LsOk (ls : Dt) : Prop where
 l60 : ls.length <= 60
 each : ∀ j, j < ls.length -> (0 <= (cel ls j 2).int /\ (cel ls j 2).int <= 4800) /\ 0 <= (cel ls j 1).int /\ (cel ls j 1).int <= 100
structure Le3 (st a b c : Dt) : Prop where
 n : st.length <= 5
 la : a.length = st.length
 lb : b.length = st.length
 lc : c.length = st.length
 le : ∀ s, s < st.length -> (Sq.rLo a s <= Sq.rLo b s /\ Sq.rHi a s <= Sq.rHi b s) /\ Sq.rLo b s <= Sq.rLo c s /\ Sq.rHi b s <= Sq.rHi c s
end Tt
def Xjf [InW] (e : List Ed) (K : Nat -> List Ed -> Prop) : Prop := match e with
 | [.i who, .i wk, .i i, .ro _ sk, .ro _ is, .l ls, .l al, .l dr] => Pre ((1 <= sk.xs.length /\ sk.xs.length <= 5) /\ Tt.LsOk ls /\ (0 <= wk /\ wk <= 28) /\ (0 <= i /\ i <= ls.length) /\ (al.length : Int) <= 60 * wk + i /\ (dr.length : Int) <= 60 * wk + i)
   (K 0 [.i who, .i wk, .ro _ sk, .ro _ is, .l ls, .l (al ++ Tt.selA ls who sk.xs.length wk i.toNat (ls.length - i.toNat)), .l (dr ++ Tt.selD ls who sk.xs.length wk i.toNat (ls.length - i.toNat))])
 | _ => False
noncomputable def Xko : LC where
 len := 261
 T := [(3, (.ptr 1 0)), (8, (.ptr 4 0)), (18, .int .i64), (19, (.row 6)), (20, (.row 9)), (21, .int .i64), (22, .int .i64)]
 H := [(1, .blk 25 [.rs Ja, .rs Jb]), (4, .blk 40 [(.row 16), (.opq 1021), (.opq 1024), (.opq 1027)]), (16, .arr 51 Iv5), (6, .arr 53 Iv5), (9, .arr 53 Iv5)]
 W := ([23, 24] ++ rgg 93 57)
 outs := [⟨.exit 4, [(3, (.ptr 1 0)), (8, (.ptr 4 0)), (18, .int .i64), (19, (.row 12)), (20, (.row 18)), (21, .int .i64)], [(1, .blk 25 [.rs Ja, .rs Jb]), (4, .blk 40 [(.row 16), (.opq 1021), (.opq 1024), (.opq 1027)]), (16, .arr 51 Iv5), (12, .arr 53 Iv5), (18, .arr 53 Iv5)], ([22, 23, 24] ++ rgg 93 57)⟩]
 spec := Xjf
def Zcg [W : InW] (wk i : Int) (sk : Ro Ja) (ls : Dt) := [[Cl.i wk, Cl.i 0, Cl.i ((cel ls i.toNat (0+1)).int.tmod (↑(sk.xs.length) : Int)), Cl.i 0, Cl.i 0]]
def Xih [W : InW] (who wk i : Int) (sk : Ro Ja) (is : Ro Jb) (ls al dr : Dt) (A : List Ed -> Prop) (K : Nat -> List Ed -> Prop) : Prop :=
 Vif (decide (i < (↑(ls.length) : Int))) (Need (decide (0 <= i) && decide (i < (↑(ls.length) : Int))) (Need (decide (i.toNat < ls.length)) (Vif (!decide ((cel ls i.toNat Zh).int = who)) (Ar .i64 (i + 1) fun z => A [.i who, .i wk, .i z, .ro _ sk, .ro _ is, .l ls, .l al, .l dr]) (Vif (decide ((cel ls i.toNat (Zh + 1 + 1)).int < 0)) (Ar .i64 (i + 1) fun z => A [.i who, .i wk, .i z, .ro _ sk, .ro _ is, .l ls, .l al, .l dr]) (Ar .i64 ((cel ls i.toNat (Zh + 1 + 1)).int.tdiv (168 : Int)) fun z => Vif (!decide (z = wk)) (Ar .i64 (i + 1) fun z => A [.i who, .i wk, .i z, .ro _ sk, .ro _ is, .l ls, .l al, .l dr]) (Vif (decide ((cel ls i.toNat (0+1)).int < 0)) (Ar .i64 (i + 1) fun z => A [.i who, .i wk, .i z, .ro _ sk, .ro _ is, .l ls, .l al, .l dr]) (Need (!decide ((↑(sk.xs.length) : Int) = 0)) (Need (decide ((al.length + (Zcg wk i sk ls).length) * 40 <= 140737488355328)) (Vif (decide ((cel ls i.toNat (Zh + 1 + 1 + 1 + 1)).int = 2)) (Need (decide ((dr.length + (Zcg wk i sk ls).length) * 40 <= 140737488355328)) (Ar .i64 (i + 1) fun z => A [.i who, .i wk, .i z, .ro _ sk, .ro _ is, .l ls, .l (al ++ (Zcg wk i sk ls)), .l (dr ++ (Zcg wk i sk ls))])) (Vif (decide ((cel ls i.toNat (Zh + 1 + 1 + 1 + 1)).int = 3)) (Need (decide ((dr.length + (Zcg wk i sk ls).length) * 40 <= 140737488355328)) (Ar .i64 (i + 1) fun z => A [.i who, .i wk, .i z, .ro _ sk, .ro _ is, .l ls, .l (al ++ (Zcg wk i sk ls)), .l (dr ++ (Zcg wk i sk ls))])) (Ar .i64 (i + 1) fun z => A [.i who, .i wk, .i z, .ro _ sk, .ro _ is, .l ls, .l (al ++ (Zcg wk i sk ls)), .l dr]))))))))))) (K 0 [.i who, .i wk, .ro _ sk, .ro _ is, .l ls, .l al, .l dr])
theorem Xr7 (W : InW) (who wk i sk is ls al dr A K) : Ye9 { cxT Tryz.prog TT TT0 1000 50 with fn := 3 } 1000 (Ynh Tryz.prog 3 18) (Ydy 261 [(3, .ptr 1 0), (8, .ptr 4 0), (18, .si .i64 who), (19, .rw 6), (20, .rw 9), (21, .si .i64 wk), (22, .si .i64 i)] ([23, 24] ++ rgg 93 57)) [(1, .blk 25 [.rs _ sk, .rs _ is]), (4, .blk 40 [.rw 16, .opq 1021, .opq 1024, .opq 1027]), (16, .arr 51 Iv5 ls), (6, .arr 53 Iv5 al), (9, .arr 53 Iv5 dr)] (Yth Xko A K) = Xih who wk i sk is ls al dr A K := by kernel_rfl
def Xj4 : Prop := ∀ (W : InW) (body a : Code), (Tryz.prog.funcs[3]?).bind (·.body) = some body -> a ∈ Yw body -> Yfu a = 18 -> @Yma W Tryz.prog a (@Ysp W Xko)
theorem Xtc (meas : [InW] -> List Ed -> Nat) (hyp_ : ∀ (W : InW) who wk i sk is ls al dr K, Xjf [.i who, .i wk, .i i, .ro _ sk, .ro _ is, .l ls, .l al, .l dr] K -> ∀ A : List Ed -> Prop, (∀ e, meas e < meas [.i who, .i wk, .i i, .ro _ sk, .ro _ is, .l ls, .l al, .l dr] -> Xjf e K -> A e) -> Xih who wk i sk is ls al dr A K) : Xj4 :=
 LE.okOf' (fun W => @TT W) (fun W => @Xb W) Xa TT0 1000 50 (by kernel_rfl) Xko (fun W => @meas W) fun W who wk i sk is ls al dr K hs =>
  (Xr7 W who wk i sk is ls al dr (fun e => meas e < meas [.i who, .i wk, .i i, .ro _ sk, .ro _ is, .l ls, .l al, .l dr] /\ Xjf e K) K).mpr (hyp_ W who wk i sk is ls al dr K hs _ fun e h1 h2 => ⟨h1, h2⟩)
theorem Xv3 : Xj4 := Xtc (fun e => match e with | _ :: _ :: .i i :: _ :: _ :: .l ls :: _ => ((ls.length : Int) - i).toNat | _ => 0) fun W who wk i sk is ls al dr K hs A hA => by
 obtain ⟨⟨h1, hL, h2, h3, h4, h5⟩, hk⟩ := hs;unfold Xih;delta Zcg Zh;simp only [Nat.zero_add, Nat.reduceAdd];refine vifd (fun e => ?_) (fun e => ?_)
 ·have hLs := hL.each i.toNat (by omega);have l60 := hL.l60;have en : ls.length - i.toNat = (ls.length - (i + 1).toNat) + 1 := by omega
  have e1 : (i + 1).toNat = i.toNat + 1 := by omega
  have go : ∀ al' dr' : Dt, al' ++ Tt.selA ls who sk.xs.length wk (i + 1).toNat (ls.length - (i + 1).toNat) = al ++ Tt.selA ls who sk.xs.length wk i.toNat (ls.length - i.toNat) -> dr' ++ Tt.selD ls who sk.xs.length wk (i + 1).toNat (ls.length - (i + 1).toNat) = dr ++ Tt.selD ls who sk.xs.length wk i.toNat (ls.length - i.toNat) -> (al'.length : Int) <= 60 * wk + (i + 1) -> (dr'.length : Int) <= 60 * wk + (i + 1) -> Ar .i64 (i + 1) fun z => A [.i who, .i wk, .i z, .ro _ sk, .ro _ is, .l ls, .l al', .l dr'] :=
   fun al' dr' h6 h7 h8 h9 => ar64 (by omega) (hA _ (by show ((ls.length : Int) - (i + 1)).toNat < ((ls.length : Int) - i).toNat; omega) ⟨⟨h1, hL, h2, by omega, h8, h9⟩, by rw [h6, h7]; exact hk⟩)
  clear hA hk;have skip : ¬ Tt.tk ls who wk i.toNat = true -> Ar .i64 (i + 1) fun z => A [.i who, .i wk, .i z, .ro _ sk, .ro _ is, .l ls, .l al, .l dr] := fun hn => by
   refine go al dr ?_ ?_ (by omega) (by omega)
   ·rw [en, e1]; simp only [Tt.selA]; rw [if_neg hn, List.nil_append]
   ·rw [en, e1]; simp only [Tt.selD]; rw [if_neg (fun h => hn (by rw [Bool.and_eq_true] at h; exact h.1)), List.nil_append]
  have hd : 0 <= (cel ls i.toNat 2).int.tdiv 168 /\ (cel ls i.toNat 2).int.tdiv 168 <= 4800 := by rw [Int.tdiv_eq_ediv_of_nonneg hLs.1.1]; omega
  refine ned (by simp; omega) (nedd (by omega) (vifn (fun c1 => skip (by simp [Tt.tk, c1])) (fun c1 => vifd (fun c2 => absurd c2 (by omega)) (fun c2 => ar64 (by omega) (vifn (fun c3 => skip (by simp [Tt.tk, c3])) (fun c3 => vifd (fun c4 => absurd c4 (by omega)) (fun c4 => ?_)))))));have ht : Tt.tk ls who wk i.toNat = true := by simp [Tt.tk, c1, c3]; omega
  have ga : (al ++ [[Cl.i wk, Cl.i 0, Cl.i ((cel ls i.toNat 1).int.tmod (sk.xs.length : Int)), Cl.i 0, Cl.i 0]]) ++ Tt.selA ls who sk.xs.length wk (i + 1).toNat (ls.length - (i + 1).toNat) = al ++ Tt.selA ls who sk.xs.length wk i.toNat (ls.length - i.toNat) := by
   rw [en, e1]; simp only [Tt.selA]; rw [if_pos ht, List.append_assoc]; rfl
  have gd : Tt.drvn ls i.toNat = true -> (dr ++ [[Cl.i wk, Cl.i 0, Cl.i ((cel ls i.toNat 1).int.tmod (sk.xs.length : Int)), Cl.i 0, Cl.i 0]]) ++ Tt.selD ls who sk.xs.length wk (i + 1).toNat (ls.length - (i + 1).toNat) = dr ++ Tt.selD ls who sk.xs.length wk i.toNat (ls.length - i.toNat) := fun hd => by
   rw [en, e1]; simp only [Tt.selD]; rw [if_pos (by rw [ht, hd]; rfl), List.append_assoc]; rfl
  refine ned (by rw [decide_eq_false (by omega)]; rfl) (nedd (by simp; omega) (vifd (fun c5 => nedd (by simp; omega) (go _ _ ga (gd (by simp [Tt.drvn, c5])) (by rw [List.length_append, List.length_singleton]; omega) (by rw [List.length_append, List.length_singleton]; omega))) (fun c5 => vifd (fun c6 => nedd (by simp; omega) (go _ _ ga (gd (by simp [Tt.drvn, c6])) (by rw [List.length_append, List.length_singleton]; omega) (by rw [List.length_append, List.length_singleton]; omega))) (fun c6 => go _ _ ga ?_ (by rw [List.length_append, List.length_singleton]; omega) (by omega)))));rw [en, e1]; simp only [Tt.selD]; rw [if_neg (by simp [Tt.drvn, c5, c6]), List.nil_append]
 ·rw [show ls.length - i.toNat = 0 by omega] at hk;simp only [Tt.selA, Tt.selD, List.append_nil] at hk;exact hk
noncomputable def Xwp : LE Tryz.prog := ⟨3, 18, fun W => @Ysp W Xko, Xv3⟩
noncomputable def TT2 : Tab Tryz.prog := ⟨[], [Xwp], []⟩
def Xi3 [InW] (e : List Ed) (K : Nat -> List Ed -> Prop) : Prop := match e with
 | [.i who, .i wk, .ro _ sk, .ro _ is, .l ls, .l al, .l dr] => Pre ((1 <= sk.xs.length /\ sk.xs.length <= 5) /\ Tt.LsOk ls /\ (0 <= wk /\ wk <= 29) /\ (al.length : Int) <= 60 * wk /\ (dr.length : Int) <= 60 * wk)
   (K 0 [.i who, .ro _ sk, .ro _ is, .l ls, .l (al ++ Tt.wkA ls who sk.xs.length wk.toNat (29 - wk.toNat)), .l (dr ++ Tt.wkD ls who sk.xs.length wk.toNat (29 - wk.toNat))])
 | _ => False
noncomputable def Xkd : LC where
 len := 261
 T := [(3, (.ptr 1 0)), (8, (.ptr 4 0)), (18, .int .i64), (19, (.row 6)), (20, (.row 9)), (21, .int .i64)]
 H := [(1, .blk 25 [.rs Ja, .rs Jb]), (4, .blk 40 [(.row 16), (.opq 1021), (.opq 1024), (.opq 1027)]), (16, .arr 51 Iv5), (6, .arr 53 Iv5), (9, .arr 53 Iv5)]
 W := ([22, 23, 24] ++ rgg 89 61)
 outs := [⟨.exit 2, [(3, (.ptr 1 0)), (8, (.ptr 4 0)), (18, .int .i64), (19, (.row 12)), (20, (.row 18))], [(1, .blk 25 [.rs Ja, .rs Jb]), (4, .blk 40 [(.row 16), (.opq 1021), (.opq 1024), (.opq 1027)]), (16, .arr 51 Iv5), (12, .arr 53 Iv5), (18, .arr 53 Iv5)], (rgg 21 4 ++ rgg 89 61)⟩]
 spec := Xi3
def Xh6 [W : InW] (who wk : Int) (sk : Ro Ja) (is : Ro Jb) (ls al dr : Dt) (A : List Ed -> Prop) (K : Nat -> List Ed -> Prop) : Prop :=
 Vif (decide (wk <= 28)) (Pre (((1 : Nat) <= sk.xs.length /\ sk.xs.length <= 5) /\ Tt.LsOk ls /\ (0 <= wk /\ wk <= 28) /\ (Ze <= 0 /\ Ze <= (↑(ls.length) : Int)) /\ (↑(al.length) : Int) <= 60 * wk + 0 /\ (↑(dr.length) : Int) <= 60 * wk + 0) (Ar .i64 (wk + 1) fun z => A [.i who, .i z, .ro _ sk, .ro _ is, .l ls, .l (al ++ Tt.selA ls who (↑(sk.xs.length) : Int) wk Zu (ls.length - Int.toNat Ze)), .l (dr ++ Tt.selD ls who (↑(sk.xs.length) : Int) wk Zu (ls.length - Int.toNat Ze))])) (K 0 [.i who, .ro _ sk, .ro _ is, .l ls, .l al, .l dr])
theorem Xrw (W : InW) (who wk sk is ls al dr A K) : Ye9 { cxT Tryz.prog TT TT2 1000 50 with fn := 3 } 1000 (Ynh Tryz.prog 3 15) (Ydy 261 [(3, .ptr 1 0), (8, .ptr 4 0), (18, .si .i64 who), (19, .rw 6), (20, .rw 9), (21, .si .i64 wk)] ([22, 23, 24] ++ rgg 89 61)) [(1, .blk 25 [.rs _ sk, .rs _ is]), (4, .blk 40 [.rw 16, .opq 1021, .opq 1024, .opq 1027]), (16, .arr 51 Iv5 ls), (6, .arr 53 Iv5 al), (9, .arr 53 Iv5 dr)] (Yth Xkd A K) = Xh6 who wk sk is ls al dr A K := by kernel_rfl
def Xjt : Prop := ∀ (W : InW) (body a : Code), (Tryz.prog.funcs[3]?).bind (·.body) = some body -> a ∈ Yw body -> Yfu a = 15 -> @Yma W Tryz.prog a (@Ysp W Xkd)
theorem Xs1 (meas : [InW] -> List Ed -> Nat) (hyp_ : ∀ (W : InW) who wk sk is ls al dr K, Xi3 [.i who, .i wk, .ro _ sk, .ro _ is, .l ls, .l al, .l dr] K -> ∀ A : List Ed -> Prop, (∀ e, meas e < meas [.i who, .i wk, .ro _ sk, .ro _ is, .l ls, .l al, .l dr] -> Xi3 e K -> A e) -> Xh6 who wk sk is ls al dr A K) : Xjt :=
 LE.okOf' (fun W => @TT W) (fun W => @Xb W) Xa TT2 1000 50 (by kernel_rfl) Xkd (fun W => @meas W) fun W who wk sk is ls al dr K hs =>
  (Xrw W who wk sk is ls al dr (fun e => meas e < meas [.i who, .i wk, .ro _ sk, .ro _ is, .l ls, .l al, .l dr] /\ Xi3 e K) K).mpr (hyp_ W who wk sk is ls al dr K hs _ fun e h1 h2 => ⟨h1, h2⟩)
theorem Xvs : Xjt := Xs1 (fun e => match e with | _ :: .i wk :: _ => (29 - wk).toNat | _ => 0) fun W who wk sk is ls al dr K hs A hA => by
 obtain ⟨⟨h1, hL, h2, h4, h5⟩, hk⟩ := hs;unfold Xh6;delta Zu Ze;have l60 := hL.l60;refine vifd (fun e => ?_) (fun e => ?_)
 ·have ea : Tt.wkA ls who sk.xs.length wk.toNat (29 - wk.toNat) = Tt.selA ls who sk.xs.length wk 0 ls.length ++ Tt.wkA ls who sk.xs.length (wk + 1).toNat (29 - (wk + 1).toNat) := by
   rw [show 29 - wk.toNat = 29 - (wk + 1).toNat + 1 by omega, show (wk + 1).toNat = wk.toNat + 1 by omega]; simp only [Tt.wkA]; rw [Int.toNat_of_nonneg h2.1]
  have ed : Tt.wkD ls who sk.xs.length wk.toNat (29 - wk.toNat) = Tt.selD ls who sk.xs.length wk 0 ls.length ++ Tt.wkD ls who sk.xs.length (wk + 1).toNat (29 - (wk + 1).toNat) := by
   rw [show 29 - wk.toNat = 29 - (wk + 1).toNat + 1 by omega, show (wk + 1).toNat = wk.toNat + 1 by omega]; simp only [Tt.wkD]; rw [Int.toNat_of_nonneg h2.1]
  have q1 := Tt.selA_len ls who sk.xs.length wk ls.length 0;have q2 := Tt.cntE_le ls wk (wk + 1) ls.length 0;have q3 := (Tt.sel_sub ls who sk.xs.length wk ls.length 0).length_le;rw [ea, ed, <- List.append_assoc, <- List.append_assoc] at hk;rw [show Int.toNat 0 = 0 from rfl, Nat.sub_zero];exact X2 ⟨h1, hL, by omega, by omega, by omega, by omega⟩ (ar64 (by omega) (hA _ (by show (29 - (wk + 1)).toNat < (29 - wk).toNat; omega) ⟨⟨h1, hL, by omega, by rw [List.length_append]; omega, by rw [List.length_append]; omega⟩, hk⟩))
 ·rw [show 29 - wk.toNat = 0 by omega] at hk;simp only [Tt.wkA, Tt.wkD, List.append_nil] at hk;exact hk
noncomputable def Xwg : LE Tryz.prog := ⟨3, 15, fun W => @Ysp W Xkd, Xvs⟩
def Xjh [InW] (e : List Ed) (K : Nat -> List Ed -> Prop) : Prop := match e with
 | [.i i, .l st, .l a, .l b, .l c] => Pre (Tt.Le3 st a b c /\ 0 <= i /\ i <= st.length) (K 0 [])
 | _ => False
noncomputable def Xkq : LC where
 len := 261
 T := [(16, (.row 1)), (25, (.row 4)), (26, (.row 7)), (27, (.row 10)), (28, .int .i64)]
 H := [(1, .arr 29 Jc), (4, .arr 29 Jc), (7, .arr 29 Jc), (10, .arr 29 Jc)]
 W := ([6] ++ rgg 201 56)
 outs := [⟨.exit 6, [], [], ([6, 16] ++ rgg 25 4 ++ rgg 201 56)⟩]
 spec := Xjh
def Zch [W : InW] (i : Int) (b : Dt) := decide (0 <= i) && decide (i < (↑(b.length) : Int))
def Zci := (472 : Nat) = 472 + 1
def Xij [W : InW] (i : Int) (st a b c : Dt) (A : List Ed -> Prop) (K : Nat -> List Ed -> Prop) : Prop :=
 Vif (decide (i < (↑(st.length) : Int))) (Need (decide (0 <= i) && decide (i < (↑(a.length) : Int))) (Need (decide (i.toNat < a.length)) (Need (Zch i b) (Need (decide (i.toNat < b.length)) (Vif (decide ((cel b i.toNat Zh).int < (cel a i.toNat Zh).int)) Zci (Need (decide (0 <= i) && decide (i < (↑(a.length) : Int))) (Need (decide (i.toNat < a.length)) (Need (Zch i b) (Need (decide (i.toNat < b.length)) (Vif (decide ((cel b i.toNat (0+1)).int < (cel a i.toNat (0+1)).int)) Zci (Need (Zch i b) (Need (decide (i.toNat < b.length)) (Need (decide (0 <= i) && decide (i < (↑(c.length) : Int))) (Need (decide (i.toNat < c.length)) (Vif (decide ((cel c i.toNat Zh).int < (cel b i.toNat Zh).int)) Zci (Need (Zch i b) (Need (decide (i.toNat < b.length)) (Need (decide (0 <= i) && decide (i < (↑(c.length) : Int))) (Need (decide (i.toNat < c.length)) (Vif (decide ((cel c i.toNat (0+1)).int < (cel b i.toNat (0+1)).int)) Zci (Ar .i64 (i + 1) fun z => A [.i z, .l st, .l a, .l b, .l c]))))))))))))))))))))) (K 0 [])
theorem Xr9 (W : InW) (i st a b c A K) : Ye9 { cxT Tryz.prog TT TT0 1000 50 with fn := 3 } 1000 (Ynh Tryz.prog 3 32) (Ydy 261 [(16, .rw 1), (25, .rw 4), (26, .rw 7), (27, .rw 10), (28, .si .i64 i)] ([6] ++ rgg 201 56)) [(1, .arr 29 Jc st), (4, .arr 29 Jc a), (7, .arr 29 Jc b), (10, .arr 29 Jc c)] (Yth Xkq A K) = Xij i st a b c A K := by kernel_rfl
def Xj6 : Prop := ∀ (W : InW) (body a : Code), (Tryz.prog.funcs[3]?).bind (·.body) = some body -> a ∈ Yw body -> Yfu a = 32 -> @Yma W Tryz.prog a (@Ysp W Xkq)
theorem Xte (meas : [InW] -> List Ed -> Nat) (hyp_ : ∀ (W : InW) i st a b c K, Xjh [.i i, .l st, .l a, .l b, .l c] K -> ∀ A : List Ed -> Prop, (∀ e, meas e < meas [.i i, .l st, .l a, .l b, .l c] -> Xjh e K -> A e) -> Xij i st a b c A K) : Xj6 :=
 LE.okOf' (fun W => @TT W) (fun W => @Xb W) Xa TT0 1000 50 (by kernel_rfl) Xkq (fun W => @meas W) fun W i st a b c K hs =>
  (Xr9 W i st a b c (fun e => meas e < meas [.i i, .l st, .l a, .l b, .l c] /\ Xjh e K) K).mpr (hyp_ W i st a b c K hs _ fun e h1 h2 => ⟨h1, h2⟩)
theorem Xv5 : Xj6 := Xte (fun e => match e with | .i i :: .l st :: _ => ((st.length : Int) - i).toNat | _ => 0) fun W i st a b c K hs A hA => by
 obtain ⟨⟨hL, h0, h1⟩, hk⟩ := hs;unfold Xij;delta Zci Zch Zh;simp only [Nat.zero_add, Nat.reduceAdd];have n5 := hL.n;have la := hL.la;have lb := hL.lb;have lc := hL.lc;refine vifd (fun e => ?_) (fun _ => hk);have h4 := hL.le i.toNat (by omega);unfold Sq.rLo Sq.rHi at h4;have go : Ar .i64 (i + 1) fun z => A [.i z, .l st, .l a, .l b, .l c] := ar64 (by omega) (hA _ (by show ((st.length : Int) - (i + 1)).toNat < ((st.length : Int) - i).toNat; omega) ⟨⟨hL, by omega, by omega⟩, hk⟩);clear hA hk hL
 repeat (first | exact go | (with_reducible refine vifd (fun c => absurd c ?_) (fun _ => ?_); omega) | (with_reducible refine nedd ?_ ?_; omega) | (with_reducible refine ned ?_ ?_; simp; omega))
noncomputable def Xwr : LE Tryz.prog := ⟨3, 32, fun W => @Ysp W Xkq, Xv5⟩
end Go.Proofs.YtbhlmkgliflhaaaGreat
