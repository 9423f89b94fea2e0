/-
  'SkillTurned': for every input the law returns true, and what is handed in reads as before. No condition.
-/
import Derived.Test.YtdokbocmgdhmmaaQf
import Derived.Test.YtdokbocmgdhmmaaRows
import Derived.WalkKit
import Derived.ProofKit
set_option linter.unusedVariables false
set_option linter.unusedSectionVars false
set_option linter.unusedSimpArgs false
namespace Go.Proofs.Ytdokbocmgdhmmaa
open Go.RowKit
set_option linter.unusedVariables false
set_option maxRecDepth 100000
set_option maxHeartbeats 1600000
namespace Sp
def atD (o : Dt) (b : Int) (i : Int) : Int := (b.tdiv (i + 1)).tmod (o.length + 1)
def putD (ts o : Dt) (b : Int) (i : Nat) : Dt := o.take (atD o b i).toNat ++ [[.i (tSk ts i), .i (tLv ts i)]] ++ o.drop (atD o b i).toNat
def nrm (ts : Dt) : Dt := (List.range ts.length).map fun i => [.i (tSk ts i), .i (tLv ts i)]
def insD (ts : Dt) (b : Int) : Nat → Dt
  | 0 => []
  | n + 1 => putD ts (insD ts b n) b n
end Sp
def sp_trd [InW] (e : List Ed) (K : Nat → List Ed → Prop) : Prop := match e with
  | [.i i, .ro _ ts, .i al, .ro _ lv, .i k, .i b, .i oal, .l o] => Pre (0 ≤ i ∧ i ≤ ts.xs.length ∧ ts.xs.length ≤ 6 ∧ 0 ≤ b ∧ b ≤ 65535 ∧ o = Sp.insD ts.xs b i.toNat) (K 0 [.ro _ ts, .i al, .ro _ lv, .i k, .i b, .i oal, .l (Sp.insD ts.xs b ts.xs.length)])
  | _ => False
noncomputable def TK16a : Tab Try.prog := ⟨[], [], []⟩
noncomputable def lc_trd : LC where
  len := 126
  T := [(4, (.ptr 1 0)), (5, (.ptr 4 0)), (9, (.ptr 7 0)), (10, .int .i64)]
  H := [(1, .blk 48 [.rs [.int .i64, .int .i64], .int .i64]), (4, .blk 98 [.rs [.int .i64], .int .u8, .int .u16]), (7, .blk 48 [(.row 6), .int .i64]), (6, .arr 100 [.int .i64, .int .i64])]
  W := [11, 31, 32, 33, 34, 35, 36, 37, 38, 39, 40, 41, 42, 43, 44, 45, 46, 47, 48, 49, 50, 51, 52, 53, 54, 55, 56, 57, 58, 59, 60, 61, 62, 63, 64, 65, 66, 67]
  outs := [⟨.exit 0, [(4, (.ptr 1 0)), (5, (.ptr 4 0)), (9, (.ptr 7 0))], [(1, .blk 48 [.rs [.int .i64, .int .i64], .int .i64]), (4, .blk 98 [.rs [.int .i64], .int .u8, .int .u16]), (7, .blk 48 [(.row 12), .int .i64]), (12, .arr 100 [.int .i64, .int .i64])], [10, 11, 31, 32, 33, 34, 35, 36, 37, 38, 39, 40, 41, 42, 43, 44, 45, 46, 47, 48, 49, 50, 51, 52, 53, 54, 55, 56, 57, 58, 59, 60, 61, 62, 63, 64, 65, 66, 67]⟩]
  spec := sp_trd
def VCL_trd [W : InW] (i : Int) (ts : Ro [.int .i64, .int .i64]) (al : Int) (lv : Ro [.int .i64]) (k bb oal : Int) (o : Dt) (A : List Ed → Prop) (K : Nat → List Ed → Prop) : Prop :=
  Vif (decide (i < (↑(ts.xs.length) : Int))) (Ar .i64 bb fun z => Ar .i64 (i + (1 : Int)) fun z_1 => Need (!decide (z_1 = (0 : Int))) (Ar .i64 (z.tdiv z_1) fun z => Ar .i64 ((↑(o.length) : Int) + (1 : Int)) fun z_2 => Need (!decide (z_2 = (0 : Int))) (Need (decide ((0 : Int) ≤ z.tmod z_2)) (Need (decide ((0 : Nat) ≤ (z.tmod z_2).toNat) && decide ((z.tmod z_2).toNat ≤ o.length)) (Need (decide ((0 : Nat) + ((z.tmod z_2).toNat - (0 : Nat)) ≤ o.length)) (Need (decide (((0 : Nat) + (List.take ((z.tmod z_2).toNat - (0 : Nat)) (List.drop (0 : Nat) o)).length) * (16 : Nat) ≤ (140737488355328 : Nat))) (Need (decide ((0 : Int) ≤ i) && decide (i < (↑(ts.xs.length) : Int))) (Need (decide (i.toNat < ts.xs.length)) (Need (decide (((List.take ((z.tmod z_2).toNat - (0 : Nat)) (List.drop (0 : Nat) o)).length + [[Cl.i (cel ts.xs i.toNat (0 : Nat)).int, Cl.i (cel ts.xs i.toNat (0+1 : Nat)).int]].length) * (16 : Nat) ≤ (140737488355328 : Nat))) (Need (decide ((0 : Int) ≤ z.tmod z_2)) (Need (decide ((z.tmod z_2).toNat ≤ o.length) && decide (o.length ≤ o.length)) (Need (decide ((z.tmod z_2).toNat + (o.length - (z.tmod z_2).toNat) ≤ o.length)) (Need (decide ((List.length (List.take ((z.tmod z_2).toNat - (0 : Nat)) (List.drop (0 : Nat) o) ++ [[Cl.i (cel ts.xs i.toNat (0 : Nat)).int, Cl.i (cel ts.xs i.toNat (0+1 : Nat)).int]]) + (List.take (o.length - (z.tmod z_2).toNat) (List.drop (z.tmod z_2).toNat o)).length) * (16 : Nat) ≤ (140737488355328 : Nat))) (Ar .i64 (i + (1 : Int)) fun z_3 => A [.i z_3, .ro _ ts, .i al, .ro _ lv, .i k, .i bb, .i oal, .l (List.take ((z.tmod z_2).toNat - (0 : Nat)) (List.drop (0 : Nat) o) ++ [[Cl.i (cel ts.xs i.toNat (0 : Nat)).int, Cl.i (cel ts.xs i.toNat (0+1 : Nat)).int]] ++ List.take (o.length - (z.tmod z_2).toNat) (List.drop (z.tmod z_2).toNat o))])))))))))))))) (K (0 : Nat) [.ro _ ts, .i al, .ro _ lv, .i k, .i bb, .i oal, .l o])
theorem vcl_trd (W : InW) (i ts al lv k bb oal o A K) : vcTop { cxT Try.prog TT TK16a 1000 50 with fn := 16 } 1000 (loopAt Try.prog 16 7) (tmOut 126 [(4, .ptr 1 0), (5, .ptr 4 0), (9, .ptr 7 0), (10, .si .i64 i)] [11, 31, 32, 33, 34, 35, 36, 37, 38, 39, 40, 41, 42, 43, 44, 45, 46, 47, 48, 49, 50, 51, 52, 53, 54, 55, 56, 57, 58, 59, 60, 61, 62, 63, 64, 65, 66, 67]) [(1, .blk 48 [.rs _ ts, .si .i64 al]), (4, .blk 98 [.rs _ lv, .si .u8 k, .si .u16 bb]), (7, .blk 48 [.rw 6, .si .i64 oal]), (6, .arr 100 [.int .i64, .int .i64] o)] (roundL lc_trd A K) = VCL_trd i ts al lv k bb oal o A K := by kernel_rfl
def okLt_trd : Prop := ∀ (W : InW) (body a : Code), (Try.prog.funcs[16]?).bind (·.body) = some body → a ∈ loopsIn body → keyOf a = 7 → @LoopOk W Try.prog a (@loopRun W lc_trd)
theorem okl_trd (meas : [InW] → List Ed → Nat) (hyp_ : ∀ (W : InW) (i : Int) (ts : Ro [.int .i64, .int .i64]) (al : Int) (lv : Ro [.int .i64]) (k : Int) (bb : Int) (oal : Int) (o : Dt) (K : Nat → List Ed → Prop), sp_trd [.i i, .ro _ ts, .i al, .ro _ lv, .i k, .i bb, .i oal, .l o] K → ∀ A : List Ed → Prop, (∀ e, meas e < meas [.i i, .ro _ ts, .i al, .ro _ lv, .i k, .i bb, .i oal, .l o] → sp_trd e K → A e) → VCL_trd i ts al lv k bb oal o A K) : okLt_trd :=
  LE.okOf' (fun W => @TT W) (fun W => @TT_ok W) mixed_ok TK16a 1000 50 (by kernel_rfl) lc_trd (fun W => @meas W) fun W i ts al lv k bb oal o K hs =>
    (vcl_trd W i ts al lv k bb oal o (fun e => meas e < meas [.i i, .ro _ ts, .i al, .ro _ lv, .i k, .i bb, .i oal, .l o] ∧ sp_trd e K) K).mpr (hyp_ W i ts al lv k bb oal o K hs _ fun e h1 h2 => ⟨h1, h2⟩)
theorem put_perm (ts o : Dt) (b : Int) (i : Nat) : (Sp.putD ts o b i).Perm (o ++ [[.i (Sp.tSk ts i), .i (Sp.tLv ts i)]]) := by
  unfold Sp.putD
  have h : ∀ x : List Cl, (o.take (Sp.atD o b i).toNat ++ [x] ++ o.drop (Sp.atD o b i).toNat).Perm (o.take (Sp.atD o b i).toNat ++ o.drop (Sp.atD o b i).toNat ++ [x]) := fun x => by
    rw [List.append_assoc, List.append_assoc]
    exact List.Perm.append_left _ List.perm_append_comm
  have := h [.i (Sp.tSk ts i), .i (Sp.tLv ts i)]
  rwa [List.take_append_drop] at this
theorem nrm_len (ts : Dt) : (Sp.nrm ts).length = ts.length := by simp [Sp.nrm]
theorem nrm_take (ts : Dt) {n : Nat} (h : n < ts.length) : (Sp.nrm ts).take (n + 1) = (Sp.nrm ts).take n ++ [[.i (Sp.tSk ts n), .i (Sp.tLv ts n)]] := by
  rw [List.take_succ_eq_append_getElem (by rw [nrm_len]; exact h)]
  simp [Sp.nrm]
theorem ins_perm (ts : Dt) (b : Int) : ∀ n, n ≤ ts.length → (Sp.insD ts b n).Perm ((Sp.nrm ts).take n)
  | 0, _ => by simp [Sp.insD]
  | n + 1, h => by
    rw [nrm_take ts (by omega)]
    exact (put_perm _ _ _ _).trans ((ins_perm ts b n (by omega)).append_right _)
theorem ins_len {ts : Dt} {b : Int} {n : Nat} (h : n ≤ ts.length) : (Sp.insD ts b n).length = n := by
  rw [(ins_perm ts b n h).length_eq, List.length_take, nrm_len]; omega
theorem nrm_at (ts : Dt) (i : Nat) : Sp.tSk (Sp.nrm ts) i = Sp.tSk ts i ∧ Sp.tLv (Sp.nrm ts) i = Sp.tLv ts i := by
  by_cases h : i < ts.length
  · have e : (Sp.nrm ts).getD i [] = [.i (Sp.tSk ts i), .i (Sp.tLv ts i)] := by simp [Sp.nrm, List.getD_eq_getElem?_getD, List.getElem?_range h]
    refine ⟨?_, ?_⟩
    · show (((Sp.nrm ts).getD i []).getD 0 .z).int = _
      rw [e]; rfl
    · show (((Sp.nrm ts).getD i []).getD 1 .z).int = _
      rw [e]; rfl
  · unfold Sp.tSk Sp.tLv
    have q1 : (Sp.nrm ts).length ≤ i := by rw [nrm_len]; omega
    have q2 : ts.length ≤ i := by omega
    exact ⟨by rw [fin_z q1, fin_z q2], by rw [fin_z q1, fin_z q2]⟩
theorem chance_same {ts ts2 : Dt} {f : Nat → Int} {al : Int} (hl : ts2.length = ts.length) (h : ∀ i, Sp.tSk ts2 i = Sp.tSk ts i ∧ Sp.tLv ts2 i = Sp.tLv ts i) : Sp.chance ts2 al f = Sp.chance ts al f :=
  Int.le_antisymm (chance_le al hl.symm fun j _ => by unfold Sp.prob; rw [(h j).1, (h j).2]; exact Int.le_refl _) (chance_le al hl fun j _ => by unfold Sp.prob; rw [(h j).1, (h j).2]; exact Int.le_refl _)
def probR (f : Nat → Int) (r : List Cl) : Int := Sp.lev (500 + f (r.getD 0 .z).int.toNat - (r.getD 1 .z).int)
theorem pF_map (f : Nat → Int) : ∀ l p : Dt, Sp.pF (p ++ l) f p.length l.length = l.map (probR f)
  | [], p => rfl
  | x :: l, p => by
    have h := pF_map f l (p ++ [x])
    rw [List.append_assoc, List.length_append, List.length_singleton] at h
    have e : (p ++ x :: l).getD p.length [] = x := by simp
    show Sp.prob (p ++ x :: l) f p.length :: Sp.pF (p ++ x :: l) f (p.length + 1) l.length = _
    rw [show p ++ x :: l = p ++ ([x] ++ l) from rfl, h]
    show Sp.lev (500 + f (((p ++ x :: l).getD p.length []).getD 0 .z).int.toNat - (((p ++ x :: l).getD p.length []).getD 1 .z).int) :: _ = _
    rw [e]
    rfl
theorem chance_map (ts : Dt) (al : Int) (f : Nat → Int) : Sp.chance ts al f = Sp.passL (ts.map (probR f)) al := by
  rw [chance_pF]
  exact congrArg (Sp.passL · al) (pF_map f ts [])
theorem chance_perm {ts ts2 : Dt} (h : ts2.Perm ts) (al : Int) (f : Nat → Int) : Sp.chance ts2 al f = Sp.chance ts al f := by
  rw [chance_map, chance_map]
  exact pass_perm (h.map _) al
def RowIn (n : Nat) (r : List Cl) : Prop := (0 ≤ (r.getD 0 .z).int ∧ (r.getD 0 .z).int < n) ∧ 0 ≤ (r.getD 1 .z).int ∧ (r.getD 1 .z).int ≤ 1000
theorem tsin_iff {ts : Dt} {n : Nat} : Sp.TsIn ts n ↔ ts.length ≤ 6 ∧ ∀ r ∈ ts, RowIn n r := by
  have e : ∀ i (h : i < ts.length), ts.getD i [] = ts[i] := fun i h => by simp [List.getD_eq_getElem?_getD, List.getElem?_eq_getElem h]
  refine ⟨fun h => ⟨h.l6, fun r hr => ?_⟩, fun h => ⟨h.1, fun i hi => ?_, fun i hi => ?_⟩⟩
  · obtain ⟨i, hi, rfl⟩ := List.mem_iff_getElem.1 hr
    have h1 := h.sk i hi
    have h2 := h.lv i hi
    unfold Sp.tSk cel at h1
    unfold Sp.tLv cel at h2
    rw [e i hi] at h1 h2
    exact ⟨h1, h2⟩
  · have := (h.2 _ (List.getElem_mem hi)).1
    unfold Sp.tSk cel
    rw [e i hi]
    exact this
  · have := (h.2 _ (List.getElem_mem hi)).2
    unfold Sp.tLv cel
    rw [e i hi]
    exact this
theorem tsin_nrm {ts : Dt} {n : Nat} (h : Sp.TsIn ts n) : Sp.TsIn (Sp.nrm ts) n :=
  ⟨by rw [nrm_len]; exact h.l6, fun i hi => by rw [(nrm_at ts i).1]; exact h.sk i (by rwa [nrm_len] at hi), fun i hi => by rw [(nrm_at ts i).2]; exact h.lv i (by rwa [nrm_len] at hi)⟩
theorem tsin_perm {ts ts2 : Dt} {n : Nat} (h : ts2.Perm ts) (hT : Sp.TsIn ts n) : Sp.TsIn ts2 n :=
  tsin_iff.2 ⟨by rw [h.length_eq]; exact hT.l6, fun r hr => (tsin_iff.1 hT).2 r (h.mem_iff.1 hr)⟩
theorem turned_law {sk is ts lv : Dt} {al b : Int} (h : Sp.chanceE sk is ts al lv = 0) :
    Sp.chanceE sk is (Sp.insD ts b ts.length) al lv = 0 ∧ Sp.chanceN sk is (Sp.insD ts b ts.length) al lv = Sp.chanceN sk is ts al lv ∧
    (ts.length < 6 → 500 ≤ (cel lv 0 0).int → Sp.chanceE sk is (Sp.insD ts b ts.length ++ [[.i 0, .i 0]]) al lv = 0 ∧ Sp.chanceN sk is (Sp.insD ts b ts.length ++ [[.i 0, .i 0]]) al lv = 1000 * Sp.chanceN sk is ts al lv) := by
  obtain ⟨hS, hl, hL⟩ := chanceE_iff.1 h
  have hp := ins_perm ts b ts.length (Nat.le_refl _)
  rw [← nrm_len, List.take_length, nrm_len] at hp
  have hlen := ins_len (b := b) (Nat.le_refl ts.length)
  have t1 := hS.t1
  have a0 := hS.a0
  have a1 := hS.a1
  have n1 := hS.sch.n1
  have hT := tsin_perm hp (tsin_nrm hS.tin)
  have c1 := chanceN_of (ts := Sp.insD ts b ts.length) ⟨hS.sch, by omega, hT, a0, by omega⟩ hl hL
  have c0 := (chanceN_of hS hl hL).2
  have eq : Sp.chance (Sp.insD ts b ts.length) al (Sp.fLv lv) = Sp.chance ts al (Sp.fLv lv) := (chance_perm hp _ _).trans (chance_same (nrm_len ts) (nrm_at ts))
  refine ⟨c1.1, by rw [c1.2, eq, c0], fun h6 h5 => ?_⟩
  have hT2 : Sp.TsIn (Sp.insD ts b ts.length ++ [[.i 0, .i 0]]) sk.length := tsin_iff.2 ⟨by simp; omega, fun r hr => by
    rcases List.mem_append.1 hr with hr | hr
    · exact (tsin_iff.1 hT).2 r hr
    · rw [List.mem_singleton.1 hr]
      exact ⟨⟨Int.le_refl _, by show (0 : Int) < sk.length; omega⟩, Int.le_refl _, by decide⟩⟩
  have c2 := chanceN_of (ts := Sp.insD ts b ts.length ++ [[.i 0, .i 0]]) (al := al) ⟨hS.sch, by simp, hT2, a0, by simp; omega⟩ hl hL
  refine ⟨c2.1, ?_⟩
  rw [c2.2, c0, chance_perm List.perm_append_comm, ← eq, chance_map, chance_map]
  have hp0 : probR (Sp.fLv lv) [.i 0, .i 0] = 1000 := by
    have := (hL 0 (by omega)).2
    show Sp.lev (500 + (cel lv 0 0).int - 0) = 1000
    unfold Sp.lev
    unfold Sp.fLv at this
    omega
  rw [List.singleton_append, List.map_cons, hp0]
  show Sp.passL (1000 :: _) al = _
  rw [show ∀ l : List Int, Sp.passL (1000 :: l) al = 1000 * Sp.passL l al + (1000 - 1000) * Sp.passL l (al - 1) from fun l => by rw [Sp.passL, if_neg (by omega)]]
  omega
theorem okLtrd : okLt_trd := okl_trd (fun e => match e with | .i i :: .ro _ ts :: _ => (ts.xs.length - i).toNat | _ => 0) fun W i ts al lv k b oal o K hs A hA => by
  obtain ⟨⟨h0, h1, h6, b0, b1, rfl⟩, hk⟩ := hs
  unfold VCL_trd
  refine vifd (fun e => ?_) fun e => ?_
  · have e1 : (i + 1).toNat = i.toNat + 1 := by omega
    have ei : ((i.toNat : Nat) : Int) = i := by omega
    have l1 := ins_len (b := b) (show i.toNat ≤ ts.xs.length by omega)
    have q1 : 0 ≤ b.tdiv (i + 1) := Int.tdiv_nonneg b0 (by omega)
    have q2 : b.tdiv (i + 1) ≤ b := by
      rw [Int.tdiv_eq_ediv_of_nonneg b0]
      exact Int.ediv_le_self _ b0
    have ti := tm_in q1 (show (0 : Int) < (Sp.insD ts.xs b i.toNat).length + 1 by omega)
    have hA' := hA [.i (i + 1), .ro _ ts, .i al, .ro _ lv, .i k, .i b, .i oal, .l (Sp.insD ts.xs b (i.toNat + 1))] (by show ((ts.xs.length : Int) - (i + 1)).toNat < ((ts.xs.length : Int) - i).toNat; omega) ⟨⟨by omega, by omega, h6, b0, b1, by rw [e1]⟩, hk⟩
    rw [show Sp.insD ts.xs b (i.toNat + 1) = Sp.putD ts.xs (Sp.insD ts.xs b i.toNat) b i.toNat from rfl, Sp.putD, Sp.atD, ei] at hA'
    simp only [Sp.tSk, Sp.tLv] at hA'
    generalize Sp.insD ts.xs b i.toNat = o at *
    clear hA hk
    simp only [Nat.zero_add, Nat.sub_zero, List.drop_zero, List.length_take, List.length_drop, List.length_append, List.length_singleton]
    refine ar64 (by omega) (ar64 (by omega) (need_not (by omega) (ar64 (by omega) (ar64 (by omega) (need_not (by omega) (nedd (by omega) (need_in (by omega) (nedd (by omega) (nedd (by omega) (need_in (by omega) (nedd (by omega) (nedd (by omega) (nedd (by omega) (need_in (by omega) (nedd (by omega) (nedd (by omega) (ar64 (by omega) ?_)))))))))))))))))
    rw [List.take_of_length_le (show (o.drop ((b.tdiv (i + 1)).tmod (o.length + 1)).toNat).length ≤ o.length - ((b.tdiv (i + 1)).tmod (o.length + 1)).toNat by simp)]
    exact hA'
  · rw [show i.toNat = ts.xs.length by omega]
    exact hk
noncomputable def le_trd : LE Try.prog := ⟨16, 7, fun W => @loopRun W lc_trd, okLtrd⟩
noncomputable def TK16 : Tab Try.prog := ⟨[pc_Chance, pc_Awake], [le_trd], []⟩
def VC_lawTurned [W : InW] (s_Skills : Ro [.str, .int .i64, .int .i64, .int .i64, .int .i64]) (s_Instrs : Ro [.str, .int .i64, .int .i64]) (t_Tasks : Ro [.int .i64, .int .i64]) (t_Allowed : Int) (x_lv : Ro [.int .i64]) (x_k x_by : Int) (Q : DS → Prop) : Prop :=
  Pre True (Vif (!decide (Sp.chanceE s_Skills.xs s_Instrs.xs t_Tasks.xs t_Allowed x_lv.xs = (0 : Int))) (Vif (decide (Sp.chanceN s_Skills.xs s_Instrs.xs t_Tasks.xs t_Allowed x_lv.xs = (0 : Int))) (Pre True (Q [[Cl.b true]])) (Q [[Cl.b false]])) (Pre ((0 : Int) ≤ (0 : Int) ∧ (0 : Int) ≤ (↑(t_Tasks.xs.length) : Int) ∧ t_Tasks.xs.length ≤ (6 : Nat) ∧ (0 : Int) ≤ x_by ∧ x_by ≤ (65535 : Int) ∧ [] = Sp.insD t_Tasks.xs x_by (Int.toNat (0 : Int))) (Pre True (Vif (!decide (Sp.chanceE s_Skills.xs s_Instrs.xs (Sp.insD t_Tasks.xs x_by (t_Tasks.xs.length)) t_Allowed x_lv.xs = (0 : Int))) (Q [[Cl.b false]]) (Vif (!decide (Sp.chanceN s_Skills.xs s_Instrs.xs (Sp.insD t_Tasks.xs x_by (t_Tasks.xs.length)) t_Allowed x_lv.xs = Sp.chanceN s_Skills.xs s_Instrs.xs t_Tasks.xs t_Allowed x_lv.xs)) (Q [[Cl.b false]]) (Vif (decide ((6 : Int) ≤ (↑(List.length (Sp.insD t_Tasks.xs x_by (t_Tasks.xs.length))) : Int))) (Pre True (Q [[Cl.b true]])) (Vif (decide ((↑(x_lv.xs.length) : Int) = (0 : Int))) (Pre True (Q [[Cl.b true]])) (Need (decide ((0 : Int) ≤ (0 : Int)) && decide ((0 : Int) < (↑(x_lv.xs.length) : Int))) (Need (decide (Int.toNat (0 : Int) < x_lv.xs.length)) (Vif (decide ((cel x_lv.xs (Int.toNat (0 : Int)) (0 : Nat)).int < (500 : Int))) (Pre True (Q [[Cl.b true]])) (Need (decide ((List.length (Sp.insD t_Tasks.xs x_by (t_Tasks.xs.length)) + [[Cl.i (0 : Int), Cl.i (0 : Int)]].length) * (16 : Nat) ≤ (140737488355328 : Nat))) (Pre True (Vif (decide (Sp.chanceE s_Skills.xs s_Instrs.xs (Sp.insD t_Tasks.xs x_by (t_Tasks.xs.length) ++ [[Cl.i (0 : Int), Cl.i (0 : Int)]]) t_Allowed x_lv.xs = (0 : Int))) (Ar .i64 ((1000 : Int) * Sp.chanceN s_Skills.xs s_Instrs.xs t_Tasks.xs t_Allowed x_lv.xs) fun z => Vif (decide (Sp.chanceN s_Skills.xs s_Instrs.xs (Sp.insD t_Tasks.xs x_by (t_Tasks.xs.length) ++ [[Cl.i (0 : Int), Cl.i (0 : Int)]]) t_Allowed x_lv.xs = z)) (Pre True (Q [[Cl.b true]])) (Q [[Cl.b false]])) (Q [[Cl.b false]]))))))))))))))
theorem vc_lawTurned (W : InW) (s_Skills s_Instrs t_Tasks t_Allowed x_lv x_k x_by Q) : bodyK (cxT Try.prog TT TK16 1000 50) 1000 16 [.agg [.rs _ s_Skills, .rs _ s_Instrs], .agg [.rs _ t_Tasks, .si .i64 t_Allowed], .agg [.rs _ x_lv, .si .u8 x_k, .si .u16 x_by]] [] 0 (leafK [(false, [.bool])] Q) (fun _ _ _ _ => Stuck 421) = VC_lawTurned s_Skills s_Instrs t_Tasks t_Allowed x_lv x_k x_by Q := by kernel_rfl
abbrev ats_lawTurned : List AT := [.agg [.sl [.str, .int .i64, .int .i64, .int .i64, .int .i64], .sl [.str, .int .i64, .int .i64]], .agg [.sl [.int .i64, .int .i64], .int .i64], .agg [.sl [.int .i64], .int .u8, .int .u16]]
theorem ok_lawTurned {pre : DS → Prop} {res : DS → DS} (hyp_ : ∀ (W : InW) (s_Skills : Ro [.str, .int .i64, .int .i64, .int .i64, .int .i64]) (s_Instrs : Ro [.str, .int .i64, .int .i64]) (t_Tasks : Ro [.int .i64, .int .i64]) (t_Allowed : Int) (x_lv : Ro [.int .i64]) (x_k : Int) (x_by : Int), pre [[.l s_Skills.xs, .l s_Instrs.xs], [.l t_Tasks.xs, .i t_Allowed], [.l x_lv.xs, .i x_k, .i x_by]] → ∀ Q : DS → Prop, Q (res [[.l s_Skills.xs, .l s_Instrs.xs], [.l t_Tasks.xs, .i t_Allowed], [.l x_lv.xs, .i x_k, .i x_by]]) → VC_lawTurned s_Skills s_Instrs t_Tasks t_Allowed x_lv x_k x_by Q) : PureOk Try.prog 16 ats_lawTurned [(false, [.bool])] pre res :=
  PureOk.of' (fun W => @TT W) (fun W => @TT_ok W) mixed_ok TK16 1000 50 fun W s_Skills s_Instrs t_Tasks t_Allowed x_lv x_k x_by hp =>
    (vc_lawTurned W s_Skills s_Instrs t_Tasks t_Allowed x_lv x_k x_by (fun o => o = res [[.l s_Skills.xs, .l s_Instrs.xs], [.l t_Tasks.xs, .i t_Allowed], [.l x_lv.xs, .i x_k, .i x_by]])).mpr (hyp_ W s_Skills s_Instrs t_Tasks t_Allowed x_lv x_k x_by hp _ rfl)
theorem turned_pure : PureOk Try.prog 16 ats_lawTurned [(false, [.bool])] (WfD ats_lawTurned) fun _ => [[.b true]] :=
  ok_lawTurned fun W sk is ts al lv xk xb hp Q h => by
    obtain ⟨hp1, hp⟩ := hp.head
    obtain ⟨hp2, hp⟩ := hp.head
    obtain ⟨hp3, _⟩ := hp.head
    obtain ⟨g1, hp3⟩ := WfL.head hp3
    obtain ⟨g2, hp3⟩ := WfL.head hp3
    obtain ⟨g3, hp3⟩ := WfL.head hp3
    have g3 := wf_u16 g3
    unfold VC_lawTurned
    refine ⟨trivial, vifn (fun e => vifd (fun _ => ⟨trivial, h⟩) fun e2 => absurd (by rw [Sp.chanceN, if_neg e]) e2) fun e => ?_⟩
    obtain ⟨hS, hl, hL⟩ := chanceE_iff.1 e
    have t1 := hS.t1
    have n1 := hS.sch.n1
    have l6 := hS.tin.l6
    have a0 := hS.a0
    obtain ⟨c1, c2, c3⟩ := turned_law (b := xb) e
    have hlen := ins_len (b := xb) (Nat.le_refl ts.xs.length)
    have cN : 0 ≤ Sp.chanceN sk.xs is.xs ts.xs al lv.xs ∧ Sp.chanceN sk.xs is.xs ts.xs al lv.xs ≤ 1000 ^ ts.xs.length := by
      rw [(chanceN_of hS hl hL).2]
      have := passL_in (done_in ts.xs (Sp.fLv lv.xs) ts.xs.length) al
      rwa [done_len] at this
    refine ⟨⟨by omega, by omega, l6, g3.1, g3.2, rfl⟩, trivial, vifn (fun x => absurd c1 x) fun _ => vifn (fun x => absurd c2 x) fun _ => vifd (fun _ => ⟨trivial, h⟩) fun e6 => vifd (fun _ => ⟨trivial, h⟩) fun _ => need_in (by omega) (nedd (by omega) (vifd (fun _ => ⟨trivial, h⟩) fun e5 => ?_))⟩
    have h6 : ts.xs.length < 6 := by omega
    obtain ⟨c4, c5⟩ := c3 h6 (by exact Int.not_lt.1 e5)
    have cb := pow_le (n := ts.xs.length) (by omega)
    refine nedd (by rw [hlen]; simp only [List.length_singleton]; omega) ⟨trivial, vifd (fun _ => ar64 (by omega) (vifd (fun _ => ⟨trivial, h⟩) fun x => absurd c5 x)) fun x => absurd c4 x⟩
end Go.Proofs.Ytdokbocmgdhmmaa
namespace Go.Proofs.Ytdokbocmgdhmmaa.skillTurned
open Go.ChangeShapes Go.WideShapes Go.ChangeAt Go.RowKit
set_option linter.unusedVariables false
set_option maxRecDepth 100000
theorem own : ownKnob Try.prog.godebug = none := by kernel_rfl
theorem laid : laidOutB Try.prog = true := by kernel_rfl
theorem lifted (os : Os) (started : os.Started) (H : Type) (enc : TypeId × Value → H) :
    ReturnsInHanded {} Try.checked os 16 .any (Rows.skillTurnedSpec.pre6 enc Try.prog Try.f16 Rows.skillTurnedRow.domain false) (Rows.skillTurnedSpec.post enc Try.prog Try.f16 false true false false) := by
  refine returnsInHanded_of_change (C := Try.checked) own started (by kernel_rfl) Try.func16
    (ChangeSpec.witness6 (enc := enc) (C := Try.checked) false ⟨#[], #[(.agg #[.slice none 0 0, .slice none 0 0]), (.agg #[.slice none 0 0, .int .i64 0]), (.agg #[.slice none 0 0, .int .u8 0, .int .u16 0])], []⟩ 8 (by kernel_rfl) (by kernel_rfl) (by kernel_rfl) (by kernel_rfl)) ?_
  intro W base args ds gs before hval hW _ _
  exact law_end (f := Try.f16) (s := Rows.skillTurnedSpec) (by kernel_rfl) Try.underlying4 (by kernel_rfl) rfl laid (by kernel_rfl)
    (fun ds h => by match ds, (show ds.length = 3 from h) with | [_, _, _], _ => exact ⟨rfl, rfl, rfl⟩) turned_pure hval hW
theorem over : Rows.skillTurnedRow.holds Try.pinned (OpenSpec.ofChange Rows.skillTurnedSpec) :=
  OpenClaim.holds_of_wide 16 Try.f16 rfl rfl rfl rfl rfl rfl rfl ⟨rfl, rfl, rfl, rfl, rfl⟩ rfl rfl rfl rfl rfl (by kernel_rfl) Try.func16 (by kernel_rfl)
    (of_decide_eq_true (by kernel_rfl)) (by unfold Func.isWrapper; first | (rw [if_pos (by decide +kernel)]; kernel_rfl) | (rw [if_neg (by decide +kernel)]; exact ⟨rfl, rfl⟩))
    (fun os started H enc _ => lifted os started H enc)
theorem proved : Rows.SkillTurnedSaid := over
end Go.Proofs.Ytdokbocmgdhmmaa.skillTurned
