/-
  'PaperAny': for every input the law returns true, and what is handed in reads as before. No condition.
-/
import Derived.Test.YtilnbgpogfabaaaQanc
import Derived.Test.YtilnbgpogfabaaaRows
import Derived.WalkKit
import Derived.ProofKit
set_option linter.unusedVariables false
set_option linter.unusedSectionVars false
set_option linter.unusedSimpArgs false
namespace Go.Proofs.Ytilnbgpogfabaaa
open Go.RowKit
set_option maxRecDepth 100000
theorem vif_t [InW] {b : Bool} {A B : Prop} (hb : b = true) (ha : A) : Vif b A B := Vif_iff.2 ⟨fun _ => ha, fun h => absurd (hb.symm.trans h) (by decide)⟩
theorem Xf0 [W : InW] (Q : DS -> Prop) (h : Q [[.b true]]) : Xw Q := by
 unfold Xw;delta Zbq Zbr Zbt Zbs Zbp Zbo Zbu Zk
 repeat first | refine vif_t (by kernel_rfl) ?_ | refine Pre_iff.2 ⟨trivial, ?_⟩ | refine Pre_iff.2 ⟨by kernel_rfl, ?_⟩
 exact (congrArg Q (by kernel_rfl)).mpr h
noncomputable def Xfm : PC Try.prog := ⟨23, [], [(false, [.bool])], fun _ => True, fun _ => [[.b true]], Xfu fun W hp Q h => Xf0 Q h⟩
namespace Sp
theorem allF_ext {f g : Nat -> Bool} : ∀ {n i : Nat}, (∀ k, i <= k -> k < i + n -> f k = g k) -> allF f i n = allF g i n
 | 0, i, _ => rfl
 | n + 1, i, h => by rw [allF, allF, h i (by omega) (by omega), allF_ext fun k a b => h k (by omega) (by omega)]
structure Got (rs L : Dt) (S c n : Int) (j q : Nat) : Prop where
 lt : q < rs.length
 row : cel L j 0 = .l (pickP rs n q)
 fit : fitF rs L S c j n q = true
 no : ∀ k, k < q -> fitF rs L S c j n k = false
structure Drawn (qs ws : Dt) (lo hi r S c : Int) (nums : Dt) : Prop where
 bv : BankV qs ws lo hi
 ho : HallOk r S c nums.length
 nu : NuOk nums
 ro : RsOk (papD qs ws lo hi)
 len : (drawL qs ws lo hi r S c nums).length = nums.length
 got : ∀ j, j < nums.length -> ∃ q, Got (papD qs ws lo hi) (drawL qs ws lo hi r S c nums) S c (cel nums j 0).int j q
theorem pick_ix {rs : Dt} {n : Int} {q : Nat} (hn : 0 <= n) (h1 : 1 <= rs.length) : ((n + q).tmod rs.length).toNat < rs.length := by
 have := tmod_in (n := n + q) (m := rs.length) (by omega) h1;omega
theorem Drawn.is {qs ws : Dt} {lo hi r S c : Int} {nums : Dt} (h : Drawn qs ws lo hi r S c nums) {j : Nat} (hj : j < nums.length) : isP qs ws lo hi (cel (drawL qs ws lo hi r S c nums) j 0).lst = true := by
 obtain ⟨q, hq⟩ := h.got j hj;rw [hq.row];have hn := h.nu.ok j hj;have hi' := pick_ix (q := q) hn.1 h.ro.n1
 show isP qs ws lo hi (pickP _ _ _) = true
 unfold pickP;rw [cel_papD hi'];exact paps_is h.bv (by simpa [papD] using hi')
theorem length_paps (qs ws : Dt) (lo hi : Int) : ((paps qs ws lo hi).length : Int) = total qs ws lo hi := rfl
theorem nthE_in {qs ws : Dt} {lo hi k : Int} (bv : BankV qs ws lo hi) (h0 : 0 <= k) (h1 : k < total qs ws lo hi) : nthE qs ws lo hi k = 0 := by
 unfold nthE;rw [if_pos (chkE_iff.2 bv), if_pos (inr_iff.2 (by omega))]
theorem nthR_in {qs ws : Dt} {lo hi k : Int} (bv : BankV qs ws lo hi) (h0 : 0 <= k) (h1 : k < total qs ws lo hi) : nthR qs ws lo hi k = (paps qs ws lo hi).getD k.toNat [] := by
 unfold nthR;rw [if_pos (nthE_in bv h0 h1)];rfl
end Sp
theorem Xic {n : Int} (h : WfC (.int .u16) (.i n)) : 0 <= n /\ n <= 65535 := by
 cases h with
 | int _ _ h => simp [Lit.wf, IntKind.min, IntKind.max, IntKind.signed, IntKind.bits] at h; omega
theorem WfL.head {t : Ty} {ts : List Ty} {c : Cl} {cs : List Cl} (h : WfL (t :: ts) (c :: cs)) : WfC t c /\ WfL ts cs := by
 cases h with
 | cons h hs => exact ⟨h, hs⟩
theorem WfD.head {a : AT} {ats : List AT} {d : List Cl} {ds : DS} (h : WfD (a :: ats) (d :: ds)) : WfA a d /\ WfD ats ds := by
 obtain ⟨d', ds', e, h1, h2⟩ := h;cases e;exact ⟨h1, h2⟩
namespace Sp
theorem Got.apP {rs L : Dt} {S c n : Int} {j q : Nat} (h : Got rs L S c n j q) : apP L (cel L j 0).lst S j c = true := by
 rw [h.row];exact h.fit
theorem outs_of {lo hi : Int} {xs : Dt} : ∀ {n i : Nat}, (∀ k, i <= k -> k < i + n -> inr (cel xs k 0).int lo hi = true) -> outs lo hi xs i n = false
 | 0, i, _ => rfl
 | n + 1, i, h => by
  rw [outs, h i (by omega) (by omega), outs_of fun k a b => h k (by omega) (by omega)];rfl
theorem NuOk.out {nums : Dt} (h : NuOk nums) : Sp.out 0 1000000000 nums = false := outs_of fun k _ hk => inr_iff.2 (h.ok k (by omega))
end Sp
namespace Sp
theorem pick_num {qs ws : Dt} {lo hi n : Int} (bv : BankV qs ws lo hi) (ro : RsOk (papD qs ws lo hi)) (hn : 0 <= n) (q : Nat) :
  0 <= (n + q).tmod (total qs ws lo hi) /\ (n + q).tmod (total qs ws lo hi) < total qs ws lo hi /\
  nthE qs ws lo hi ((n + q).tmod (total qs ws lo hi)) = 0 /\ nthR qs ws lo hi ((n + q).tmod (total qs ws lo hi)) = pickP (papD qs ws lo hi) n q /\
  numE qs ws lo hi (pickP (papD qs ws lo hi) n q) = 0 /\ numR qs ws lo hi (pickP (papD qs ws lo hi) n q) = (n + q).tmod (total qs ws lo hi) := by
 have hlp := length_papD qs ws lo hi;have hl := length_paps qs ws lo hi;have ht := tmod_in (n := n + q) (m := (papD qs ws lo hi).length) (by omega) ro.n1;rw [hlp] at ht;have e : pickP (papD qs ws lo hi) n q = (paps qs ws lo hi).getD ((n + q).tmod (total qs ws lo hi)).toNat [] := by
  unfold pickP;rw [hlp, cel_papD (by omega)]
 have hf := paps_fol (qs := qs) (ws := ws) (lo := lo) (hi := hi) (i := ((n + q).tmod (total qs ws lo hi)).toNat) (by omega);rw [<- e] at hf;have hE : numE qs ws lo hi (pickP (papD qs ws lo hi) n q) = 0 := by
  unfold numE;rw [if_pos (chkE_iff.2 bv), hf, if_pos rfl]
 refine ⟨ht.1, ht.2, nthE_in bv ht.1 ht.2, by rw [nthR_in bv ht.1 ht.2, e], hE, ?_⟩;unfold numR;rw [if_pos hE, hf]
 show (((n + (q : Int)).tmod (total qs ws lo hi)).toNat : Int) = _
 omega
end Sp
namespace Sp
theorem numE_is {qs ws : Dt} {lo hi : Int} {p : Dt} (bv : BankV qs ws lo hi) (h : isP qs ws lo hi p = true) : numE qs ws lo hi p = 0 := by
 unfold numE;rw [if_pos (chkE_iff.2 bv), fol_is bv, if_pos h]
theorem ap_16 {ps p : Dt} {S seat : Int} (h : ∀ j, (cel ps j 0).lst.length <= 16) : apP ps p S seat 16 = true := by
 unfold apP;refine allF_iff.2 fun k _ _ => decide_eq_true ?_;have h1 := (cmF_b (cel ps (cel (bfD S seat) k 0).int.toNat 0).lst p (cel ps (cel (bfD S seat) k 0).int.toNat 0).lst.length).2;have h2 := h (cel (bfD S seat) k 0).int.toNat;unfold cmn;omega
theorem cel_far {ps : Dt} {j : Nat} (h : ps.length <= j) : cel ps j 0 = .z := by
 simp [cel, List.getD_eq_getElem?_getD, List.getElem?_eq_none h]
theorem Drawn.all16 {qs ws : Dt} {lo hi r S c : Int} {nums : Dt} (d : Drawn qs ws lo hi r S c nums) (j : Nat) : (cel (drawL qs ws lo hi r S c nums) j 0).lst.length <= 16 := by
 by_cases hj : j < nums.length
 ·obtain ⟨q, g⟩ := d.got j hj;rw [g.row];exact d.ro.few _ (pick_ix (d.nu.ok j hj).1 d.ro.n1)
 ·rw [cel_far (by rw [d.len]; omega)];simp [Cl.lst]
theorem Drawn.own {qs ws : Dt} {lo hi r S : Int} {nums : Dt} (d : Drawn qs ws lo hi r S 16 nums) {j : Nat} (hj : j < nums.length) :
  nthE qs ws lo hi ((cel nums j 0).int.tmod (total qs ws lo hi)) = 0 /\ (cel (drawL qs ws lo hi r S 16 nums) j 0).lst = nthR qs ws lo hi ((cel nums j 0).int.tmod (total qs ws lo hi)) := by
 obtain ⟨q, g⟩ := d.got j hj;have hn := (d.nu.ok j hj).1;have hq : q = 0 := by
  by_cases hz : q = 0
  ·exact hz
  ·have := g.no 0 (by omega);unfold fitF at this;rw [ap_16 d.all16] at this;cases this
 subst hq;obtain ⟨_, _, b2, b3, _⟩ := pick_num d.bv d.ro hn 0;rw [show (cel nums j 0).int + ((0 : Nat) : Int) = (cel nums j 0).int by omega] at b2 b3;rw [g.row, b3];exact ⟨b2, rfl⟩
end Sp
set_option maxHeartbeats 1600000
namespace Sp
def bitU (b : Int) (i : Nat) : Bool := decide ((b.fdiv (2 ^ min i 16)).tmod 2 = 1)
def anyL (qs ws : Dt) (b : Int) : Nat -> Nat -> Dt -> Dt
 | _, 0, l => l
 | i, n + 1, l => if bitU b i = true /\ 1 <= V4.get (vOf qs ws l) (qPart qs i) then anyL qs ws b (i + 1) n (l ++ [[.i (i : Int)]]) else anyL qs ws b (i + 1) n l
theorem MOk.px {qs l ms : Dt} {np : Nat} (h : MOk (Sp.px qs l) np l.length ms) (i : Int) (h0 : 0 <= qPart qs i.toNat) (h1 : qPart qs i.toNat < np) : MOk (Sp.px qs (l ++ [[.i i]])) np (l ++ [[Cl.i i]]).length (ms.set (qPart qs i.toNat).toNat [.i ((cel ms (qPart qs i.toNat).toNat 0).int + 1)]) := by
 have h2 : MOk (Sp.px qs (l ++ [[.i i]])) np l.length ms := ⟨h.len, fun p hp => by
  rw [h.ok p hp, px_snoc, many_snoc (by rw [length_px]; exact Nat.le_refl _)]⟩
 have h3 : (cel (Sp.px qs (l ++ [[.i i]])) l.length 0).int = qPart qs i.toNat := by
  rw [cel_px (by simp), cel_last]; rfl
 have := h2.step h3 h0 h1;rwa [show (l ++ [[Cl.i i]]).length = l.length + 1 by simp]
theorem anyL_pre {qs ws : Dt} {lo hi : Int} (bv : BankV qs ws lo hi) (b : Int) : ∀ (n i : Nat) (l : Dt), i + n = qs.length -> PreOk qs ws l -> fstQ l <= i -> PreOk qs ws (anyL qs ws b i n l)
 | 0, i, l, _, h, _ => h
 | n + 1, i, l, hn, h, hf => by
  have hp := bv.part i (by omega);have hw := bv.w2;rw [anyL]
  split
  ·rename_i hc;refine anyL_pre bv b n (i + 1) _ (by omega) ?_ (by rw [fst_snoc]; omega);exact h.snoc hf (by omega) hp.1 (by rw [Int.toNat_natCast]; omega) (by rw [Int.toNat_natCast]; exact hc.2)
  ·exact anyL_pre bv b n (i + 1) l (by omega) h (by omega)
theorem any_is {qs ws ms l : Dt} {lo hi : Int} (po : PreOk qs ws l) (mo : MOk (Sp.px qs l) ws.length l.length ms) : isP qs ws lo hi l = (eqI ms ws && inr (lvl qs l) lo hi) := by
 have h : allF (isM qs ws l) 0 ws.length = eqI ms ws := by
  unfold eqI;rw [decide_eq_true mo.len, Bool.true_and, mo.len];refine allF_ext fun k _ hk => ?_;unfold isM eqA;rw [mo.ok k (by omega)]
 unfold isP;rw [po.up, Bool.true_and, h]
end Sp
noncomputable def TK10 : Tab Try.prog := ⟨[Xil], [], []⟩
def Xdj [InW] (e : List Ed) (K : Nat -> List Ed -> Prop) : Prop := match e with
  | [.i b, .i lev, .i i, .ro _ qs, .ro _ ws, .i lo, .i hi, .l ms, .l l] => Pre (Sp.BankV qs.xs ws.xs lo hi /\ Sp.PreOk qs.xs ws.xs l /\ Sp.MOk (Sp.px qs.xs l) ws.xs.length l.length ms /\ lev = Sp.lvl qs.xs l /\ Sp.fstQ l <= i /\ 0 <= i /\ i <= qs.xs.length)
     (Sp.FaM (Sp.MOk (Sp.px qs.xs (Sp.anyL qs.xs ws.xs b i.toNat (qs.xs.length - i.toNat) l)) ws.xs.length (Sp.anyL qs.xs ws.xs b i.toNat (qs.xs.length - i.toNat) l).length) fun ms => K 0 [.i (Sp.lvl qs.xs (Sp.anyL qs.xs ws.xs b i.toNat (qs.xs.length - i.toNat) l)), .ro _ qs, .ro _ ws, .i lo, .i hi, .l ms, .l (Sp.anyL qs.xs ws.xs b i.toNat (qs.xs.length - i.toNat) l)])
  | _ => False
noncomputable def Xea : LC where
 len := 155
 T := [(1, .int .u16), (2, (.ptr 1 0)), (7, (.row 13)), (8, .int .i64), (9, (.row 3)), (10, .int .i64)]
 H := [(1, .blk 27 [.rs Ja, .rs Jb, .int .i64, .int .i64]), (13, .arr 3 Jb), (3, .arr 3 Jb)]
 W := ([11] ++ rg 36 46)
 outs := [⟨.exit 0, [(2, (.ptr 1 0)), (7, (.row 13)), (8, .int .i64), (9, (.row 6))], [(1, .blk 27 [.rs Ja, .rs Jb, .int .i64, .int .i64]), (13, .arr 3 Jb), (6, .arr 3 Jb)], ([1, 10, 11] ++ rg 36 46)⟩]
 spec := Xdj
def Zbv [W : InW] (i : Int) (qs : Ro Ja) := cel qs.xs i.toNat Zbc
def Zbw [W : InW] (i : Int) (qs : Ro Ja) (ms : Dt) := decide (Zk <= (Zbv i qs).int) && decide ((Zbv i qs).int < (↑(ms.length) : Int))
def Xcu [W : InW] (b lev i : Int) (qs : Ro Ja) (ws : Ro Jb) (lo hi : Int) (ms l : Dt) (A : List Ed -> Prop) (K : Nat -> List Ed -> Prop) : Prop :=
 Vif (decide (i < (↑(qs.xs.length) : Int))) (Need (decide (0 <= i) && decide (i < (↑(qs.xs.length) : Int))) (Need (decide (i.toNat < qs.xs.length)) (Need (decide (0 <= i)) (Vif (decide ((b.fdiv ((2 : Int) ^ min i.toNat (16 : Nat))).tmod (2 : Int) = 1)) (Need (Zbw i qs ms) (Need (decide ((Zbv i qs).int.toNat < ms.length)) (Need (decide (Zk <= (Zbv i qs).int) && decide ((Zbv i qs).int < (↑(ws.xs.length) : Int))) (Need (decide ((Zbv i qs).int.toNat < ws.xs.length)) (Vif (decide ((cel ms (Zbv i qs).int.toNat Zbc).int < (cel ws.xs (Zbv i qs).int.toNat Zbc).int)) (Need (decide ((l.length + [[Cl.i i]].length) * 8 <= 140737488355328)) (Pre (Zk <= (cel qs.xs i.toNat (0+1)).int /\ (cel qs.xs i.toNat (0+1)).int <= 100000 /\ Zk <= (cel qs.xs i.toNat (Zbc + 1 + 1)).int /\ (cel qs.xs i.toNat (Zbc + 1 + 1)).int <= (cel qs.xs i.toNat (0+1)).int) (Ar .i64 (lev + Sp.wt [[Cl.i (Zbv i qs).int, Cl.i (cel qs.xs i.toNat (0+1)).int, Cl.i (cel qs.xs i.toNat (Zbc + 1 + 1)).int]] Zbc) fun z => Need (Zbw i qs ms) (Need (decide ((Zbv i qs).int.toNat < ms.length)) (Ar .i64 ((cel ms (Zbv i qs).int.toNat Zbc).int + 1) fun z_1 => Need (Zbw i qs ms) (Need (decide ((Zbv i qs).int.toNat < ms.length)) (Ar .i64 (i + 1) fun z_2 => A [.i b, .i z, .i z_2, .ro _ qs, .ro _ ws, .i lo, .i hi, .l (List.set ms (Zbv i qs).int.toNat [Cl.i z_1]), .l (l ++ [[Cl.i i]])]))))))) (Ar .i64 (i + 1) fun z => A [.i b, .i lev, .i z, .ro _ qs, .ro _ ws, .i lo, .i hi, .l ms, .l l])))))) (Ar .i64 (i + 1) fun z => A [.i b, .i lev, .i z, .ro _ qs, .ro _ ws, .i lo, .i hi, .l ms, .l l]))))) (K 0 [.i lev, .ro _ qs, .ro _ ws, .i lo, .i hi, .l ms, .l l])
theorem Xgs (W : InW) (b lev i qs ws lo hi ms l A K) : Yff { cxT Try.prog TT TK10 1000 50 with fn := 10 } 1000 (Yob Try.prog 10 8) (Yd6 155 [(1, .si .u16 b), (2, .ptr 1 0), (7, .rw 13), (8, .si .i64 lev), (9, .rw 3), (10, .si .i64 i)] ([11] ++ rg 36 46)) [(1, .blk 27 [.rs _ qs, .rs _ ws, .si .i64 lo, .si .i64 hi]), (13, .arr 3 Jb ms), (3, .arr 3 Jb l)] (Yut Xea A K) = Xcu b lev i qs ws lo hi ms l A K := by kernel_rfl
def Xdx : Prop := ∀ (W : InW) (body a : Code), (Try.prog.funcs[10]?).bind (·.body) = some body -> a ∈ Yy body -> Yf0 a = 8 -> @Yms W Try.prog a (@Ytz W Xea)
theorem Xhs (meas : [InW] -> List Ed -> Nat) (hyp_ : ∀ (W : InW) b lev i qs ws lo hi ms l K, Xdj [.i b, .i lev, .i i, .ro _ qs, .ro _ ws, .i lo, .i hi, .l ms, .l l] K -> ∀ A : List Ed -> Prop, (∀ e, meas e < meas [.i b, .i lev, .i i, .ro _ qs, .ro _ ws, .i lo, .i hi, .l ms, .l l] -> Xdj e K -> A e) -> Xcu b lev i qs ws lo hi ms l A K) : Xdx :=
 LE.okOf' (fun W => @TT W) (fun W => @Xc W) Xa TK10 1000 50 (by kernel_rfl) Xea (fun W => @meas W) fun W b lev i qs ws lo hi ms l K hs =>
  (Xgs W b lev i qs ws lo hi ms l (fun e => meas e < meas [.i b, .i lev, .i i, .ro _ qs, .ro _ ws, .i lo, .i hi, .l ms, .l l] /\ Xdj e K) K).mpr (hyp_ W b lev i qs ws lo hi ms l K hs _ fun e h1 h2 => ⟨h1, h2⟩)
theorem Xjh : Xdx := Xhs (fun e => match e with | _ :: _ :: .i i :: .ro _ qs :: _ => ((qs.xs.length : Int) - i).toNat | _ => 0) fun W b lev i qs ws lo hi ms l K hs A hA => by
 obtain ⟨⟨bv, po, mo, hlv, hf, h0, h1⟩, ⟨hk⟩⟩ := hs;unfold Xcu;delta Zbw Zbv Zbc Zk;have hn := bv.n2;have hw := bv.w2;have hfb := Sp.fst_bound po;have hst := po.st bv;have hs0 := hst.s0;have hs1 := hst.s1;have hml := mo.len
 by_cases hi' : i < qs.xs.length
 ·have lt : ((qs.xs.length : Int) - (i + 1)).toNat < ((qs.xs.length : Int) - i).toNat := by omega
  have hp := bv.part i.toNat (by omega);have hask := bv.ask i.toNat (by omega);have hbad := bv.bad i.toNat (by omega);have hwt := bv.wt (i := i.toNat) (by omega);have hmo := mo.ok (Sp.qPart qs.xs i.toNat).toNat (by omega);rw [Int.toNat_of_nonneg hp.1] at hmo;have hmb := Sp.many_bound (Sp.px qs.xs l) ((Sp.qPart qs.xs i.toNat).toNat : Nat) l.length;rw [Int.toNat_of_nonneg hp.1] at hmb;have hg := Sp.V4.get_vOf (qs := qs.xs) (ws := ws.xs) (xs := l) hp.1 (by omega);rw [show qs.xs.length - i.toNat = (qs.xs.length - (i + 1).toNat) + 1 by omega] at hk;simp only [Sp.anyL, show i.toNat + 1 = (i + 1).toNat by omega, Int.toNat_of_nonneg h0] at hk;have skip : ¬ (Sp.bitU b i.toNat = true /\ 1 <= Sp.V4.get (Sp.vOf qs.xs ws.xs l) (Sp.qPart qs.xs i.toNat)) -> A [.i b, .i lev, .i (i + 1), .ro _ qs, .ro _ ws, .i lo, .i hi, .l ms, .l l] := fun hc => hA _ lt ⟨⟨bv, po, mo, hlv, by omega, by omega, by omega⟩, ⟨fun us hu => by
   rw [if_neg hc] at hk; exact hk us hu⟩⟩
  have take : Sp.bitU b i.toNat = true /\ 1 <= Sp.V4.get (Sp.vOf qs.xs ws.xs l) (Sp.qPart qs.xs i.toNat) -> A [.i b, .i (lev + Sp.wt qs.xs i.toNat), .i (i + 1), .ro _ qs, .ro _ ws, .i lo, .i hi, .l (ms.set (Sp.qPart qs.xs i.toNat).toNat [.i ((cel ms (Sp.qPart qs.xs i.toNat).toNat 0).int + 1)]), .l (l ++ [[.i i]])] := fun hc => hA _ lt ⟨⟨bv, po.snoc hf (by omega) hp.1 (by omega) hc.2, mo.px i hp.1 (by omega), by rw [Sp.lvl_snoc, hlv], by rw [Sp.fst_snoc]; omega, by omega, by omega⟩, ⟨fun us hu => by
   rw [if_pos hc] at hk; exact hk us hu⟩⟩
  have ewt : Sp.wt [[Cl.i (cel qs.xs i.toNat 0).int, Cl.i (cel qs.xs i.toNat (0 + 1)).int, Cl.i (cel qs.xs i.toNat (0 + 1 + 1)).int]] 0 = Sp.wt qs.xs i.toNat := rfl;rw [ewt];clear hA hk;unfold Sp.bitU at skip take;refine vifd (fun _ => ?_) (fun h => absurd hi' h);refine ned (by simp; omega) (nedd (by omega) (nedd h0 (vifd (fun hb => ?_) (fun hb => ar64 (by omega) (skip fun hc => hb (of_decide_eq_true hc.1))))))
  change Need (decide (0 <= Sp.qPart qs.xs i.toNat) && decide (Sp.qPart qs.xs i.toNat < (ms.length : Int))) (Need (decide ((Sp.qPart qs.xs i.toNat).toNat < ms.length)) (Need (decide (0 <= Sp.qPart qs.xs i.toNat) && decide (Sp.qPart qs.xs i.toNat < (ws.xs.length : Int))) (Need (decide ((Sp.qPart qs.xs i.toNat).toNat < ws.xs.length)) (Vif (decide ((cel ms (Sp.qPart qs.xs i.toNat).toNat 0).int < (cel ws.xs (Sp.qPart qs.xs i.toNat).toNat 0).int)) _ _))))
  refine ned (by simp; omega) (nedd (by omega) (ned (by simp; omega) (nedd (by omega) (vifd (fun hc => ?_) (fun hc => ar64 (by omega) (skip fun hc2 => hc (by omega)))))));refine nedd (by simp; omega) ⟨⟨hask.1, hask.2, hbad.1, hbad.2⟩, ar64 (by omega) ?_⟩
  change Need (decide (0 <= Sp.qPart qs.xs i.toNat) && decide (Sp.qPart qs.xs i.toNat < (ms.length : Int))) (Need (decide ((Sp.qPart qs.xs i.toNat).toNat < ms.length)) (Ar .i64 ((cel ms (Sp.qPart qs.xs i.toNat).toNat 0).int + 1) fun z => Need (decide (0 <= Sp.qPart qs.xs i.toNat) && decide (Sp.qPart qs.xs i.toNat < (ms.length : Int))) (Need (decide ((Sp.qPart qs.xs i.toNat).toNat < ms.length)) _)))
  exact ned (by simp; omega) (nedd (by omega) (ar64 (by omega) (ned (by simp; omega) (nedd (by omega) (ar64 (by omega) (take ⟨decide_eq_true hb, by omega⟩))))))
 ·refine vifd (fun h => absurd h hi') (fun _ => ?_);rw [show qs.xs.length - i.toNat = 0 by omega] at hk;rw [hlv];exact hk ms mo
noncomputable def Xjx : LE Try.prog := ⟨10, 8, fun W => @Ytz W Xea, Xjh⟩
noncomputable def TL10 : Tab Try.prog := ⟨[Xej, Xem, Xel, Xek, Xb4, Xfm], [Xjx], []⟩
def Zbx [W : InW] (kQ : Ro Ja) (k_Ws : Ro Jb) (b : Int) := Sp.anyL kQ.xs k_Ws.xs b (Int.toNat Zk) (kQ.xs.length - Int.toNat Zk) []
def Zby [W : InW] (kQ : Ro Ja) (k_Ws : Ro Jb) (k_Lo k_Hi b : Int) (Q : DS -> Prop) := Vif (decide (Sp.numE kQ.xs k_Ws.xs k_Lo k_Hi (Zbx kQ k_Ws b) = 6)) (Vif (decide (Sp.numR kQ.xs k_Ws.xs k_Lo k_Hi (Zbx kQ k_Ws b) = 0)) (Pre True (Q [[Cl.b true]])) (Q Zbr)) (Q Zbr)
def Xbm [W : InW] (kQ : Ro Ja) (k_Ws : Ro Jb) (k_Lo k_Hi b : Int) (Q : DS -> Prop) : Prop :=
 Pre True (Vif (!decide (Sp.chkE kQ.xs k_Ws.xs k_Lo k_Hi = 0)) (Pre True (Vif (!decide (Sp.numE kQ.xs k_Ws.xs k_Lo k_Hi [] = Zk)) (Pre True (Q [[Cl.b true]])) (Q Zbr))) (Need (decide ((↑(k_Ws.xs.length) : Int) = (↑(k_Ws.xs.length) : Int)) && decide (Zk <= (↑(k_Ws.xs.length) : Int)) && decide ((8 : Nat) * (↑(k_Ws.xs.length) : Int).toNat <= 281474976710656)) (Pre (Sp.BankV kQ.xs k_Ws.xs k_Lo k_Hi /\ Sp.PreOk kQ.xs k_Ws.xs [] /\ Sp.MOk (Sp.px kQ.xs []) (k_Ws.xs.length) (0 : Nat) (List.replicate (↑(k_Ws.xs.length) : Int).toNat (Ybp [Ty.int IntKind.i64])) /\ Zk = Sp.lvl kQ.xs [] /\ Sp.fstQ [] <= Zk /\ Zk <= 0 /\ Zk <= (↑(kQ.xs.length) : Int)) (Sp.FaM (Sp.MOk (Sp.px kQ.xs (Zbx kQ k_Ws b)) (k_Ws.xs.length) (List.length (Zbx kQ k_Ws b))) fun ys => Pre True (Vif (Sp.eqI ys k_Ws.xs) (Vif (decide (k_Lo <= Sp.lvl kQ.xs (Zbx kQ k_Ws b))) (Pre True (Vif (!decide (Sp.lvl kQ.xs (Zbx kQ k_Ws b) <= k_Hi)) (Zby kQ k_Ws k_Lo k_Hi b Q) (Pre True (Pre True (Vif (decide (Sp.numE kQ.xs k_Ws.xs k_Lo k_Hi (Zbx kQ k_Ws b) = 0)) (Vif (decide (Sp.nthE kQ.xs k_Ws.xs k_Lo k_Hi (Sp.numR kQ.xs k_Ws.xs k_Lo k_Hi (Zbx kQ k_Ws b)) = 0)) (Vif (decide (Sp.chkE kQ.xs k_Ws.xs k_Lo k_Hi = 0)) (Vif (decide (Zk <= Sp.numR kQ.xs k_Ws.xs k_Lo k_Hi (Zbx kQ k_Ws b))) (Vif (decide (Sp.numR kQ.xs k_Ws.xs k_Lo k_Hi (Zbx kQ k_Ws b) < Sp.cntR kQ.xs k_Ws.xs k_Lo k_Hi)) (Pre True (Vif (Sp.eqI (Zbx kQ k_Ws b) (Sp.nthR kQ.xs k_Ws.xs k_Lo k_Hi (Sp.numR kQ.xs k_Ws.xs k_Lo k_Hi (Zbx kQ k_Ws b)))) (Pre True (Q [[Cl.b true]])) (Q Zbr))) (Q Zbr)) (Q Zbr)) (Q Zbr)) (Q Zbr)) (Q Zbr)))))) (Pre True (Zby kQ k_Ws k_Lo k_Hi b Q))) (Pre True (Zby kQ k_Ws k_Lo k_Hi b Q)))))))
theorem Xfd (W : InW) (kQ k_Ws k_Lo k_Hi b Q) : Yw5 (cxT Try.prog TT TL10 1000 50) 1000 10 [.agg [.rs _ kQ, .rs _ k_Ws, .si .i64 k_Lo, .si .i64 k_Hi], .si .u16 b] [] 0 (Y1i [(false, [.bool])] Q) (fun _ _ _ _ => Stuck 421) = Xbm kQ k_Ws k_Lo k_Hi b Q := by kernel_rfl
abbrev X1 : List AT := [.agg [.sl Ja, .sl Jb, .int .i64, .int .i64], .one (.int .u16)]
theorem Xft {pre : DS -> Prop} {res : DS -> DS} (hyp_ : ∀ (W : InW) (kQ : Ro Ja) (k_Ws : Ro Jb) (k_Lo k_Hi b : Int), pre [[.l kQ.xs, .l k_Ws.xs, .i k_Lo, .i k_Hi], [.i b]] -> ∀ Q : DS -> Prop, Q (res [[.l kQ.xs, .l k_Ws.xs, .i k_Lo, .i k_Hi], [.i b]]) -> Xbm kQ k_Ws k_Lo k_Hi b Q) : PureOk Try.prog 10 X1 [(false, [.bool])] pre res :=
 PureOk.of' (fun W => @TT W) (fun W => @Xc W) Xa TL10 1000 50 fun W kQ k_Ws k_Lo k_Hi b hp =>
  (Xfd W kQ k_Ws k_Lo k_Hi b (fun o => o = res [[.l kQ.xs, .l k_Ws.xs, .i k_Lo, .i k_Hi], [.i b]])).mpr (hyp_ W kQ k_Ws k_Lo k_Hi b hp _ rfl)
theorem Xeb : PureOk Try.prog 10 X1 [(false, [.bool])] (WfD X1) fun _ => [[.b true]] :=
 Xft fun W qs ws lo hi b hp Q h => by
  have w1 := Xic (WfL.head (WfD.head (WfD.head hp).2).1).1;unfold Xbm;delta Zby Zbx Zbr Zk;refine ⟨trivial, vifn (fun e => ⟨trivial, vifn (fun _ => ⟨trivial, h⟩) (fun g => absurd g ?_)⟩) (fun e => ?_)⟩
  ·unfold Sp.numE; rw [if_neg e]; exact e
  have bv := Sp.chkE_iff.1 e;have hw := bv.w2;have en : Sp.cntR qs.xs ws.xs lo hi = Sp.total qs.xs ws.xs lo hi := by unfold Sp.cntR; rw [if_pos e]
  refine ned (by simp; omega) ⟨⟨bv, Sp.PreOk_nil bv, Sp.MOk.zero, rfl, Int.le_refl _, by omega, by omega⟩, ⟨fun ms mo => ?_⟩⟩;have po := Sp.anyL_pre bv b qs.xs.length 0 [] (by omega) (Sp.PreOk_nil bv) (Int.le_refl _)
  change Sp.MOk (Sp.px qs.xs (Sp.anyL qs.xs ws.xs b 0 qs.xs.length [])) _ (Sp.anyL qs.xs ws.xs b 0 qs.xs.length []).length ms at mo
  simp only [show Int.toNat 0 = 0 from rfl, Nat.sub_zero];generalize Sp.anyL qs.xs ws.xs b 0 qs.xs.length [] = L at *;have hai := Sp.any_is (lo := lo) (hi := hi) po mo;have hf := Sp.fol_is bv L;have no : Sp.isP qs.xs ws.xs lo hi L = false -> Sp.numE qs.xs ws.xs lo hi L = 6 /\ Sp.numR qs.xs ws.xs lo hi L = 0 := fun g => by
   have h6 : Sp.numE qs.xs ws.xs lo hi L = 6 := by unfold Sp.numE; rw [if_pos e, hf, g, if_neg (by decide)]
   exact ⟨h6, by unfold Sp.numR; rw [h6, if_neg (by decide)]⟩
  refine ⟨trivial, vif (fun g1 => vifd (fun g2 => ⟨trivial, vifn (fun g3 => ?_) (fun g3 => ?_)⟩) (fun g2 => ⟨trivial, ?_⟩)) (fun g1 => ⟨trivial, ?_⟩)⟩
  ·obtain ⟨a, c⟩ := no (by rw [hai, Sp.inr_ff.2 (by omega), Bool.and_false]);exact vifd (fun _ => vifd (fun _ => ⟨trivial, h⟩) (fun g => absurd c g)) (fun g => absurd a g)
  ·have is : Sp.isP qs.xs ws.xs lo hi L = true := by rw [hai, g1, Sp.inr_iff.2 (by omega)]; rfl
   have hE := Sp.numE_is bv is;have hR : Sp.numR qs.xs ws.xs lo hi L = (Sp.fol qs.xs ws.xs lo hi L).1 := by unfold Sp.numR; rw [if_pos hE]
   obtain ⟨n0, n1, n2⟩ := Sp.num_ok (hf.trans is);have hlp := Sp.length_paps qs.xs ws.xs lo hi;rw [en, hR];have hnth := Sp.nthR_in bv n0 (by omega);have he : Sp.eqI L (Sp.nthR qs.xs ws.xs lo hi (Sp.fol qs.xs ws.xs lo hi L).1) = true := by
    rw [hnth];have := (n2 (Sp.fol qs.xs ws.xs lo hi L).1.toNat (by omega)).2 (by omega);rw [Sp.eqI_iff] at this ⊢;exact this.symm
   refine ⟨trivial, trivial, vifd (fun _ => vifd (fun _ => vifd (fun _ => vifd (fun _ => vifd (fun _ => ⟨trivial, ?_⟩) (fun g => absurd (by omega) g)) (fun g => absurd n0 g)) (fun g => absurd e g)) (fun g => absurd (Sp.nthE_in bv n0 (by omega)) g)) (fun g => absurd hE g)⟩;rw [he];exact vif (fun _ => ⟨trivial, h⟩) (fun g => by cases g)
  ·obtain ⟨a, c⟩ := no (by rw [hai, Sp.inr_ff.2 (by omega), Bool.and_false]);exact vifd (fun _ => vifd (fun _ => ⟨trivial, h⟩) (fun g => absurd c g)) (fun g => absurd a g)
  ·obtain ⟨a, c⟩ := no (by rw [hai, g1, Bool.false_and]);exact vifd (fun _ => vifd (fun _ => ⟨trivial, h⟩) (fun g => absurd c g)) (fun g => absurd a g)
end Go.Proofs.Ytilnbgpogfabaaa
namespace Go.Proofs.Ytilnbgpogfabaaa.paperAny
open Go.ChangeShapes Go.WideShapes Go.ChangeAt Go.RowKit
set_option maxRecDepth 100000
theorem own : ownKnob Try.prog.godebug = none := by kernel_rfl
theorem laid : laidOutB Try.prog = true := by kernel_rfl
theorem lifted (os : Os) (started : os.Started) (H : Type) (enc : TypeId × Value -> H) :
  ReturnsInHanded {} Try.checked os 10 .any (Rows.paperAnySpec.pre6 enc Try.prog Try.f10 Rows.paperAnyRow.domain false) (Rows.paperAnySpec.post enc Try.prog Try.f10 false true false false) := by
 refine returnsInHanded_of_change (C := Try.checked) own started (by kernel_rfl) Try.func10
  (ChangeSpec.witness6 (enc := enc) (C := Try.checked) false ⟨#[], #[(.agg #[.slice none 0 0, .slice none 0 0, .int .i64 0, .int .i64 0]), (.int .u16 0)], []⟩ 8 (by kernel_rfl) (by kernel_rfl) (by kernel_rfl) (by kernel_rfl)) ?_
 intro W base args ds gs before hval hW _ _;exact law_end (f := Try.f10) (s := Rows.paperAnySpec) (by kernel_rfl) Try.underlying4 (by kernel_rfl) rfl laid (by kernel_rfl)
  (fun ds h => by match ds, (show ds.length = 2 from h) with | [_, _], _ => exact ⟨rfl, rfl, rfl⟩) Xeb hval hW
theorem over : Rows.paperAnyRow.holds Try.pinned (OpenSpec.ofChange Rows.paperAnySpec) :=
 OpenClaim.holds_of_wide 10 Try.f10 rfl rfl rfl rfl rfl rfl rfl ⟨rfl, rfl, rfl, rfl, rfl⟩ rfl rfl rfl rfl rfl (by kernel_rfl) Try.func10 (by kernel_rfl)
  (of_decide_eq_true (by kernel_rfl)) (by unfold Func.isWrapper; first | (rw [if_pos (by decide +kernel)]; kernel_rfl) | (rw [if_neg (by decide +kernel)]; exact ⟨rfl, rfl⟩))
  (fun os started H enc _ => lifted os started H enc)
theorem proved : Rows.PaperAnySaid := over
end Go.Proofs.Ytilnbgpogfabaaa.paperAny
