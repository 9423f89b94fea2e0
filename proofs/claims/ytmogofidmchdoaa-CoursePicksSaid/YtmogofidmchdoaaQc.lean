/-
  A machine over abstract states, proved sound: the help of the proof of a law.
-/
import Derived.Test.YtmogofidmchdoaaQb
import Derived.Recover
set_option linter.unusedVariables false
set_option linter.unusedSectionVars false
set_option linter.unusedSimpArgs false
namespace Go.Proofs.Ytmogofidmchdoaa
open Go.RowKit
variable [InW]
attribute [local irreducible] Go.Oper.wp
def Yx5 : Oper := { dst := some 1023, op := .call { callee := .value (.const undef), args := #[], argTypes := #[] }, type := 0, pos := "", after := #[], guard := none }
def busyB (L : LI) : Bool := match L.st with | .busy => true | _ => false
def Yow (it : It) (K : LI -> List AV -> Prop) : Prop := match it with | .lp L cs => K L cs | _ => Stuck 96
theorem Yge {it : It} {K : LI -> List AV -> Prop} (h : Yow it K) : ∃ L cs, it = .lp L cs /\ K L cs := by
 unfold Yow at h
 split at h
 ·exact ⟨_, _, rfl, h⟩
 ·exact h.elim
def Yze (j : Option Code) (tm : List AV) (hp : Heap) (K : KX) : Prop :=
 match j with | none => K .norm tm hp | some .ret => K .ret tm hp | some (.exit i) => K (.exit i) tm hp | _ => Stuck 97
def Yvu (li : Nat) (tm : List AV) (hp us nw : Heap) (K : List AV -> Heap -> Prop) : Prop :=
 Yb (Yot nw tm hp) (Yeu hp us fun hp => Yen hp nw fun hp => K tm hp)
def Yxn (c : Cx) (n : Nat) (g : Operand) (ps : Array Tmp) (assign body : Code) (tm : List AV) (hp : Heap) (K : KX) : Prop :=
 Yt2 n [Yx5] tm hp fun tm hp => evK tm g fun gv => funK gv fun gf fa fb => Y1 (maxK hp 1024) fun m => Y1 (3 * m + 3) fun di => Y1 (3 * m + 6) fun li => Yv5 tm fun sn =>
  Yb (Yeo c.P gf) (Yb (Yot [(di, .obj (.dfb true)), (li, .lp ⟨.ready, none, ps, assign, body⟩ (.mp di :: sn))] tm hp)
   (Yen hp [(di, .obj (.dfb true)), (li, .lp ⟨.ready, none, ps, assign, body⟩ (.mp di :: sn))] fun hp1 => appK tm [.held (.mp di)] fun tm1 => appK fa (.yl li :: fb) fun args =>
    c.callH gf args hp1 1023
     (fun _ hs us nw => Yvu li tm1 hp1 us nw fun tm hp => Y9 hp li fun it => Yow it fun L cs => Yb (!busyB L) (updK hp li (.lp { L with st := .exhausted } cs) fun hp => Yze L.pend tm hp K))
     (fun val hs us nw => Yvu li tm1 hp1 us nw fun tm hp => K (.pan val) tm hp)))
theorem Ykz {li : Nat} {tm : List AV} {hp us nw : Heap} {K : List AV -> Heap -> Prop} (h : Yvu li tm hp us nw K) : (NewFor (keys nw) tm hp /\ (keys nw).Nodup /\ ∀ i ∈ keys nw, i % 3 ≠ 1) /\ K tm (Y6 (Yh hp us) nw) := by
 obtain ⟨h1, h2⟩ := Ya h;exact ⟨Yc7 h1, Ycj.1 (Yda.1 h2)⟩
theorem Ynu {P : Program} {g : Operand} {ps : Array Tmp} {assign body : Code} {Q : Exit -> Act -> World -> Prop} {a : Act} {w : World}
  (h : ∀ fn : FuncId, ∃ (l : Nat) (mark : List Deferred) (w₁ : World) (d : Deferred) (f : FuncId) (args : Array Value),
   (Instr.enterLoop fn a.tmps ps assign body none).run P w = .ok (l, mark) w₁ /\ (resolve a.eval (rangeCall g l) 0).run P w₁ = .ok d w₁ /\ (invoke d.target d.args).run P w₁ = .ok (.enter f args) w₁ /\
   Calls P f args w₁ (rangePost Fence.wide 0 P l Q { a with defers := mark ++ a.defers })) : (Code.rangeFunc g ps assign body).wp P Q a w :=
 (wpIn_wide (n := 0)).1 (wpIn_rangeFunc fun fn _ => by
  obtain ⟨l, mark, w₁, d, f, args, h1, h2, h3, h4⟩ := h fn;exact ⟨l, mark, w₁, d, w₁, f, args, w₁, h1, h2, fun _ _ => trivial, h3, fun h => by simp [Fence.wide] at h, callsIn_wide.2 h4⟩)
theorem Yqh {c : Cx} (hc : HandOk c) {n : Nat} {g : Operand} {ps : Array Tmp} {assign body : Code} {tm : List AV} {hp : Heap} {K : KX} (h : Yxn c n g ps assign body tm hp K) :
  ∃ x tm' hp', K x tm' hp' /\ BigT (fun Q a w => (Code.rangeFunc g ps assign body).wp c.P Q a w) tm hp x tm' hp' := by
 obtain ⟨tm0, hp0, h0, hpre⟩ := Yju h;obtain ⟨gv, hj, hg, h1⟩ := Yf h0;obtain ⟨gf, fa, fb, h2, hgv, hgh⟩ := Yhg h1;have h3 := Yi.1 (Yi.1 (Yi.1 h2));generalize 3 * maxK hp0 1024 + 3 = di at h3;generalize 3 * maxK hp0 1024 + 6 = li at h3;obtain ⟨sn, hl, rfl, s1, s2, h4⟩ := Ylk h3;obtain ⟨hok, h5⟩ := Ya h4;obtain ⟨hB0, h6⟩ := Ya h5;have hN := Yc7 hB0;have h7 := Yca.1 (Yca.1 (Ycj.1 h6));clear h h0 h1 h2 h3 h4 h5 h6;have hdl : di ≠ li := fun e => by have := hN.2.1; simp [keys, e] at this
 have hnd0 : ∀ i ∈ keys [(di, It.obj (.dfb true)), (li, It.lp ⟨.ready, none, ps, assign, body⟩ (.mp di :: sn))], AV.hasL i (sn ++ hl) = false /\ hasH i hp0 = false := hN.1;have hli : AV.hasL li (sn ++ hl) = false := (hnd0 li (by simp [keys])).1;have hdi : AV.hasL di (sn ++ hl) = false := (hnd0 di (by simp [keys])).1;have main : ∀ (φ0 φ : Phi) (w0 : World) (M : List Nat) (R : RL) (a : Act) (w : World), RepS φ0 φ w0 M R (sn ++ hl) hp0 a w -> ∀ fn : FuncId, ∃ φ1 : Phi, (φ1 di).b = w.heap.size /\ (φ1 li).b = w.heap.size + 1 /\
   RepS φ0 φ1 w0 M R ((sn ++ hl) ++ [.held (.mp di)]) (Y6 hp0 [(di, .obj (.dfb true)), (li, .lp ⟨.ready, none, ps, assign, body⟩ (.mp di :: sn))]) { a with defers := { target := .collected w.heap.size, args := #[] } :: a.defers }
    ((w.alloc (.deferred (some []))).alloc (.loop { state := .ready, pending := none, fn, tmps := a.tmps, params := ps, assign, body, defers := w.heap.size })) := by
  intro φ0 φ w0 M R a w hr fn
  let φ1 : Phi := fun i => if i = di then ⟨w.heap.size, false, 0, none, 0, undef⟩ else if i = li then ⟨w.heap.size + 1, false, 0, none, fn, undef⟩ else φ i
  have e1 : φ1 di = ⟨w.heap.size, false, 0, none, 0, undef⟩ := by simp [φ1]
  have e2 : φ1 li = ⟨w.heap.size + 1, false, 0, none, fn, undef⟩ := by simp [φ1, Ne.symm hdl]
  have hag : Agree (keys [(di, It.obj (.dfb true)), (li, It.lp ⟨.ready, none, ps, assign, body⟩ (.mp di :: sn))]) φ φ1 := fun i hi => by
   simp only [keys, List.map_cons, List.map_nil, List.mem_cons, List.not_mem_nil, or_false, not_or] at hi;simp [φ1, hi.1, hi.2]
  have esn : AV.concL φ1 sn = AV.concL φ sn := Yq hag sn fun i hi => by
   have := (hnd0 i hi).1;rw [Yj, List.any_append, Bool.or_eq_false_iff] at this;rw [Yj]; exact this.1
  have etm := hr.tmps.snap s1 s2;have hS := (hr.st.alloc (.deferred (some []))).alloc (.loop { state := .ready, pending := none, fn, tmps := a.tmps, params := ps, assign, body, defers := w.heap.size });have hS' : St w0 M (Yc φ1 (Yh [] [] ++ [(di, It.obj (.dfb true)), (li, It.lp ⟨.ready, none, ps, assign, body⟩ (.mp di :: sn))]) ++ (Yc φ (Ybs [] hp0) ++ R)) ((w.alloc (.deferred (some []))).alloc (.loop { state := .ready, pending := none, fn, tmps := a.tmps, params := ps, assign, body, defers := w.heap.size })) := by
   have er : Ybs [] hp0 = hp0 := by simp [Ybs, keys]
   rw [er];have := hS.perm (List.Perm.swap _ _ _);simpa [Yh, Yc, It.conc, e1, e2, OI.obj, LI.obj, defB, AV.concL, AV.conc, esn, etm, World.size_alloc] using this
  have hr1 := hr.new_heap (PartOf.nil hp0) Ye5 hN hag hS' none (.v undef);have hr2 : RepS φ0 φ1 w0 M R (sn ++ hl) (Y6 hp0 [(di, .obj (.dfb true)), (li, .lp ⟨.ready, none, ps, assign, body⟩ (.mp di :: sn))]) a ((w.alloc (.deferred (some []))).alloc (.loop { state := .ready, pending := none, fn, tmps := a.tmps, params := ps, assign, body, defers := w.heap.size })) := hr1;refine ⟨φ1, by rw [e1], by rw [e2], ?_⟩;have hp := hr2.tmps.push (.mp di);have ed : Yd0 φ1 (.mp di) = { target := .collected w.heap.size, args := #[] } := by simp [Yd0, AV.conc, e1]
  rw [ed] at hp;exact ⟨hp, hr2.st, hr2.nd, hr2.base⟩
 generalize hhp1 : Y6 hp0 [(di, It.obj (.dfb true)), (li, It.lp ⟨.ready, none, ps, assign, body⟩ (.mp di :: sn))] = hp1 at h7 main;generalize htm1 : (sn ++ hl) ++ [AV.held (.mp di)] = tm1 at h7 main;have hlk : li ∈ keys hp1 := by
  rw [<- hhp1];exact (Ygg _ _).mem_iff.2 (List.mem_append_left _ (by simp [keys]))
 have hargs : ∀ i, i ≠ li -> AV.hasL i tm1 = false -> AV.hasL i (fa ++ .yl li :: fb) = false := fun i hne hi => by
  rw [<- htm1, Yj, List.any_append, Bool.or_eq_false_iff, <- Yj] at hi;have h9 := hgh i (hg.new hi.1);rw [Yj, List.any_append, <- Yj, <- Yj];simp only [AV.hasL, AV.has, h9.1, h9.2, Y2.2 (Ne.symm hne), Bool.or_self]
 have walk : ∀ (pan : Bool) (val : AV) (hs us nw : Heap) (x : AX) (tm' : List AV) (hp' : Heap), PartOf hs hp1 -> (∀ i ∈ keys us, i ∈ keys hs) -> Yfx c.P gf (fa ++ .yl li :: fb) hs pan val us nw -> (NewFor (keys nw) tm1 hp1 /\ (keys nw).Nodup /\ ∀ i ∈ keys nw, i % 3 ≠ 1) ->
   (∀ (φ0 φ : Phi) (w0 : World) (M : List Nat) (R : RL) (a : Act) (w : World) (l : Nat), RepS φ0 φ w0 M R tm1 (Y6 (Yh hp1 us) nw) a w -> (φ li).b = l -> ∀ Q : Exit -> Act -> World -> Prop,
    (∀ φ' e a' w', x.is φ' e -> RepS φ0 φ' w0 M R tm' hp' a' w' -> Q e a' w') -> rangePost Fence.wide 0 c.P l Q a (Ypt pan (val.conc φ)) w) ->
   BigT (fun Q a w => (Code.rangeFunc g ps assign body).wp c.P Q a w) tm hp x tm' hp' := by
  intro pan val hs us nw x tm' hp' hpart hu hA hB hpost φ0 φ w0 M R a w hr0 Q kk;obtain ⟨φa, hr⟩ := hpre φ0 φ w0 M R a w hr0;refine Ynu fun fn => ?_;obtain ⟨φ1, b1, b2, hr1⟩ := main φ0 φa w0 M R a w hr fn;have eg := hr.tmps.ev hg hj;rw [hgv φa] at eg;refine ⟨w.heap.size + 1, [{ target := .collected w.heap.size, args := #[] }], _, { target := .fn (.func gf) (AV.concL φa fb).toArray, args := (AV.concL φa fa).toArray ++ #[.func (.yield (w.heap.size + 1)) #[] #[]] }, gf, (AV.concL φ1 (fa ++ .yl li :: fb)).toArray, run_enterLoop_outer _ _ _ _ _, ?_, ?_, ?_⟩
  ·simp only [resolve, eg, Deferred.ofValue, Sem.run_bind, Sem.run_pure, Result.andThen_ok];simp [Act.eval]
  ·have ea : AV.concL φ1 fa = AV.concL φa fa /\ AV.concL φ1 fb = AV.concL φa fb := by
    have := hgv φ1;have h8 : gv.conc φ1 = gv.conc φa := by
     have h9 := hr1.tmps;have hm : gv.conc φ1 = a.eval g := by
      cases g with
      | tmp t =>
       have hg1 : (tm1)[t]? = some gv := by
        rw [<- htm1];have hg' : (sn ++ hl)[t]? = some gv := hg;rw [List.getElem?_append_left (List.getElem?_eq_some_iff.1 hg').1];exact hg'
       have := h9.slot t gv hg1 hj;simp [Act.eval, Array.getD_eq_getD_getElem?, this]
      | const k => have hx : gv = .v k := hg; subst hx; rfl
      | global k => exact hg.elim
      | func f => have hx : gv = .fn (.func f) [] [] := hg; subst hx; rfl
     rw [hm, hr.tmps.ev hg hj]
    rw [h8, hgv φa] at this;simp only [Value.func.injEq, true_and] at this;have t1 := congrArg Array.toList this.1;have t2 := congrArg Array.toList this.2;exact ⟨by simpa using t1.symm, by simpa using t2.symm⟩
   simp only [invoke, Yex hok]
   congr 2
   rw [Ybo];simp [AV.concL, AV.conc, b2, ea.1, ea.2]
  ·have hS : St w0 M (Yc φ1 hs ++ (Yc φ1 (Ybs hs hp1) ++ R)) ((w.alloc (.deferred (some []))).alloc (.loop { state := .ready, pending := none, fn, tmps := a.tmps, params := ps, assign, body, defers := w.heap.size })) := by
    have := hr1.st.perm ((Yu (hpart.perm hr1.nd)).append (List.Perm.refl R));rwa [Yn, List.append_assoc] at this
   have hnli : li ∉ keys nw := fun hm => by
    obtain ⟨p, hp', e⟩ := List.mem_map.1 hlk;exact (Yp (hB.1 li hm).2 hp').1 e
   have hnew : NewFor (keys nw) (fa ++ .yl li :: fb) hs := fun i hi => ⟨hargs i (fun e => hnli (e ▸ hi)) (hB.1 i hi).1, Ydy fun p hp' => Yp (hB.1 i hi).2 (Yy (hpart.all p hp'))⟩;refine Calls.mono (hA φ1 w0 M _ _ hnew hS) fun e w' ⟨φ2, hag, he, hS2⟩ => ?_;have hr2 := hr1.new_heap hpart hu hB hag hS2 none (.v undef);subst he;exact hpost φ0 φ2 w0 M R _ w' _ hr2 (by rw [hag li hnli, b2]) Q kk
 rcases hc.call _ _ _ _ _ _ h7 with ⟨val, hs, us, nw, k1, hpart, hu, hA⟩ | ⟨val, hs, us, nw, k1, hpart, hu, hA⟩
 ·obtain ⟨hB, k2⟩ := Ykz k1;obtain ⟨it, k3, k4⟩ := Yg k2;obtain ⟨L, cs, rfl, k5⟩ := Yge k4;obtain ⟨hbz, k6⟩ := Ya k5;have k7 := Ydo.1 k6;have fin : ∀ (x : AX), K x tm1 (upd (Y6 (Yh hp1 us) nw) li (.lp { L with st := .exhausted } cs)) ->
    (∀ (φ : Phi) (a : Act) (w : World) (Q : Exit -> Act -> World -> Prop), (∀ e, x.is φ e -> Q e a w) -> match L.pend with | none => Q .normal a w | some j => j.wpIn Fence.wide 0 c.P Q a w) ->
    ∃ x tm' hp', K x tm' hp' /\ BigT (fun Q a w => (Code.rangeFunc g ps assign body).wp c.P Q a w) tm hp x tm' hp' := by
   intro x hk hj2;refine ⟨x, _, _, hk, walk false val hs us nw x _ _ hpart hu hA hB fun φ0 φ w0 M R a w l hr hl Q kk => ?_⟩;obtain ⟨hb, hr2⟩ := hr.turn k3 (b := l) (o := L.obj (φ li).fn (AV.concL φ cs)) (o' := ({ L with st := .exhausted } : LI).obj (φ li).fn (AV.concL φ cs)) (by simp [It.conc, hl]) (it' := .lp { L with st := .exhausted } cs) (by simp [It.conc, hl]);refine ⟨L.pend, _, run_endLoop hb (by
    intro e;unfold busyB at hbz;simp only at e;rw [e] at hbz;simp at hbz), ?_⟩
   exact hj2 φ a _ Q fun e he => kk φ e a _ he hr2
  unfold Yze at k7
  split at k7
  ·rename_i hp;exact fin .norm k7 fun φ a w Q hq => by rw [hp]; exact hq _ rfl
  ·rename_i hp;exact fin .ret k7 fun φ a w Q hq => by rw [hp]; exact wpIn_ret (hq _ rfl)
  ·rename_i i hp;exact fin (.exit i) k7 fun φ a w Q hq => by rw [hp]; exact wpIn_exit (hq _ rfl)
  ·exact k7.elim
 ·obtain ⟨hB, k2⟩ := Ykz k1;refine ⟨.pan val, _, _, k2, walk true val hs us nw _ _ _ hpart hu hA hB fun φ0 φ w0 M R a w l hr hl Q kk => ?_⟩;exact kk φ _ a w rfl hr
end Go.Proofs.Ytmogofidmchdoaa
namespace Go.Proofs.Ytmogofidmchdoaa
open Go.RowKit
variable [InW]
attribute [local irreducible] Go.Oper.wp
def Ynl (o : Oper) : Option Operand :=
 match o.op, o.guard, o.dst with
 | .defer { callee := .value f, args := ⟨[]⟩, .. }, none, none => some f
 | _, _, _ => none
def Yle (c : Cx) (ol : List Oper) : List Oper -> List AV -> Heap -> KX -> Prop
 | [], tm, hp, K => K .norm tm hp
 | o :: rest, tm, hp, K => match Ynl o with
  | some f => evK tm f fun fv => funK fv fun _ _ _ => appK tm [.held fv] fun tm => Yle c ol rest tm hp K
  | none => Yo7 ol o tm
   (Ysa c o tm hp (fun val hs us nw => Yn8 ol o val fun val => Ypr o.dst tm hp val us nw fun tm hp => Yle c ol rest tm hp K) (fun val hs us nw => Ypr none tm hp val us nw fun tm hp => K (.pan val) tm hp))
   (putK tm o.dst (.v undef) fun tm => Yle c ol rest tm hp K)
theorem Ypf {o : Oper} {f : Operand} (h : Ynl o = some f) : o.guard = none /\ o.dst = none /\ ∃ tys, o.op = .defer { callee := .value f, args := #[], argTypes := tys } := by
 unfold Ynl at h
 split at h
 ·rename_i h1 h2 h3;cases h;exact ⟨h2, h3, _, h1⟩
 ·cases h
section
variable {c : Cx} {ol : List Oper}
theorem Ydn (hc : HandOk c) : ∀ (l : List Oper) (tm : List AV) (hp : Heap) (K : KX), Yle c ol l tm hp K ->
  ∃ x tm' hp', K x tm' hp' /\ BigT (fun Q a w => wpList c.P ol.toArray Q l a w) tm hp x tm' hp'
 | [], tm, hp, K, h => ⟨.norm, tm, hp, h, fun φ0 φ w0 M R a w hr Q kk => kk φ .normal a w rfl hr⟩
 | o :: rest, tm, hp, K, h => by
  unfold Yle at h
  split at h
  ·rename_i f hf;obtain ⟨h1, h2, tys, h3⟩ := Ypf hf;obtain ⟨fv, hj, hfv, h4⟩ := Yf h;obtain ⟨g, fs, cs, h5, h6, _⟩ := Yhg h4;obtain ⟨x, tm', hp', h7, h8⟩ := Ydn hc rest _ _ K (Yca.1 h5);refine ⟨x, tm', hp', h7, fun φ0 φ w0 M R a w hr Q kk => ?_⟩
   show wpList c.P ol.toArray Q (o :: rest) a w
   unfold wpList;have hw : Region.wanted o (yielded ol.toArray a.tmps) = true := by simp only [Region.wanted, h1]
   rw [hw];simp only [if_true];left;have e1 := hr.tmps.ev hfv hj;have hrun : (execOp a.eval o).run c.P w = .ok (.defer (Yd0 φ fv)) w := by
    simp only [execOp, h3, resolve, e1, h6 φ, Deferred.ofValue, Sem.run_bind, Sem.run_pure, Result.andThen_ok, Yd0];simp
   unfold Oper.wp;rw [hrun];simp only [Oper.upon, h2, Act.put];exact h8 φ0 φ w0 M R _ w ⟨hr.tmps.push fv, hr.st, hr.nd, hr.base⟩ Q kk
  ·rcases Ygi h with ⟨hw, h1⟩ | ⟨hw, h1⟩
   ·rcases Yi9 hc h1 with ⟨val, hs, us, nw, h2, hpart, hu, hd⟩ | ⟨val, hs, us, nw, h2, hpart, hu, hd⟩
    ·obtain ⟨val', h2, he⟩ := Yf9 h2
     replace hd := hd.same he
     obtain ⟨hB, h3⟩ := Yep h2;obtain ⟨x, tm', hp', h4, h5⟩ := Ydn hc rest _ _ K h3;refine ⟨x, tm', hp', h4, fun φ0 φ w0 M R a w hr Q kk => ?_⟩
     show wpList c.P ol.toArray Q (o :: rest) a w
     unfold wpList;rw [hw.at hr.tmps];simp only [if_true];exact .inl (Ys7 hd hpart hu hB hr fun φ' w' hr' => h5 φ0 φ' w0 M R _ w' hr' Q kk)
    ·obtain ⟨hB, h3⟩ := Yep h2;refine ⟨.pan val, _, _, h3, fun φ0 φ w0 M R a w hr Q kk => ?_⟩
     show wpList c.P ol.toArray Q (o :: rest) a w
     unfold wpList;rw [hw.at hr.tmps];simp only [if_true];left;have b1 := hB.1;have hS : St w0 M (Yc φ hs ++ (Yc φ (Ybs hs hp) ++ R)) w := by
      have := hr.st.perm ((Yu (hpart.perm hr.nd)).append (List.Perm.refl R));rwa [Yn, List.append_assoc] at this
     refine hd φ w0 M _ a w _ Q (hr.tmps.ops _) (fun i hi => ⟨(b1 i hi).1, Ydy fun p hp' => Yp (b1 i hi).2 (Yy (hpart.all p hp'))⟩) hS fun φ' w' hag hS' => ?_;exact kk φ' _ a w' rfl (hr.new_heap hpart hu hB hag hS' none val)
   ·have h2 := Yey h1;obtain ⟨x, tm', hp', h4, h5⟩ := Ydn hc rest _ _ K h2;refine ⟨x, tm', hp', h4, fun φ0 φ w0 M R a w hr Q kk => ?_⟩
    show wpList c.P ol.toArray Q (o :: rest) a w
    unfold wpList;rw [hw.at hr.tmps];simp only [Bool.false_eq_true, if_false];exact h5 φ0 φ w0 M R _ w (hr.skip o.dst) Q kk
end
inductive Sub (body : Code) : Code -> Prop where
 | refl : Sub body body
 | seqL {a b : Code} : Sub body (.seq a b) -> Sub body a
 | seqR {a b : Code} : Sub body (.seq a b) -> Sub body b
 | condL {x : Operand} {a b : Code} : Sub body (.cond x a b) -> Sub body a
 | condR {x : Operand} {a b : Code} : Sub body (.cond x a b) -> Sub body b
 | block {i : Nat} {a : Code} : Sub body (.block i a) -> Sub body a
 | loop {a : Code} : Sub body (.loop a) -> Sub body a
 | scope {a : Code} : Sub body (.scope a) -> Sub body a
def Ys : Code -> List Code
 | .seq a b => Ys a ++ Ys b
 | .cond _ a b => Ys a ++ Ys b
 | .block _ a => Ys a
 | .loop a => a :: Ys a
 | .scope a => Ys a
 | _ => []
theorem Sub.sub {body cd : Code} (h : Sub body cd) : ∀ x ∈ Ys cd, x ∈ Ys body := by
 induction h with
 | refl => exact fun _ h => h
 | seqL _ ih => exact fun x hx => ih x (by simp [Ys, hx])
 | seqR _ ih => exact fun x hx => ih x (by simp [Ys, hx])
 | condL _ ih => exact fun x hx => ih x (by simp [Ys, hx])
 | condR _ ih => exact fun x hx => ih x (by simp [Ys, hx])
 | block _ ih => exact fun x hx => ih x (by simpa [Ys] using hx)
 | loop _ ih => exact fun x hx => ih x (by simp [Ys, hx])
 | scope _ ih => exact fun x hx => ih x (by simpa [Ys] using hx)
theorem Sub.mem {body a : Code} (h : Sub body (.loop a)) : a ∈ Ys body := h.sub a (by simp [Ys])
def InLoop (P : Program) (c : Code) (Q : Exit -> Act -> World -> Prop) (a : Act) (w : World) : Prop :=
 ∀ (b : Frame) (k : List Item) (cs : List Frame), ∃ e a' w', Q e a' w' /\ Arrives P (lone (b.at a (.code c :: .inLoop c :: k)) cs w) b k cs e a' w'
theorem InLoop.round {P : Program} {c : Code} {Q : Exit -> Act -> World -> Prop} {a : Act} {w : World} (h : c.wp P (Exit.then (InLoop P c Q) Q) a w) : InLoop P c Q a w := by
 intro b k cs;obtain ⟨e, a₁, w₁, hq, harr⟩ := h b (.inLoop c :: k) cs;cases e with
 | normal =>
  obtain ⟨e₂, a₂, w₂, hq₂, harr₂⟩ := hq b k cs;exact ⟨e₂, a₂, w₂, hq₂, .of_steps (Steps.trans harr (.one step_inLoop)) harr₂⟩
 | exit id => exact ⟨_, a₁, w₁, hq, .pass (x := .inLoop c) rfl (fun _ _ => .inl (by simp)) harr⟩
 | goto l => exact ⟨_, a₁, w₁, hq, .pass (x := .inLoop c) rfl (fun _ _ => .inl (by simp)) harr⟩
 | ret => exact ⟨_, a₁, w₁, hq, .pass (x := .inLoop c) rfl (fun _ _ => .inl (by simp)) harr⟩
 | panic ch => exact ⟨_, a₁, w₁, hq, .pass (x := .inLoop c) rfl (fun _ _ => .inl (by simp)) harr⟩
 | outgrown => exact ⟨_, a₁, w₁, hq, .pass (x := .inLoop c) rfl (fun _ _ => .inl (by simp)) harr⟩
theorem InLoop.wp {P : Program} {c : Code} {Q : Exit -> Act -> World -> Prop} {a : Act} {w : World} (h : InLoop P c Q a w) : (Code.loop c).wp P Q a w := by
 intro b k cs;obtain ⟨e, a', w', hq, harr⟩ := h b k cs;exact ⟨e, a', w', hq, .of_steps (.one step_loop) harr⟩
def Yk2 (P : Program) (a : Code) (f : List AV -> Heap -> KX -> Prop) : Prop := ∀ tm hp K, f tm hp K -> ∃ x tm' hp', K x tm' hp' /\ BigT (fun Q ac w => InLoop P a Q ac w) tm hp x tm' hp'
def Yyw (c : Cx) : Prop := ∀ g k f body a, c.loopsOf g k = some f -> (c.P.funcs[g]?).bind (·.body) = some body -> a ∈ Ys body -> Ye9 a = k -> Yk2 c.P a f
structure HandOkL (c : Cx) : Prop extends HandOkR c where
 loops : Yyw c
theorem Yj4 {P : Program} {cd : Code} {body : List AV -> Heap -> KX -> Prop} (hb : ∀ tm hp K, body tm hp K -> ∃ x tm' hp', K x tm' hp' /\ BigT (fun Q a w => cd.wp P Q a w) tm hp x tm' hp') : ∀ (n : Nat) (tm : List AV) (hp : Heap) (K : KX), Yul body n tm hp K ->
  ∃ x tm' hp', K x tm' hp' /\ BigT (fun Q a w => InLoop P cd Q a w) tm hp x tm' hp'
 | 0, tm, hp, K, h => h.elim
 | n + 1, tm, hp, K, h => by
  obtain ⟨x, tm1, hp1, h1, h2⟩ := hb _ _ _ h;have key : (∀ φ e, x.is φ e -> e ≠ .normal) -> K x tm1 hp1 -> ∃ x tm' hp', K x tm' hp' /\ BigT (fun Q a w => InLoop P cd Q a w) tm hp x tm' hp' := fun hx hk => by
   refine ⟨x, tm1, hp1, hk, fun φ0 φ w0 M R a w hr Q kk => InLoop.round (h2 φ0 φ w0 M R a w hr _ (fun φ' e a' w' he hr' => ?_))⟩;have hne := hx φ' e he;cases e <;> first | exact absurd rfl hne | exact kk φ' _ a' w' he hr'
  cases x with
  | norm =>
   obtain ⟨x2, tm2, hp2, h3, h4⟩ := Yj4 hb n _ _ K h1;refine ⟨x2, tm2, hp2, h3, fun φ0 φ w0 M R a w hr Q kk => InLoop.round (h2 φ0 φ w0 M R a w hr _ (fun φ' e a' w' he hr' => ?_))⟩;cases he;exact h4 φ0 φ' w0 M R a' w' hr' Q kk
  | exit i => exact key (fun φ e he => by cases he; simp) h1
  | ret => exact key (fun φ e he => by cases he; simp) h1
  | pan v => exact key (fun φ e he => by cases he; simp) h1
def Yer (c : Cx) (n : Nat) : Code -> List AV -> Heap -> KX -> Prop
 | .seq a b, tm, hp, K => Yer c n a tm hp fun x tm hp => match x with | .norm => Yer c n b tm hp K | x => K x tm hp
 | .region id ops draw, tm, hp, K => match draw, ops.toList.any fun o => (Ynl o).isSome with
  | false, true => Yt2 n ops.toList tm hp fun tm hp => Yle c ops.toList ops.toList tm hp K
  | draw, _ => Yc9 c n (.region id ops draw) tm hp K
 | .cond x a b, tm, hp, K => evK tm x fun v => match v with | .v (.bool t) => vcIf t (Yer c n a tm hp K) (Yer c n b tm hp K) | .sb t => Vif t (Yer c n a tm hp K) (Yer c n b tm hp K) | _ => Stuck 98
 | .block id a, tm, hp, K => Yer c n a tm hp fun x tm hp => match x with | .exit i => (match Nat.beq i id with | true => K .norm tm hp | false => K (.exit i) tm hp) | x => K x tm hp
 | .rangeFunc g ps assign body, tm, hp, K => Yxn c n g ps assign body tm hp K
 | .loop a, tm, hp, K => match c.loopsOf c.fn (Ye9 a) with | some f => f tm hp K | none => Yul (Yer c n a) n tm hp K
 | .scope a, tm, hp, K => Yer c n a tm hp K
 | cd, tm, hp, K => Yc9 c n cd tm hp K
theorem Yf7 {c : Cx} (hcL : HandOkL c) (hm : c.P.follows .mixedOrders = true) (n : Nat) {root : Code} (hroot : (c.P.funcs[c.fn]?).bind (·.body) = some root) : ∀ (cd : Code), Sub root cd -> ∀ (tm : List AV) (hp : Heap) (K : KX), Yer c n cd tm hp K -> ∃ x tm' hp', K x tm' hp' /\ BigT (fun Q a w => cd.wp c.P Q a w) tm hp x tm' hp' := by
 have hcR' := hcL.toHandOkR;have plain : ∀ (cd : Code) (tm : List AV) (hp : Heap) (K : KX), Yc9 c n cd tm hp K -> ∃ x tm' hp', K x tm' hp' /\ BigT (fun Q a w => cd.wp c.P Q a w) tm hp x tm' hp' := fun cd tm hp K h => by
  obtain ⟨x, tm', hp', h1, h2⟩ := Y0 hcR' hm n cd tm hp K h;exact ⟨x, tm', hp', h1, (h2.mono fun Q a w hw => (wpIn_wide (n := 0)).1 (hw none)).top⟩
 have hcR := hcL.toHandOkR;have hc := hcR.toHandOk;intro cd
 induction cd with
 | seq a b iha ihb =>
  intro hsub tm hp K h;obtain ⟨x, tm1, hp1, h1, h2⟩ := iha hsub.seqL tm hp _ h;have key : (∀ φ e, x.is φ e -> e ≠ .normal) -> K x tm1 hp1 -> ∃ x tm' hp', K x tm' hp' /\ BigT (fun Q a' w => (Code.seq a b).wp c.P Q a' w) tm hp x tm' hp' := fun hx hk => by
   refine ⟨x, tm1, hp1, hk, fun φ0 φ w0 M R ac w hr Q kk => wp_seq (h2 φ0 φ w0 M R ac w hr _ fun φ' e a' w' he hr' => ?_)⟩;have hne := hx φ' e he;cases e <;> first | exact absurd rfl hne | exact kk φ' _ a' w' he hr'
  cases x with
  | norm =>
   obtain ⟨x2, tm2, hp2, h3, h4⟩ := ihb hsub.seqR tm1 hp1 K h1;refine ⟨x2, tm2, hp2, h3, fun φ0 φ w0 M R ac w hr Q kk => wp_seq (h2 φ0 φ w0 M R ac w hr _ fun φ' e a' w' he hr' => ?_)⟩;cases he;exact h4 φ0 φ' w0 M R a' w' hr' Q kk
  | exit i => exact key (fun φ e he => by cases he; simp) h1
  | ret => exact key (fun φ e he => by cases he; simp) h1
  | pan v => exact key (fun φ e he => by cases he; simp) h1
 | region id ops draw =>
  intro hsub tm hp K h;obtain ⟨l⟩ := ops;unfold Yer at h
  split at h
  ·obtain ⟨tm1, hp1, h0, hpre⟩ := Yju h;obtain ⟨x, tm', hp', h1, h2⟩ := Ydn hc l tm1 hp1 K h0;refine ⟨x, tm', hp', h1, fun φ0 φ w0 M R a w hr Q kk => ?_⟩;obtain ⟨φ', hr'⟩ := hpre φ0 φ w0 M R a w hr;exact wp_region_lit (h2 φ0 φ' w0 M R a w hr' Q kk)
  ·exact plain _ tm hp K h
 | cond x a b iha ihb =>
  intro hsub tm hp K h;obtain ⟨v, hj, hx, h1⟩ := Yf h
  try dsimp only at h1
  split at h1
  ·rcases Yes h1 with ⟨rfl, h2⟩ | ⟨rfl, h2⟩
   ·obtain ⟨x', tm', hp', h3, h4⟩ := iha hsub.condL tm hp K h2;exact ⟨x', tm', hp', h3, fun φ0 φ w0 M R ac w hr Q kk => wp_cond_true (hr.tmps.ev hx (by simp)) (h4 φ0 φ w0 M R ac w hr Q kk)⟩
   ·obtain ⟨x', tm', hp', h3, h4⟩ := ihb hsub.condR tm hp K h2;exact ⟨x', tm', hp', h3, fun φ0 φ w0 M R ac w hr Q kk => wp_cond_false (hr.tmps.ev hx (by simp)) (h4 φ0 φ w0 M R ac w hr Q kk)⟩
  ·rcases Vif.spec h1 with ⟨rfl, h2⟩ | ⟨rfl, h2⟩
   ·obtain ⟨x', tm', hp', h3, h4⟩ := iha hsub.condL tm hp K h2;exact ⟨x', tm', hp', h3, fun φ0 φ w0 M R ac w hr Q kk => wp_cond_true (hr.tmps.ev hx (by simp)) (h4 φ0 φ w0 M R ac w hr Q kk)⟩
   ·obtain ⟨x', tm', hp', h3, h4⟩ := ihb hsub.condR tm hp K h2;exact ⟨x', tm', hp', h3, fun φ0 φ w0 M R ac w hr Q kk => wp_cond_false (hr.tmps.ev hx (by simp)) (h4 φ0 φ w0 M R ac w hr Q kk)⟩
  ·exact h1.elim
 | block id a iha =>
  intro hsub tm hp K h;obtain ⟨x, tm1, hp1, h1, h2⟩ := iha hsub.block tm hp _ h;cases x with
  | exit i =>
   cases hb : Nat.beq i id with
   | true =>
    simp only [hb] at h1;refine ⟨.norm, tm1, hp1, h1, fun φ0 φ w0 M R ac w hr Q kk => wp_block (h2 φ0 φ w0 M R ac w hr _ fun φ' e a' w' he hr' => ?_)⟩;cases he;simp only [Exit.inBlock, Ye.1 hb, if_true];exact kk φ' .normal a' w' rfl hr'
   | false =>
    simp only [hb] at h1;refine ⟨.exit i, tm1, hp1, h1, fun φ0 φ w0 M R ac w hr Q kk => wp_block (h2 φ0 φ w0 M R ac w hr _ fun φ' e a' w' he hr' => ?_)⟩;cases he;simp only [Exit.inBlock, Y2.1 hb, if_false];exact kk φ' _ a' w' rfl hr'
  | norm => exact ⟨.norm, tm1, hp1, h1, fun φ0 φ w0 M R ac w hr Q kk => wp_block (h2 φ0 φ w0 M R ac w hr _ fun φ' e a' w' he hr' => by cases he; exact kk φ' _ a' w' rfl hr')⟩
  | ret => exact ⟨.ret, tm1, hp1, h1, fun φ0 φ w0 M R ac w hr Q kk => wp_block (h2 φ0 φ w0 M R ac w hr _ fun φ' e a' w' he hr' => by cases he; exact kk φ' _ a' w' rfl hr')⟩
  | pan v => exact ⟨.pan v, tm1, hp1, h1, fun φ0 φ w0 M R ac w hr Q kk => wp_block (h2 φ0 φ w0 M R ac w hr _ fun φ' e a' w' he hr' => by cases he; exact kk φ' _ a' w' rfl hr')⟩
 | rangeFunc g ps assign body _ _ => intro _ tm hp K h; exact Yqh hc h
 | loop a iha =>
  intro hsub tm hp K h;unfold Yer at h
  split at h
  ·rename_i f hf;obtain ⟨x, tm', hp', h1, h2⟩ := hcL.loops _ _ f root a hf hroot hsub.mem rfl tm hp K h;exact ⟨x, tm', hp', h1, fun φ0 φ w0 M R ac w hr Q kk => InLoop.wp (h2 φ0 φ w0 M R ac w hr Q kk)⟩
  ·obtain ⟨x, tm', hp', h1, h2⟩ := Yj4 (fun tm hp K h => iha hsub.loop tm hp K h) n tm hp K h;exact ⟨x, tm', hp', h1, fun φ0 φ w0 M R ac w hr Q kk => InLoop.wp (h2 φ0 φ w0 M R ac w hr Q kk)⟩
 | scope a iha =>
  intro hsub tm hp K h;obtain ⟨x, tm', hp', h1, h2⟩ := iha hsub.scope tm hp K h;refine ⟨x, tm', hp', h1, fun φ0 φ w0 M R ac w hr Q kk => wp_scope_straight (h2 φ0 φ w0 M R ac w hr _ fun φ' e a' w' he hr' => ?_)⟩;have hg : ∀ l, e ≠ .goto l := fun l hl => by subst hl; cases x <;> cases he
  cases e <;> first | exact kk φ' _ a' w' he hr' | exact absurd rfl (hg _)
 | _ => intro _ tm hp K h; exact plain _ tm hp K h
inductive PS where
 | run
 | live (v : Value)
 | done (v : Value)
def PS.mode : PS -> FrameMode
 | .run => .returning
 | .live v => .panicking [{ v, recovered := false }]
 | .done v => .panicking [{ v, recovered := true }]
end Go.Proofs.Ytmogofidmchdoaa
namespace Go.Proofs.Ytmogofidmchdoaa
open Go.RowKit
variable [InW]
attribute [local irreducible] Go.Oper.wp
def Ydx : List AV -> Bool
 | [] => true
 | x :: xs => match x with | .held _ => false | _ => Ydx xs
theorem Ye6 : ∀ {xs : List AV}, Ydx xs = true -> Ybl xs = [] /\ ∀ (t : Nat) (v : AV), xs[t]? = some v -> v.isHeld = false
 | [], _ => ⟨rfl, by simp⟩
 | x :: xs, h => by
  unfold Ydx at h
  split at h
  ·cases h
  ·rename_i hh;have hx : x.isHeld = false := by cases x <;> first | rfl | (exfalso; exact hh _ rfl)
   obtain ⟨a, b⟩ := Ye6 h;refine ⟨by rw [Ybd, a]; cases x <;> simp_all [AV.isHeld], fun t v hv => ?_⟩;cases t with
   | zero => simp only [List.getElem?_cons_zero, Option.some.injEq] at hv; rw [<- hv, hx]
   | succ t => exact b t v (by simpa using hv)
theorem Yh2 : ∀ (a b : List AV), Ybl (a ++ b) = Ybl a ++ Ybl b
 | [], b => rfl
 | x :: a, b => by rw [List.cons_append, Ybd, Ybd, Yh2 a b, List.append_assoc]
theorem Yfd : ∀ n : Nat, Ybl (List.replicate n (.v undef)) = []
 | 0 => rfl
 | n + 1 => by rw [List.replicate_succ, Ybd, Yfd n]; rfl
theorem Ylj {args : List AV} (h : Ydx args = true) (n : Nat) : Ybl (AV.renL rIn args ++ List.replicate n (.v undef)) = [] /\ ∀ (t : Nat) (v : AV), (AV.renL rIn args ++ List.replicate n (.v undef))[t]? = some v -> v.isHeld = false := by
 obtain ⟨a, b⟩ := Ye6 h;refine ⟨by rw [Yh2, Yh1, a, Yfd]; rfl, fun t v hv => ?_⟩;rw [List.getElem?_append] at hv
 split at hv
 ·rw [Ygw, Option.map_eq_some_iff] at hv;obtain ⟨u, hu, rfl⟩ := hv;rw [Ym5]; exact b t u hu
 ·rw [List.getElem?_replicate] at hv
  split at hv
  ·cases hv; rfl
  ·cases hv
theorem Ypd {args : List AV} {hs : Heap} (hnoh : Ydx args = true) (hnd : (keys hs).Nodup) (m : Nat) (φ : Phi) (w0 : World) (M : List Nat) (R : RL) (w : World) (hS : St w0 M (Yc φ hs ++ R) w) :
  RepS φ (fun i => if i % 3 = 1 then φ (i / 3) else ⟨0, false, 0, none, 0, undef⟩) w0 M R (AV.renL rIn args ++ List.replicate (m - (AV.renL rIn args).length) (.v undef)) (renH rIn hs)
   { tmps := (AV.concL φ args).toArray ++ Array.replicate (m - (AV.concL φ args).toArray.size) undef, defers := [] } w := by
 have hin : ∀ i, (fun i => if i % 3 = 1 then φ (i / 3) else (⟨0, false, 0, none, 0, undef⟩ : Hd)) (rIn i) = φ i := fun i => by
  have h1 : (3 * i + 1) % 3 = 1 := by omega
  have h2 : (3 * i + 1) / 3 = i := by omega
  simp only [rIn, h1, h2, if_true]
 have ea := Yby (p := fun _ => true) (ρ := rIn) (φ := φ) (φ' := fun i => if i % 3 = 1 then φ (i / 3) else (⟨0, false, 0, none, 0, undef⟩ : Hd)) (fun i _ => hin i) args (Ydg args);have hl : (AV.renL rIn args).length = args.length := by
  have := congrArg List.length ea;simpa [Yd] using this
 have hnh : ∀ (t : Nat) (v : AV), (AV.renL rIn args ++ List.replicate (m - (AV.renL rIn args).length) (.v undef))[t]? = some v -> v.isHeld = false -> t < ((AV.concL φ args).toArray ++ Array.replicate (m - (AV.concL φ args).toArray.size) undef).size := fun t v hv _ => by
  have := (List.getElem?_eq_some_iff.1 hv).1;simpa [Yd, hl] using this
 refine ⟨⟨hnh, fun t v hv hh => ?_, fun t v hv hj => ?_, ?_, by simp [Yd, hl]⟩, ?_, ?_, fun x => ?_⟩
 ·rw [(Ylj hnoh _).2 t v hv] at hh; cases hh
 ·rw [Array.getElem?_append, List.getElem?_append] at *;simp only [List.size_toArray, Yd, hl] at hv ⊢
  split
  ·rename_i hlt;rw [if_pos hlt] at hv;have := Yb9 (fun i => if i % 3 = 1 then φ (i / 3) else (⟨0, false, 0, none, 0, undef⟩ : Hd)) (AV.renL rIn args) t;rw [ea, hv] at this;simpa using this
  ·rename_i hge;rw [if_neg hge] at hv;rw [List.getElem?_replicate] at hv
   split at hv
   ·rename_i hlt;cases hv;rw [Array.getElem?_replicate, if_pos hlt];rfl
   ·cases hv
 ·rw [(Ylj hnoh _).1]; rfl
 ·have e : Yc (fun i => if i % 3 = 1 then φ (i / 3) else (⟨0, false, 0, none, 0, undef⟩ : Hd)) (renH rIn hs) = Yc φ hs := by
   unfold Yc renH;rw [List.map_map];refine List.map_congr_left fun q _ => ?_;exact Yl9 (p := fun _ => true) (φ := φ) (φ' := fun i => if i % 3 = 1 then φ (i / 3) else (⟨0, false, 0, none, 0, undef⟩ : Hd)) (ρ := rIn) (fun i _ => hin i) (hin q.1) q.2 (Ykb q.2)
  rw [e];exact hS
 ·rw [Yo3]; exact Yos hnd
 ·exact hin x
def defK (c : Cx) (n : Nat) (g : FuncId) (args : List AV) (hp : Heap) (ps : PS) (k : PS -> Heap -> Heap -> Heap -> Prop) : Prop := Stuck 77
def ADef (P : Program) (g : FuncId) (args : List AV) (hs : Heap) (ps ps' : PS) (us nw : Heap) : Prop :=
 ∀ (φ : Phi) (w0 : World) (M : List Nat) (R : RL) (w : World), NewFor (keys nw) args hs -> St w0 M (Yc φ hs ++ R) w ->
  CallsD P g (AV.concL φ args).toArray ps.mode w fun e um w' => um = ps'.mode /\ (∃ v, e = .returned v) /\ ∃ φ', Agree (keys nw) φ φ' /\ St w0 M (Yc φ' (Yh hs us ++ nw) ++ R) w'
theorem Yu3 {c : Cx} (hc : HandOkR c) (hm : c.P.follows .mixedOrders = true) {n : Nat} {g : FuncId} {args : List AV} {hp : Heap} {ps : PS} {k : PS -> Heap -> Heap -> Heap -> Prop} (h : defK c n g args hp ps k) :
  ∃ ps' hs us nw, k ps' hs us nw /\ PartOf hs hp /\ (∀ i ∈ keys us, i ∈ keys hs) /\ ADef c.P g args hs ps ps' us nw := h.elim
def Yd2 (P : Program) (fn : Func) (tmps : Array Value) (R : Ending -> World -> Prop) : List Deferred -> FrameMode -> World -> Prop
  | [], u, w => Leaves P fn tmps R [] u w
  | d :: ds, u, w => u ≠ .run /\
      ((∃ r w', d.target = .collected r /\ (Instr.takeDeferred r).run P w = .ok [] w' /\ Yd2 P fn tmps R ds u w') \/
       (∃ fv cap f args, d.target = .fn fv cap /\ (invoke d.target d.args).run P w = .ok (.enter f args) w /\ CallsD P f args u w fun
          | .returned _, u', w' => Yd2 P fn tmps R ds (settle u') w'
          | .panicked chain, u', w' => Yd2 P fn tmps R ds (raised u' chain) w'
          | .outgrown, _, w' => R .outgrown w'))
theorem Yel {P : Program} {fn : Func} {tmps : Array Value} {R : Ending -> World -> Prop} : ∀ (ds : List Deferred) (u : FrameMode) (w : World) (fr : Frame) (cs : List Frame), fr.mode = u -> fr.defers = ds -> fr.tmps = tmps -> P.funcs[fr.fn]? = some fn -> fr.kind = .normal -> Yd2 P fn tmps R ds u w ->
  ∃ e w' fr', R e w' /\ Comes P (lone fr cs w) (lone fr' cs w') e /\ fr'.fn = fr.fn /\ fr'.leaving P w' e := by
 intro ds
 induction ds with
 | nil =>
  intro u w fr cs hu hd ht hf hk h;exact leaves_steps [] u w fr cs hu hd ht hf hk h
 | cons d ds ih =>
  intro u w fr cs hu hd ht hf hk h;obtain ⟨hrun, h⟩ := h;rcases h with ⟨r, w', htar, htake, hrest⟩ | ⟨fv, cap, f, args, htar, hinv, hcall⟩
  ·have h1 := step_collected (cs := cs) (hu ▸ hrun) hd htar htake;obtain ⟨e', w'', fr', hR', hs', hfn', hl'⟩ := ih u w' { fr with defers := [] ++ ds } cs hu rfl ht hf hk hrest;exact ⟨e', w'', fr', hR', Comes.of_steps (.one h1) hs', hfn', hl'⟩
  ·have h1 := step_defer (cs := cs) (hu ▸ hrun) hd htar hinv;obtain ⟨e, u', w', frX, hR, hsteps, hkX, hgo⟩ := hcall { fr with defers := ds } cs hu;cases e with
   | returned v =>
    have h2 := step_going_returned (c := { { fr with defers := ds } with mode := u' }) (cs := cs) hkX hgo;obtain ⟨e', w'', fr', hR', hs', hfn', hl'⟩ := ih (settle u') w' { { { fr with defers := ds } with mode := u' } with mode := settle u' } cs rfl rfl ht hf hk hR;exact ⟨e', w'', fr', hR', Comes.of_steps (.head h1 (Steps.trans hsteps (.one h2))) hs', hfn', hl'⟩
   | panicked chain =>
    have h2 := step_going_panicked (c := { { fr with defers := ds } with mode := u' }) (cs := cs) hgo;obtain ⟨e', w'', fr', hR', hs', hfn', hl'⟩ := ih (raised u' chain) w' { { { fr with defers := ds } with mode := u' } with mode := raised u' chain } cs rfl rfl ht hf hk hR;exact ⟨e', w'', fr', hR', Comes.of_steps (.head h1 (Steps.trans hsteps (.one h2))) hs', hfn', hl'⟩
   | outgrown => exact ⟨.outgrown, w', fr, hR, Outgrown.of_steps (.one h1) hsteps, rfl, trivial⟩
def Ykq (P : Program) (fn : Func) (R : Ending -> World -> Prop) : Exit -> Act -> World -> Prop
 | .normal, a, w | .ret, a, w => Yd2 P fn a.tmps R a.defers .returning w
 | .panic chain, a, w => Yd2 P fn a.tmps R a.defers (.panicking chain) w
 | .outgrown, _, w => R .outgrown w
 | _, _, _ => False
theorem Yec {P : Program} {f : FuncId} {fn : Func} {c : Code} {args : Array Value} {w : World} {R : Ending -> World -> Prop} (hf : P.funcs[f]? = some fn) (hb : fn.body = some c)
  (h : c.wp P (Ykq P fn R) { tmps := args ++ Array.replicate (fn.ntmps - args.size) undef, defers := [] } w) : Calls P f args w R := by
 intro cs
 let b : Frame := { (default : Frame) with fn := f, kind := .normal }
 have henter : Frame.enter P f args .normal = b.at { tmps := args ++ Array.replicate (fn.ntmps - args.size) undef, defers := [] } [.code c] := by
  simp [Frame.enter, Frame.at, hf, hb, b]
 obtain ⟨e, a', w', hq, harr⟩ := h b [] cs;rw [<- henter] at harr;cases e with
 | normal =>
  obtain ⟨e', w'', fr', hR, hs, hfn, hl⟩ := Yel a'.defers .returning w' { b.at a' [] with mode := .returning } cs rfl rfl rfl hf rfl hq;exact ⟨e', w'', fr', hR, Comes.of_steps (Steps.trans harr (.one step_end)) hs, hfn, hl⟩
 | ret =>
  obtain ⟨todo, hs₀⟩ := harr;obtain ⟨e', w'', fr', hR, hs, hfn, hl⟩ := Yel a'.defers .returning w' { b.at a' todo with mode := .returning } cs rfl rfl rfl hf rfl hq;exact ⟨e', w'', fr', hR, Comes.of_steps hs₀ hs, hfn, hl⟩
 | panic chain =>
  obtain ⟨todo, hs₀⟩ := harr;obtain ⟨e', w'', fr', hR, hs, hfn, hl⟩ := Yel a'.defers (.panicking chain) w' { b.at a' todo with mode := .panicking chain } cs rfl rfl rfl hf rfl hq;exact ⟨e', w'', fr', hR, Comes.of_steps hs₀ hs, hfn, hl⟩
 | exit id => exact hq.elim
 | goto l => exact hq.elim
 | outgrown => exact ⟨.outgrown, w', b, hq, harr.resolve_left (by simp [b]), rfl, trivial⟩
def PS.settle : PS -> PS
 | .done _ => .run
 | ps => ps
theorem Yqb (ps : PS) : Go.settle ps.mode = ps.settle.mode := by cases ps <;> rfl
def Yzc (f : AV) (K : Nat -> Prop) (K' : Prop) : Prop := match f with | .mp i => K i | _ => K'
def dfbK (it : It) (K : Prop) : Prop := match it with | .obj (.dfb true) => K | _ => Stuck 94
theorem Yu2 {it : It} {K : Prop} (h : dfbK it K) : it = .obj (.dfb true) /\ K := by
 unfold dfbK at h
 split at h
 ·exact ⟨rfl, h⟩
 ·exact h.elim
def Yht (c : Cx) (n : Nat) (tm : List AV) : List AV -> PS -> Heap -> (PS -> Heap -> Prop) -> Prop
 | [], ps, hp, K => K ps hp
 | f :: fs, ps, hp, K => Yzc f (fun i => Y9 hp i fun it => dfbK it (updK hp i (.obj (.dfb false)) fun hp => Yht c n tm fs ps hp K)) (funK f fun g a b => Yb (Yeo c.P g) (appK a b fun args => defK c n g args hp ps fun ps' hs us nw =>
   Yb (Yot nw tm hp) (Yeu hp us fun hp => Yen hp nw fun hp => Yht c n tm fs ps'.settle hp K)))
theorem Ydp {c : Cx} (hc : HandOkR c) (hm : c.P.follows .mixedOrders = true) {n : Nat} {tm : List AV} : ∀ (fs : List AV) (ps : PS) (hp : Heap) (K : PS -> Heap -> Prop), (∀ f ∈ fs, AV.held f ∈ tm) -> Yht c n tm fs ps hp K ->
  ∃ ps' hp', K ps' hp' /\ ∀ (φ0 φ : Phi) (w0 : World) (M : List Nat) (R : RL) (a : Act) (w : World), RepS φ0 φ w0 M R tm hp a w -> ∀ (fn : Func) (Rp : Ending -> World -> Prop),
   (∀ φ' w', RepS φ0 φ' w0 M R tm hp' a w' -> Leaves c.P fn a.tmps Rp [] ps'.mode w') -> Yd2 c.P fn a.tmps Rp (fs.map (Yd0 φ)) ps.mode w
 | [], ps, hp, K, _, h => ⟨ps, hp, h, fun φ0 φ w0 M R a w hr fn Rp kk => kk φ w hr⟩
 | f :: fs, ps, hp, K, hmem, h => by
  unfold Yht Yzc at h
  split at h
  ·rename_i i;obtain ⟨it, k1, k2⟩ := Yg h;obtain ⟨rfl, k3⟩ := Yu2 k2;obtain ⟨ps', hp', h7, h8⟩ := Ydp hc hm fs _ _ K (fun f hf => hmem f (List.mem_cons_of_mem _ hf)) (Ydo.1 k3);refine ⟨ps', hp', h7, fun φ0 φ w0 M R ac w hr fn Rp kk => ?_⟩;have hne : ps.mode ≠ .run := by cases ps <;> simp [PS.mode]
   obtain ⟨hb, hr2⟩ := hr.turn k1 (b := (φ i).b) (o := .deferred (some [])) (o' := .deferred none) (it' := .obj (.dfb false)) rfl rfl;rw [List.map_cons];exact ⟨hne, .inl ⟨(φ i).b, _, rfl, run_takeDeferred hb, h8 φ0 φ w0 M R ac _ hr2 fn Rp kk⟩⟩
  obtain ⟨g, a, b, h1, h2, h3⟩ := Yhg h;obtain ⟨hok, h4⟩ := Ya h1;obtain ⟨ps1, hs, us, nw, h5, hpart, hu, hA⟩ := Yu3 hc hm (Yca.1 h4);obtain ⟨hB, h6⟩ := Ya h5;obtain ⟨ps', hp', h7, h8⟩ := Ydp hc hm fs _ _ K (fun f hf => hmem f (List.mem_cons_of_mem _ hf)) (Ycj.1 (Yda.1 h6));have hB' := Yc7 hB;refine ⟨ps', hp', h7, fun φ0 φ w0 M R ac w hr fn Rp kk => ?_⟩;have e1 : Yd0 φ f = { target := .fn (.func g) (AV.concL φ b).toArray, args := (AV.concL φ a).toArray } := by unfold Yd0; rw [h2 φ]
  have hne : ps.mode ≠ .run := by cases ps <;> simp [PS.mode]
  have hi : (invoke (.fn (.func g) (AV.concL φ b).toArray) (AV.concL φ a).toArray).run c.P w = .ok (.enter g (AV.concL φ (a ++ b)).toArray) w := by
   rw [Ybo];simp only [invoke, Yex hok];simp
  rw [List.map_cons, e1];refine ⟨hne, .inr ⟨_, _, _, _, rfl, hi, ?_⟩⟩;have hS : St w0 M (Yc φ hs ++ (Yc φ (Ybs hs hp) ++ R)) w := by
   have := hr.st.perm ((Yu (hpart.perm hr.nd)).append (List.Perm.refl R));rwa [Yn, List.append_assoc] at this
  have hnew : NewFor (keys nw) (a ++ b) hs := fun i hi => by
   have hh := h3 i (by have := Yhf (hB'.1 i hi).1 (hmem f List.mem_cons_self); simpa [AV.has] using this);refine ⟨by rw [Yj, List.any_append, <- Yj, <- Yj, hh.1, hh.2]; rfl, Ydy fun p hp' => Yp (hB'.1 i hi).2 (Yy (hpart.all p hp'))⟩
  refine CallsD.mono (hA φ w0 M _ w hnew hS) fun e um w' ⟨hum, ⟨v, hv⟩, φ', hag, hS'⟩ => ?_;subst hv hum;have hr2 := hr.new_heap hpart hu hB' hag hS' none (.v undef);have := h8 φ0 φ' w0 M R ac w' hr2 fn Rp kk;have e2 : fs.map (Yd0 φ') = fs.map (Yd0 φ) := List.map_congr_left fun f' hf' => by
   unfold Yd0;rw [Yea hag f' fun i hi => by have := Yhf (hB'.1 i hi).1 (hmem f' (List.mem_cons_of_mem _ hf')); simpa [AV.has] using this]
  rw [e2] at this
  show Yd2 c.P fn ac.tmps Rp (fs.map (Yd0 φ)) (Go.settle ps1.mode) w'
  rw [Yqb];exact this
end Go.Proofs.Ytmogofidmchdoaa
namespace Go.Proofs.Ytmogofidmchdoaa
open Go.RowKit
variable [InW]
attribute [local irreducible] Go.Oper.wp
def Yxm (L : LI) : Bool := match L.st with | .ready => true | _ => false
def Yhk (n d i : Nat) (hs : Heap) (j : Option Code) (b : Bool) (st : LoopState) (hp : Heap) (k : KE) : Prop :=
 Y9 hp (rIn i) fun it => Yow it fun L cs => updK hp (rIn i) (.lp { L with st := st, pend := j } cs) fun hp => Yo1 n d hs (.v (.bool b)) hp k
def Ytz (c : Cx) (n : Nat) (L : LI) (i : Nat) (args : List AV) (hp : Heap) (d : Nat) (k : KE) : Prop :=
 Yb (Ydx args) (Yf0 (fun _ => true) hp n (i :: AV.leadL args []) [] fun hs => Y9 hs i fun _ => Ygx rIn args fun tm0 => Ysq rIn hs fun hp0 =>
  Yc9 c n L.assign tm0 hp0 fun x tm hp => match x with
   | .norm => Y9 hp (rIn i) fun it => Yow it fun L1 cs => Yb (Yxm L1) (updK hp (rIn i) (.lp { L1 with st := .busy } cs) fun hp =>
     Yc9 c n L.body tm hp fun x tm hp => match x with
      | .norm => Yhk n d i hs none true .ready hp k
      | .ret => Yhk n d i hs (some .ret) false .done hp k
      | .exit id => Yhk n d i hs (some (.exit id)) false .done hp k
      | .pan _ => Stuck 100)
   | _ => Stuck 99)
theorem Yqf {c : Cx} (hc : HandOkR c) (hm : c.P.follows .mixedOrders = true) {n : Nat} {L : LI} {i : Nat} {args : List AV} {hp : Heap} {d : Nat} {k : KE} (h : Ytz c n L i args hp d k) :
  ∃ val hs us nw, k val hs us nw /\ PartOf hs hp /\ (∀ i ∈ keys us, i ∈ keys hs) /\ i ∈ keys hs /\ Yr8 c.P L i args hs val us nw := by
 obtain ⟨hnoh, h⟩ := Ya h;obtain ⟨hs, hpart, _, h1⟩ := Ybv (PartOf.nil hp) (by simp [keys]) h;obtain ⟨it0, hit0, h1⟩ := Yg h1;have h2 := Ygz.1 ((Yb7 _ _ _).1 h1);obtain ⟨x1, tm1, hp1, h3, hA⟩ := Y0 hc hm n L.assign _ _ _ h2;have hx1 : x1 = .norm := by cases x1 <;> first | rfl | exact h3.elim
 subst hx1;dsimp only at h3;obtain ⟨it1, l1, h4⟩ := Yg h3;obtain ⟨L1, cs1, rfl, h5⟩ := Yge h4;obtain ⟨hrd, h6⟩ := Ya h5;obtain ⟨x2, tm2, hp2, h7, hBd⟩ := Y0 hc hm n L.body _ _ _ (Ydo.1 h6);have hready : L1.st = .ready := by
  unfold Yxm at hrd
  split at hrd
  ·assumption
  ·cases hrd
 have fin : ∀ (j : Option Code) (b : Bool) (st : LoopState), b = j.isNone -> st = (if j.isNone then .ready else .done) -> Yhk n d i hs j b st hp2 k ->
   (∀ (φ : Phi) (e : Exit) (l : Nat) (a : Act) (w : World) (R : Ending -> World -> Prop), x2.is φ e -> (∃ v w', (Instr.endRound l j).run c.P w = .ok v w' /\ R (.returned v) w') -> roundPost c.P l R e a w) ->
   ∃ val hs us nw, k val hs us nw /\ PartOf hs hp /\ (∀ i ∈ keys us, i ∈ keys hs) /\ i ∈ keys hs /\ Yr8 c.P L i args hs val us nw := by
  intro j b st hb hst hend hpost;obtain ⟨it2, l2, e1⟩ := Yg hend;obtain ⟨L2, cs2, rfl, e2⟩ := Yge e1;obtain ⟨v', us, nw, e3, e4, e5⟩ := Yl7 hpart.nd (Ydo.1 e2);refine ⟨v', hs, us, nw, e3, hpart, e4, Yb1 hit0, fun φ w0 M R w hnew hS => ?_⟩;have hr0 := Ypd hnoh hpart.nd 0 φ w0 M R w hS;generalize hφ0 : (fun i => if i % 3 = 1 then φ (i / 3) else (⟨0, false, 0, none, 0, undef⟩ : Hd)) = φ0 at hr0;simp only [Nat.zero_sub, Array.replicate_zero, Array.append_empty, List.replicate_zero, List.append_nil] at hr0;have hin : ∀ ψ : Phi, (∀ x, ψ (3 * x + 1) = φ x) -> ψ (rIn i) = φ i := fun ψ hψ => hψ i;refine roundIn_of_wpIn (F := Fence.wide) trivial ?_;refine hA φ φ0 w0 M R _ w hr0 _ (fun φ1 e a1 w1 he hr1 hd1 => ?_) (some (φ i).b);cases he;have b1 := hin φ1 hr1.base;obtain ⟨hb1, hr2⟩ := hr1.turn l1 (b := (φ i).b) (o := L1.obj (φ i).fn (AV.concL φ1 cs1)) (o' := ({ L1 with st := .busy } : LI).obj (φ i).fn (AV.concL φ1 cs1)) (it' := .lp { L1 with st := .busy } cs1) (by simp [It.conc, b1]) (by simp [It.conc, b1]);refine ⟨_, run_beginRound hb1 hready, ?_⟩;refine hBd φ φ1 w0 M R a1 _ hr2 _ (fun φ2 e a2 w2 he2 hr3 hd2 => ?_) (some (φ i).b);refine hpost φ2 e _ a2 w2 _ he2 ?_;have b2 := hin φ2 hr3.base;obtain ⟨hb2, hr4⟩ := hr3.turn l2 (b := (φ i).b) (o := L2.obj (φ i).fn (AV.concL φ2 cs2)) (o' := ({ L2 with st := st, pend := j } : LI).obj (φ i).fn (AV.concL φ2 cs2)) (it' := .lp { L2 with st := st, pend := j } cs2) (by simp [It.conc, b2]) (by simp [It.conc, b2]);have hrun := run_endRound (P := c.P) j hb2;rw [<- hst, <- hb] at hrun;refine ⟨_, _, hrun, ?_⟩;obtain ⟨φ3, hag, hv, hS3⟩ := e5 φ φ2 w0 M R _ (fun i hi => (hnew i hi).2) hr4.nd hr4.base hr4.st;exact ⟨φ3, hag, by rw [hv]; rfl, hS3⟩
 cases x2 with
 | norm => exact fin none true .ready rfl rfl h7 fun φ e l a w R he hx => by cases he; exact hx
 | ret => exact fin (some .ret) false .done rfl rfl h7 fun φ e l a w R he hx => by cases he; exact hx
 | exit id => exact fin (some (.exit id)) false .done rfl rfl h7 fun φ e l a w R he hx => by cases he; exact hx
 | pan v => exact h7.elim
end Go.Proofs.Ytmogofidmchdoaa
namespace Go.Proofs.Ytmogofidmchdoaa
open Go.RowKit
variable [InW]
attribute [local irreducible] Go.Oper.wp
def revK : List AV -> List AV -> (List AV -> Prop) -> Prop
 | [], acc, K => K acc
 | x :: xs, acc, K => revK xs (x :: acc) K
theorem Ym4 : ∀ {xs acc : List AV} {K : List AV -> Prop}, revK xs acc K ↔ K (xs.reverse ++ acc)
 | [], acc, K => Iff.rfl
 | x :: xs, acc, K => by simp [revK, Ym4 (xs := xs)]
def endK (c : Cx) (n d : Nat) (fn : Func) (hs : Heap) (tm : List AV) (hp : Heap) (ps : PS) (k kp : KE) : Prop :=
 revK (Ybl tm) [] fun fs => Yht c n tm fs ps hp fun ps hp => match ps with
  | .run => Ygv c.tt tm hp fn.results.toList fun vs => Yo1 n d hs (outA vs) hp k
  | .live v => Yo1 n d hs (.v v) hp kp
  | .done _ => Stuck 80
def Yte (c : Cx) (n : Nat) (g : FuncId) (args : List AV) (hp : Heap) (d : Nat) (k kp : KE) : Prop :=
 match c.P.funcs[g]? with
 | none => Stuck 51
 | some fn => match fn.body with
  | none => Stuck 52
  | some cd => Yb (Ydx args) (Yf0 (fun _ => true) hp n (AV.leadL args []) [] fun hs => Ygx rIn args fun args' => Ysq rIn hs fun hp0 => padK args' fn.ntmps fun tm0 =>
   Yer { c with fn := g } n cd tm0 hp0 fun x tm hpF => match x with
    | .norm => endK c n d fn hs tm hpF .run k kp
    | .ret => endK c n d fn hs tm hpF .run k kp
    | .pan (.v v) => endK c n d fn hs tm hpF (.live v) k kp
    | _ => Stuck 53)
def Yrc (c : Cx) (g : FuncId) (args : List AV) (hp : Heap) (k kp : KE) : Prop :=
 (∃ val hs us nw, k val hs us nw /\ PartOf hs hp /\ (∀ i ∈ keys us, i ∈ keys hs) /\ Yfx c.P g args hs false val us nw) \/
 (∃ val hs us nw, kp val hs us nw /\ PartOf hs hp /\ (∀ i ∈ keys us, i ∈ keys hs) /\ Yfx c.P g args hs true val us nw)
theorem HandOkL.at {c : Cx} (hc : HandOkL c) (g : FuncId) : HandOkL { c with fn := g } := ⟨⟨⟨hc.tab, hc.call, hc.sym⟩, hc.round⟩, hc.loops⟩
theorem Ymj {c : Cx} (hcL : HandOkL c) (hm : c.P.follows .mixedOrders = true) {n : Nat} {g : FuncId} {args : List AV} {hp : Heap} {d : Nat} {k kp : KE} (h : Yte c n g args hp d k kp) : Yrc c g args hp k kp := by
 have hc := hcL.toHandOkR;unfold Yte at h
 split at h
 ·exact h.elim
 ·rename_i fn hf
  split at h
  ·exact h.elim
  ·rename_i cd hb;obtain ⟨hnoh, h⟩ := Ya h;obtain ⟨hs, hpart, _, h1⟩ := Ybv (PartOf.nil hp) (by simp [keys]) h;have h2 := Yjy (Ygz.1 ((Yb7 _ _ _).1 h1));obtain ⟨x, tm', hpF, h3, h4⟩ := Yf7 (hcL.at g) hm n (root := cd) (by show (c.P.funcs[g]?).bind (·.body) = some cd; rw [hf]; exact hb) cd .refl _ _ _ h2;have fin : ∀ (ps : PS), (∀ (φ : Phi) (e : Exit), x.is φ e -> ∀ (P : Program) (R : Ending -> World -> Prop) (a : Act) (w : World), Yd2 P fn a.tmps R a.defers ps.mode w -> Ykq P fn R e a w) ->
     endK c n d fn hs tm' hpF ps k kp -> Yrc c g args hp k kp := by
    intro ps hexit hend;have hrev := Ym4.1 hend;rw [List.append_nil] at hrev;obtain ⟨ps', hp', h5, h6⟩ := Ydp hc hm _ _ _ _ (fun f hf' => Yd8 (by simpa using hf')) hrev;have go : ∀ (v : AV) (kx : KE) (pan : Bool), Yo1 n d hs v hp' kx ->
      (∀ (φ0 φ : Phi) (w0 : World) (M : List Nat) (R : RL) (a : Act) (w : World) (Rp : Ending -> World -> Prop), RepS φ0 φ w0 M R tm' hp' a w -> Rp (Ypt pan (v.conc φ)) w -> Leaves c.P fn a.tmps Rp [] ps'.mode w) ->
      ∃ val us nw, kx val hs us nw /\ (∀ i ∈ keys us, i ∈ keys hs) /\ Yfx c.P g args hs pan val us nw := by
     intro v kx pan hlv hpost;obtain ⟨v', us, nw, h7, h8, h9⟩ := Yl7 hpart.nd hlv;refine ⟨v', us, nw, h7, h8, fun φ w0 M R w hnew hS => ?_⟩;refine Yec hf hb ?_;refine h4 φ _ w0 M R _ w (Ypd hnoh hpart.nd fn.ntmps φ w0 M R w hS) _ fun φ' e a' w' hx hr => ?_;refine hexit φ' e hx c.P _ a' w' ?_;rw [hr.tmps.df, <- List.map_reverse];refine h6 φ φ' w0 M R a' w' hr fn _ fun φ1 w1 hr1 => ?_;refine hpost φ φ1 w0 M R a' w1 _ hr1 ?_;obtain ⟨φ2, hag, hv, hS2⟩ := h9 φ φ1 w0 M R w1 (fun i hi => (hnew i hi).2) hr1.nd hr1.base hr1.st;exact ⟨φ2, hag, by rw [hv], hS2⟩
    cases ps' with
    | run =>
     obtain ⟨vs, h7, h8, h9⟩ := Yds hc.tab h5;obtain ⟨val, us, nw, a1, a2, a3⟩ := go (outA vs) k false h7 fun φ0 φ w0 M R a w Rp hr hR => ⟨_, Yjq h8 (h9 φ0 φ w0 M R a w hr), hR⟩;exact .inl ⟨val, hs, us, nw, a1, hpart, a2, a3⟩
    | live v =>
     obtain ⟨val, us, nw, a1, a2, a3⟩ := go (.v v) kp true h5 fun φ0 φ w0 M R a w Rp hr hR => hR;exact .inr ⟨val, hs, us, nw, a1, hpart, a2, a3⟩
    | done v => exact h5.elim
   cases x with
   | norm => exact fin .run (fun φ e he P R a w hl => by cases he; exact hl) h3
   | ret => exact fin .run (fun φ e he P R a w hl => by cases he; exact hl) h3
   | pan v =>
    cases v <;> first | exact h3.elim | skip
    rename_i v;exact fin (.live v) (fun φ e he P R a w hl => by cases he; exact hl) h3
   | exit i => exact h3.elim
end Go.Proofs.Ytmogofidmchdoaa
namespace Go.Proofs.Ytmogofidmchdoaa
open Go.RowKit
variable [InW]
attribute [local irreducible] Go.Oper.wp
theorem RdV.mono {W1 W2 : InW} (hB : W1.B <= W2.B) (hw : Below W1.B W1.w W2.w) {t : Ty} {v : Value} {c : Cl} (h : @RdV W1 t v c) : @RdV W2 t v c := by
 induction h with
 | int k c => exact @RdV.int W2 k c
 | bool c => exact @RdV.bool W2 c
 | str c => exact @RdV.str W2 c
 | sl ts A c d u hc hm ha h ih =>
  refine @RdV.sl W2 ts A c d u hc hm (fun hne => ?_) ih;obtain ⟨b, off, h1, h2, h3⟩ := ha hne;exact ⟨b, off, h1, Nat.lt_of_lt_of_le h2 hB, fun i k hi hk => (hw.cell (p := ⟨b, _, none⟩) h2).trans (h3 i k hi hk)⟩
@[reducible] def atW (w : World) : InW := ⟨w, w.heap.size⟩
theorem St.now {W : InW} {w0 w : World} {M : List Nat} {L : RL} (h : @St W w0 M L w) : @St (atW w) w [] [] w :=
 @St.start (atW w) w (@InOk.mk (atW w) w [] (Nat.le_refl _) (by simp) (Below.refl _ _))
theorem RdV.now {W : InW} {w0 w : World} {M : List Nat} {L : RL} (h : @St W w0 M L w) {t : Ty} {v : Value} {c : Cl} (hr : @RdV W t v c) : @RdV (atW w) t v c :=
 RdV.mono (W2 := atW w) (Nat.le_trans h.inw.base h.kept.size) h.belowIn hr
theorem St.back {W W' : InW} {w0 w w' : World} {M : List Nat} {L L2 : RL} (h : @St W w0 M L w) (hc : @St W' w [] L2 w') : @St W w0 M (L2 ++ L) w' :=
 @St.more W w0 w w' M L h L2 (@St.mk W w [] L2 w' (@St.kept W' _ _ _ _ hc) (@St.has W' _ _ _ _ hc) (@St.own W' _ _ _ _ hc) (@St.sep W' _ _ _ _ hc) (@St.inNow0 W _ _ _ _ h))
inductive AT where
 | one (t : Ty)
 | agg (ts : List Ty)
abbrev DS := List (List Cl)
def Ypw (t : Ty) (x : AV) (c : Cl) : Prop :=
 match t with
 | .int k => ∃ n, x = .si k n /\ c = .i n
 | .bool => ∃ b, x = .sb b /\ c = .b b
 | .str => ∃ s, x = .ss s /\ c = .s s
 | .sl ts => ∃ r : Ro ts, x = .rs ts r /\ c = .l r.xs
def Yk3 : List Ty -> List AV -> List Cl -> Prop
 | [], xs, cs => xs = [] /\ cs = []
 | t :: ts, xs, cs => ∃ x xs' c cs', xs = x :: xs' /\ cs = c :: cs' /\ Ypw t x c /\ Yk3 ts xs' cs'
def Yyy (a : AT) (x : AV) (d : List Cl) : Prop :=
 match a with
 | .one t => ∃ c, d = [c] /\ Ypw t x c
 | .agg ts => ∃ xs, x = .agg xs /\ Yk3 ts xs d
def Ymo : List AT -> List AV -> DS -> Prop
 | [], xs, ds => xs = [] /\ ds = []
 | a :: ats, xs, ds => ∃ x xs' d ds', xs = x :: xs' /\ ds = d :: ds' /\ Yyy a x d /\ Ymo ats xs' ds'
def Yko (t : Ty) (c : Cl) : Prop := match t with | .int _ => ∃ n, c = .i n | .bool => ∃ b, c = .b b | .str => ∃ s, c = .s s | .sl _ => ∃ xs, c = .l xs
def Yvy (a : AT) (v : Value) (d : List Cl) : Prop :=
 match a with
 | .one t => ∃ c, d = [c] /\ RdV t v c /\ Yko t c
 | .agg ts => ∃ us : List Value, v = .agg us.toArray /\ us.length = ts.length /\ d.length = ts.length /\ ∀ (k : Nat) (t : Ty) (u : Value) (c : Cl), ts[k]? = some t -> us[k]? = some u -> d[k]? = some c -> RdV t u c /\ Yko t c
theorem Ypp {t : Ty} {v : Value} {c : Cl} (h : RdV t v c) (hz : Yko t c) : ∃ x : AV, Ypw t x c /\ ∀ φ, x.conc φ = v := by
 cases t with
 | int k => obtain ⟨n, rfl⟩ := hz; exact ⟨.si k n, ⟨n, rfl, rfl⟩, fun φ => h.isInt.symm⟩
 | bool => obtain ⟨b, rfl⟩ := hz; exact ⟨.sb b, ⟨b, rfl, rfl⟩, fun φ => h.isBool.symm⟩
 | str => obtain ⟨s, rfl⟩ := hz; exact ⟨.ss s, ⟨s, rfl, rfl⟩, fun φ => h.isStr.symm⟩
 | sl ts => obtain ⟨xs, rfl⟩ := hz; exact ⟨.rs ts ⟨(v, xs), h⟩, ⟨_, rfl, rfl⟩, fun φ => rfl⟩
theorem Ymh : ∀ {ts : List Ty} {us : List Value} {d : List Cl}, us.length = ts.length -> d.length = ts.length -> (∀ (k : Nat) (t : Ty) (u : Value) (c : Cl), ts[k]? = some t -> us[k]? = some u -> d[k]? = some c -> RdV t u c /\ Yko t c) -> ∃ xs : List AV, Yk3 ts xs d /\ ∀ φ, AV.concL φ xs = us
 | [], us, d, h1, h2, _ => by
  have e1 : us = [] := List.length_eq_zero_iff.1 h1;have e2 : d = [] := List.length_eq_zero_iff.1 h2;subst e1; subst e2;exact ⟨[], ⟨rfl, rfl⟩, fun φ => rfl⟩
 | t :: ts, u :: us, c :: d, h1, h2, h => by
  obtain ⟨x, hx, hxc⟩ := Ypp (h 0 t u c rfl rfl rfl).1 (h 0 t u c rfl rfl rfl).2;obtain ⟨xs, hxs, hxsc⟩ := Ymh (by simpa using h1) (by simpa using h2) fun k t u c a b e => h (k + 1) t u c (by simpa using a) (by simpa using b) (by simpa using e);exact ⟨x :: xs, ⟨_, _, _, _, rfl, rfl, hx, hxs⟩, fun φ => by simp [AV.concL, hxc φ, hxsc φ]⟩
 | t :: ts, [], d, h1, _, _ => by simp at h1
 | t :: ts, u :: us, [], _, h2, _ => by simp at h2
theorem Yxd {a : AT} {v : Value} {d : List Cl} (h : Yvy a v d) : ∃ x : AV, Yyy a x d /\ ∀ φ, x.conc φ = v := by
 cases a with
 | one t =>
  obtain ⟨c, rfl, h1, h2⟩ := h;obtain ⟨x, hx, hc⟩ := Ypp h1 h2;exact ⟨x, ⟨c, rfl, hx⟩, hc⟩
 | agg ts =>
  obtain ⟨us, rfl, h1, h2, h3⟩ := h;obtain ⟨xs, hx, hc⟩ := Ymh h1 h2 h3;exact ⟨.agg xs, ⟨xs, rfl, hx⟩, fun φ => by simp [AV.conc, hc φ]⟩
def Yr7 : List AT -> List Value -> DS -> Prop
 | [], vs, ds => vs = [] /\ ds = []
 | a :: ats, vs, ds => ∃ v vs' d ds', vs = v :: vs' /\ ds = d :: ds' /\ Yvy a v d /\ Yr7 ats vs' ds'
theorem Ykw : ∀ {ats : List AT} {vs : List Value} {ds : DS}, Yr7 ats vs ds -> ∃ xs : List AV, Ymo ats xs ds /\ ∀ φ, AV.concL φ xs = vs
 | [], _, _, ⟨rfl, rfl⟩ => ⟨[], ⟨rfl, rfl⟩, fun φ => rfl⟩
 | a :: ats, _, _, ⟨v, vs, d, ds, rfl, rfl, h1, h2⟩ => by
  obtain ⟨x, hx, hc⟩ := Yxd h1;obtain ⟨xs, hxs, hcs⟩ := Ykw h2;exact ⟨x :: xs, ⟨_, _, _, _, rfl, rfl, hx, hxs⟩, fun φ => by simp [AV.concL, hc φ, hcs φ]⟩
theorem Ymi {t : Ty} {x : AV} {c : Cl} (h : Ypw t x c) (i : Nat) : x.has i = false := by
 cases t <;> (obtain ⟨_, rfl, _⟩ := h; rfl)
theorem Ykm : ∀ {ts : List Ty} {xs : List AV} {cs : List Cl}, Yk3 ts xs cs -> ∀ i, AV.hasL i xs = false
 | [], _, _, ⟨rfl, rfl⟩, i => rfl
 | _ :: _, _, _, ⟨x, xs, c, cs, rfl, rfl, h1, h2⟩, i => by simp [AV.hasL, Ymi h1 i, Ykm h2 i]
theorem Yia : ∀ {ats : List AT} {xs : List AV} (ds : DS), Ymo ats xs ds -> ∀ i, AV.hasL i xs = false
 | [], _, _, ⟨rfl, rfl⟩, i => rfl
 | a :: ats, _, _, ⟨x, xs, d, ds, rfl, rfl, h1, h2⟩, i => by
  have hx : x.has i = false := by
   cases a with
   | one t => obtain ⟨c, _, h⟩ := h1; exact Ymi h i
   | agg ts => obtain ⟨ys, rfl, h⟩ := h1; simpa [AV.has] using Ykm h i
  simp [AV.hasL, hx, Yia ds h2 i]
inductive RTy where
 | int (k : IntKind)
 | bool
 | str
 | row (T : Nat) (ts : List Ty)
abbrev RTs := List (Bool × List RTy)
def Yeh (d j : Nat) : Nat := 3 * (j * 1024 + d) + 2
def RTy.av (d j : Nat) (t : RTy) (c : Cl) : AV := match t with | .int k => .si k c.int | .bool => .sb c.bool | .str => .ss c.str | .row _ _ => .rw (Yeh d j)
def RTy.hp (d j : Nat) (t : RTy) (c : Cl) : Heap := match t with | .row T ts => [(Yeh d j, .arr T ts c.lst)] | _ => []
def Ycm (d : Nat) : Nat -> List RTy -> List Cl -> List AV
 | _, [], _ => []
 | j, t :: ts, cs => t.av d j (cs.headD .z) :: Ycm d (j + 1) ts cs.tail
def Ybp (d : Nat) : Nat -> List RTy -> List Cl -> Heap
 | _, [], _ => []
 | j, t :: ts, cs => t.hp d j (cs.headD .z) ++ Ybp d (j + 1) ts cs.tail
def Yt9 : List AV -> AV
 | [x] => x
 | _ => .junk
def Yjr (d : Nat) : Nat -> RTs -> DS -> List AV
 | _, [], _ => []
 | j, (g, ts) :: rs, ds => (match g with | true => .agg (Ycm d j ts (ds.headD [])) | false => Yt9 (Ycm d j ts (ds.headD []))) :: Yjr d (j + ts.length) rs ds.tail
def Yef (d : Nat) : Nat -> RTs -> DS -> Heap
 | _, [], _ => []
 | j, (_, ts) :: rs, ds => Ybp d j ts (ds.headD []) ++ Yef d (j + ts.length) rs ds.tail
def Yt0 (d : Nat) (rs : RTs) (ds : DS) : AV := outA (Yjr d 0 rs ds)
end Go.Proofs.Ytmogofidmchdoaa
namespace Go.Proofs.Ytmogofidmchdoaa
open Go.RowKit
attribute [local irreducible] Go.Oper.wp
inductive Pre (p : Prop) (A : Prop) : Prop where
 | mk (h : p) (a : A)
theorem Pre_iff {p A : Prop} : Pre p A ↔ p /\ A := ⟨fun ⟨a, b⟩ => ⟨a, b⟩, fun ⟨a, b⟩ => ⟨a, b⟩⟩
def PureOk (P : Program) (g : FuncId) (ats : List AT) (rs : RTs) (pre : DS -> Prop) (res : DS -> DS) : Prop :=
 ∀ (W : InW) (args : List (@AV W)) (ds : DS), @Ymo W ats args ds -> pre ds -> ∀ d, d < 1024 -> @Yfx W P g args [] false (@Yt0 W d rs (res ds)) [] (@Yef W d 0 rs (res ds))
structure PC (P : Program) where
 g : FuncId
 ats : List AT
 rs : RTs
 pre : DS -> Prop
 res : DS -> DS
 ok : PureOk P g ats rs pre res
section
variable [W : InW]
def addH (hs : Heap) (id : Nat) (it : It) (K : Heap -> Prop) : Prop := match look hs id with | some _ => K hs | none => K ((id, it) :: hs)
theorem Yfh {hs hp : Heap} {id : Nat} {it : It} {K : Heap -> Prop} (h : addH hs id it K) (hpart : PartOf hs hp) (hl : look hp id = some it) : ∃ hs', K hs' /\ PartOf hs' hp /\ (∀ p ∈ hs, p ∈ hs') /\ (id, it) ∈ hs' := by
 unfold addH at h
 split at h
 ·rename_i x hx;refine ⟨hs, h, hpart, fun p hp => hp, ?_⟩;have h1 := Yy hx;have h2 := hpart.all _ h1;rw [hl] at h2;cases h2;exact h1
 ·rename_i hx;refine ⟨_, h, hpart.cons hl fun hm => ?_, fun p hp => List.mem_cons_of_mem _ hp, List.mem_cons_self⟩;obtain ⟨x, hx2⟩ := Yha.2 hm;rw [hx] at hx2; cases hx2
def Ydv : Nat -> Ty -> Ty -> Bool
 | 0, _, _ => false
 | n + 1, t, u => match t, u with
  | .int k, .int k' => decide (k = k')
  | .bool, .bool => true
  | .str, .str => true
  | .sl ts, .sl us => sameL n ts us
  | _, _ => false
where
 sameL (n : Nat) : List Ty -> List Ty -> Bool
  | [], [] => true
  | t :: ts, u :: us => match Ydv n t u with | true => sameL n ts us | false => false
  | _, _ => false
theorem Ydq : ∀ (n : Nat) (t u : Ty), Ydv n t u = true -> t = u
 | 0, _, _, h => by simp [Ydv] at h
 | n + 1, t, u, h => by
  have hL : ∀ ts us : List Ty, Ydv.sameL n ts us = true -> ts = us := by
   intro ts
   induction ts with
   | nil => intro us h; cases us <;> simp_all [Ydv.sameL]
   | cons t ts ih =>
    intro us h;cases us with
    | nil => simp [Ydv.sameL] at h
    | cons u us =>
     unfold Ydv.sameL at h
     split at h
     ·rename_i h1;rw [Ydq n t u h1, ih us h]
     ·cases h
  cases t <;> cases u <;> simp only [Ydv, Bool.false_eq_true, decide_eq_true_eq] at h
  ·rw [h]
  ·rfl
  ·rfl
  ·rw [hL _ _ h]
def Yq6 (t : Ty) (x : AV) (hp hs : Heap) (K : Heap -> Cl -> Prop) : Prop :=
 match t with
 | .int k => (match x with | .si k' n => Yb (decide (k' = k)) (K hs (.i n)) | .v (.int k' n) => Yb (decide (k' = k)) (K hs (.i n)) | _ => Stuck 401)
 | .bool => (match x with | .sb b => K hs (.b b) | .v (.bool b) => K hs (.b b) | _ => Stuck 402)
 | .str => (match x with | .ss s => K hs (.s s) | .v (.string s) => K hs (.s s) | _ => Stuck 403)
 | .sl ts => (match x with
  | .rs ts' r => Yb (Ydv 9 (.sl ts') (.sl ts)) (K hs (.l r.xs))
  | .v (.slice _ n _) => Yb (Nat.beq n 0) (K hs (.l []))
  | .emp _ => K hs (.l [])
  | .rw id => Y9 hp id fun it => (match it with | .arr T ts' xs => Yb (Ycd.sameTs ts' ts && Nat.ble 1 ts.length) (addH hs id (.arr T ts' xs) fun hs => K hs (.l xs)) | _ => Stuck 404)
  | .sl id off lo m => Y9 hp id fun it => (match it with
   | .arr T ts' xs => Yb (Ycd.sameTs ts' ts && Nat.ble 1 ts.length && Nat.beq off 0 && Nat.beq lo 0) (Need (decide (m <= xs.length)) (addH hs id (.arr T ts' xs) fun hs => K hs (.l (xs.take m))))
   | .row T sz n cs => (match Nat.beq m 0 with
    | true => K hs (.l [])
    | false => Yb (Nat.ble 1 ts.length && Nat.ble m 4611686018427387904 && Nat.ble (lo + m) n && Nat.beq off (lo * sz)) (Yqp (.row T sz n cs) off m ts.length fun news => Yb (Ycd.sameTs ts ts) (Yqd ts m news fun ys => addH hs id (.row T sz n cs) fun hs => K hs (.l ys))))
   | _ => Stuck 405)
  | .rwp id sz' l m => Y9 hp id fun it => (match it with
   | .arr T ts' xs => Yb (Ycd.sameTs ts' ts && Nat.ble 1 ts.length && Nat.beq sz' ts.length) (Need (decide (l + m <= xs.length)) (addH hs id (.arr T ts' xs) fun hs => K hs (.l ((xs.drop l).take m))))
   | _ => Stuck 405)
  | _ => Stuck 406)
def ReadsIn (hs : Heap) (t : Ty) (x : AV) (c : Cl) : Prop :=
 ∀ (φ : Phi) (w0 : World) (M : List Nat) (L : RL) (w : World), St w0 M L w -> (∀ p ∈ hs, p.2.conc φ p.1 ∈ L) -> @RdV (atW w) t (x.conc φ) c
theorem ReadsIn.mono {hs hs' : Heap} {t : Ty} {x : AV} {c : Cl} (h : ReadsIn hs t x c) (hh : ∀ p ∈ hs, p ∈ hs') : ReadsIn hs' t x c := fun φ w0 M L w hS hm => h φ w0 M L w hS fun p hp => hm p (hh p hp)
theorem St.front {w0 w : World} {M : List Nat} {L : RL} (h : St w0 M L w) {r : Res} (hr : r ∈ L) : ∃ R, St w0 M (r :: R) w := by
 obtain ⟨s, t, rfl⟩ := List.append_of_mem hr;exact ⟨_, h.perm List.perm_middle⟩
theorem Yjh {xv : AV} {hs : Heap} {ts : List Ty} {ys : Dt} {id : Nat} {it : It} (hts : 0 < ts.length) (hsc : ∀ k ts', tyAt ts k ≠ .sl ts') (hlen : ∀ (φ : Phi) (w0 : World) (M : List Nat) (R : RL) (w : World), St w0 M (it.conc φ id :: R) w -> ys.length <= maxLen /\ ∀ A m c, xv.conc φ = .slice A m c -> m <= c)
  (h : Yk1 xv [(id, it)] ts ys) (hm : (id, it) ∈ hs) : ReadsIn hs (.sl ts) xv (.l ys) := fun φ w0 M L w hS hall => by
 obtain ⟨R, hS'⟩ := hS.front (hall _ hm);obtain ⟨A, c, h1, h2⟩ := h φ w0 M R w (by simpa [Yc] using hS');obtain ⟨h3, h4⟩ := hlen φ w0 M R w hS';have hc := h4 _ _ _ h1;rw [h1];refine @RdV.sl (atW w) ts A c (.l ys) (fun i k => (tyAt ts k).val (cel ys i k)) hc h3 (fun hne => ?_) (fun i k t hi ht => ?_)
 ·obtain ⟨b, off, rfl, h5⟩ := h2.resolve_left (fun e => hne (List.length_eq_zero_iff.1 e));have key : ∀ i k, i < ys.length -> k < ts.length -> w.cell? ⟨b, off + i * ts.length + k, none⟩ = some ((tyAt ts k).val (cel ys i k)) := fun i k hi hk => by
   rw [Nat.add_assoc];refine h5 _ _ ?_;rw [Yhj ts ys i k hi hk, List.getElem?_eq_getElem hk, Option.map_some, Yev, List.getD_eq_getElem?_getD, List.getElem?_eq_getElem hk, Option.getD_some]
  refine ⟨b, off, rfl, ?_, key⟩;have hpos : 0 < ys.length := by
   cases ys with
   | nil => exact absurd rfl hne
   | cons _ _ => simp
  have h6 := key 0 0 hpos hts;unfold World.cell? at h6
  show b < w.heap.size
  rcases Nat.lt_or_ge b w.heap.size with hb | hb
  ·exact hb
  ·simp [Array.getElem?_eq_none hb] at h6
 ·have e : tyAt ts k = t := by rw [Yev, List.getD_eq_getElem?_getD, ht]; rfl
  subst e
  show @RdV (atW w) (tyAt ts k) ((tyAt ts k).val (cel ys i k)) (cel ys i k)
  have hn := hsc k;generalize cel ys i k = cc;generalize tyAt ts k = t at hn;cases t with
  | int kd => exact @RdV.int (atW w) kd cc
  | bool => exact @RdV.bool (atW w) cc
  | str => exact @RdV.str (atW w) cc
  | sl ts' => exact absurd rfl (hn ts')
theorem Yj0 {hs : Heap} {ts : List Ty} {x : AV} (h : ∀ φ, ∃ A c, x.conc φ = .slice A 0 c) : ReadsIn hs (.sl ts) x (.l []) := fun φ w0 M L w hS hall => by
 obtain ⟨A, c, e⟩ := h φ;rw [e];exact @RdV.sl (atW w) ts A c (.l []) (fun _ _ => undef) (Nat.zero_le _) (Nat.zero_le _) (fun hn => absurd rfl hn) (fun i k t hi => by simp [Cl.lst] at hi)
theorem Yoj {hs : Heap} {ts : List Ty} {T id n : Nat} {xs : Dt} {x : AV} (hts : 0 < ts.length) (hsc : ∀ k ts', tyAt ts k ≠ .sl ts') (ho : OwnSl T ts xs id n x) (hm : (id, It.arr T ts xs) ∈ hs) : ReadsIn hs (.sl ts) x (.l (xs.take n)) :=
 Yjh hts hsc (fun φ w0 M R w hS => by
  obtain ⟨h1, h2⟩ := ho.conc hts hS;obtain ⟨h3, h4⟩ := Ynr hts hS;refine ⟨by rw [List.length_take]; omega, fun A m c e => ?_⟩;rw [h1] at e;cases e;omega) (Ytr hts ho) hm
theorem Ytv {hs : Heap} {ts : List Ty} {T id l n : Nat} {xs : Dt} (hts : 0 < ts.length) (hsc : ∀ k ts', tyAt ts k ≠ .sl ts') (hl : l + n <= xs.length) (hm : (id, It.arr T ts xs) ∈ hs) : ReadsIn hs (.sl ts) (.rwp id ts.length l n) (.l ((xs.drop l).take n)) :=
 Yjh hts hsc (fun φ w0 M R w hS => by
  obtain ⟨h3, h4⟩ := Ynr hts hS;refine ⟨by rw [List.length_take, List.length_drop]; omega, fun A m c e => ?_⟩;simp only [AV.conc, Value.slice.injEq] at e;omega) (Yxl hts hl) hm
theorem Yd9 {t : Ty} {x : AV} {hp hs : Heap} {K : Heap -> Cl -> Prop} (h : Yq6 t x hp hs K) (hpart : PartOf hs hp) : ∃ hs' c, K hs' c /\ PartOf hs' hp /\ (∀ p ∈ hs, p ∈ hs') /\ Yko t c /\ ReadsIn hs' t x c := by
 have keep : ∀ p ∈ hs, p ∈ hs := fun p hp => hp;unfold Yq6 at h
 split at h
 ·split at h
  ·obtain ⟨h1, h2⟩ := Ya h;obtain rfl := of_decide_eq_true h1;exact ⟨_, _, h2, hpart, keep, ⟨_, rfl⟩, fun φ w0 M L w hS _ => @RdV.int (atW w) _ (.i _)⟩
  ·obtain ⟨h1, h2⟩ := Ya h;obtain rfl := of_decide_eq_true h1;exact ⟨_, _, h2, hpart, keep, ⟨_, rfl⟩, fun φ w0 M L w hS _ => @RdV.int (atW w) _ (.i _)⟩
  ·exact h.elim
 ·split at h
  ·exact ⟨_, _, h, hpart, keep, ⟨_, rfl⟩, fun φ w0 M L w hS _ => @RdV.bool (atW w) (.b _)⟩
  ·exact ⟨_, _, h, hpart, keep, ⟨_, rfl⟩, fun φ w0 M L w hS _ => @RdV.bool (atW w) (.b _)⟩
  ·exact h.elim
 ·split at h
  ·exact ⟨_, _, h, hpart, keep, ⟨_, rfl⟩, fun φ w0 M L w hS _ => @RdV.str (atW w) (.s _)⟩
  ·exact ⟨_, _, h, hpart, keep, ⟨_, rfl⟩, fun φ w0 M L w hS _ => @RdV.str (atW w) (.s _)⟩
  ·exact h.elim
 ·split at h
  ·rename_i ts' r;obtain ⟨h1, h2⟩ := Ya h;have e := Ydq _ _ _ h1;simp only [Ty.sl.injEq] at e;subst e;exact ⟨_, _, h2, hpart, keep, ⟨_, rfl⟩, fun φ w0 M L w hS _ => RdV.now hS r.2⟩
  ·obtain ⟨h1, h2⟩ := Ya h;obtain rfl := Ye.1 h1;exact ⟨_, _, h2, hpart, keep, ⟨_, rfl⟩, Yj0 fun φ => ⟨_, _, rfl⟩⟩
  ·exact ⟨_, _, h, hpart, keep, ⟨_, rfl⟩, Yj0 fun φ => ⟨_, _, rfl⟩⟩
  ·obtain ⟨it, hl, h0⟩ := Yg h
   split at h0
   ·obtain ⟨h1, h2⟩ := Ya h0;simp only [Bool.and_eq_true, Nat.ble_eq] at h1;obtain ⟨e, hsc⟩ := Y7 h1.1;subst e;obtain ⟨hs', h3, h4, h5, h6⟩ := Yfh h2 hpart hl;have hts := h1.2;refine ⟨_, _, h3, h4, h5, ⟨_, rfl⟩, ?_⟩;have key : ∀ (T id : Nat) (ts : List Ty) (xs : Dt), 0 < ts.length -> (∀ k ts', tyAt ts k ≠ .sl ts') -> (id, It.arr T ts xs) ∈ hs' -> ReadsIn hs' (.sl ts) (.rw id) (.l xs) := fun T id ts xs a b c => by
     have := Yoj a b (T := T) (id := id) (n := List.length xs) (x := .rw id) (.inl ⟨rfl, rfl⟩) c;rwa [List.take_length] at this
    exact key _ _ _ _ hts hsc h6
   ·exact h0.elim
  ·rename_i id off lo m;obtain ⟨it, hl, h0⟩ := Yg h
   split at h0
   ·obtain ⟨h1, h2⟩ := Ya h0;simp only [Bool.and_eq_true, Nat.ble_eq, Ye] at h1;obtain ⟨⟨⟨h11, h12⟩, rfl⟩, rfl⟩ := h1;obtain ⟨e, hsc⟩ := Y7 h11;subst e;obtain ⟨h3, h4⟩ := h2;obtain ⟨hs', h5, h6, h7, h8⟩ := Yfh h4 hpart hl;exact ⟨_, _, h5, h6, h7, ⟨_, rfl⟩, Yoj h12 hsc (.inr ⟨rfl, of_decide_eq_true h3⟩) h8⟩
   ·rename_i T sz n cs
    split at h0
    ·rename_i hm;obtain rfl := Ye.1 hm;exact ⟨_, _, h0, hpart, keep, ⟨_, rfl⟩, Yj0 fun φ => ⟨_, _, rfl⟩⟩
    ·obtain ⟨h1, h2⟩ := Ya h0;simp only [Bool.and_eq_true, Nat.ble_eq, Ye] at h1;obtain ⟨⟨⟨h11, h12⟩, h13⟩, rfl⟩ := h1;obtain ⟨news, h3, h4, h5, _⟩ := Yc6 h2;obtain ⟨hsc, h3⟩ := Ya h3;obtain ⟨ys, h6, h7, h8, _⟩ := Yc4 h3;obtain ⟨hs', h9, h10, h11', h12'⟩ := Yfh h6 hpart hl;refine ⟨_, _, h9, h10, h11', ⟨_, rfl⟩, Yjh h11 (Y7 hsc).2 (fun φ w0 M R w hS => ⟨by unfold maxLen; omega, fun A m' c e => ?_⟩) (fun φ w0 M R w hS => ?_) h12'⟩
     ·have hc := Yga hS;simp only [AV.conc, Value.slice.injEq] at e;omega
     ·have hS' := (by simpa [Yc] using hS : St w0 M ((It.row T sz n cs).conc φ id :: R) w);have hnil := Ybh h4 φ id w0 M R w hS';refine ⟨_, _, by simp only [AV.conc, hnil, Bool.false_eq_true, if_false, h7]; rfl, .inr ⟨_, _, rfl, fun j u hu => ?_⟩⟩;exact Y3 hS' (h5 φ j u (by rw [h8 φ]; exact hu))
   ·exact h0.elim
  ·rename_i id sz' l m;obtain ⟨it, hl, h0⟩ := Yg h
   split at h0
   ·obtain ⟨h1, h2⟩ := Ya h0;simp only [Bool.and_eq_true, Nat.ble_eq, Ye] at h1;obtain ⟨⟨h11, h12⟩, rfl⟩ := h1;obtain ⟨e, hsc⟩ := Y7 h11;subst e;obtain ⟨h3, h4⟩ := h2;obtain ⟨hs', h5, h6, h7, h8⟩ := Yfh h4 hpart hl;exact ⟨_, _, h5, h6, h7, ⟨_, rfl⟩, Ytv h12 hsc (of_decide_eq_true h3) h8⟩
   ·exact h0.elim
  ·exact h.elim
end
end Go.Proofs.Ytmogofidmchdoaa
namespace Go.Proofs.Ytmogofidmchdoaa
open Go.RowKit
attribute [local irreducible] Go.Oper.wp
section
variable [W : InW]
def Yzg : List Ty -> Bool
 | [] => false
 | .sl _ :: _ => true
 | _ :: ts => Yzg ts
abbrev DK := Ty -> AV -> Heap -> Heap -> (Heap -> Cl -> Prop) -> Prop
def Yvo (D : DK) : List Ty -> List AV -> Heap -> Heap -> (Heap -> List Cl -> Prop) -> Prop
 | [], [], hp, hs, K => K hs []
 | t :: ts, x :: xs, hp, hs, K => D t x hp hs fun hs c => Yvo D ts xs hp hs fun hs cs => K hs (c :: cs)
 | _, _, _, _, _ => Stuck 410
def Yx4 (D : DK) (ts : List Ty) : Nat -> List AV -> Heap -> Heap -> (Heap -> Dt -> Prop) -> Prop
 | 0, cs, hp, hs, K => (match cs with | [] => K hs [] | _ => Stuck 411)
 | m + 1, cs, hp, hs, K => Ygp cs ts.length fun r => Yiu cs ts.length fun rest => Yvo D ts r hp hs fun hs l => Yx4 D ts m rest hp hs fun hs ys => K hs (l :: ys)
def Yu4 : Nat -> DK
 | 0, t, x, hp, hs, K => Yq6 t x hp hs K
 | f + 1, t, x, hp, hs, K => match t, x with
  | .sl ts, .sl id off lo m => (match Yzg ts with
   | false => Yq6 t x hp hs K
   | true => (match look hp id with
    | some (.row T sz n cs) => (match Nat.ble 1 m with
     | true => Yb (Nat.beq sz ts.length && Nat.ble 1 ts.length && Nat.ble m 4611686018427387904 && Nat.ble (lo + m) n && Nat.ble 1 n && Nat.beq off (lo * sz)) (Yiu cs off fun r => Ygp r (m * ts.length) fun news => addH hs id (.row T sz n cs) fun hs => Yx4 (Yu4 f) ts m news hp hs fun hs ys => K hs (.l ys))
     | false => Yq6 t x hp hs K)
    | _ => Yq6 t x hp hs K))
  | _, _ => Yq6 t x hp hs K
def DOk (D : DK) : Prop := ∀ (t : Ty) (x : AV) (hp hs : Heap) (K : Heap -> Cl -> Prop), D t x hp hs K -> PartOf hs hp -> ∃ hs' c, K hs' c /\ PartOf hs' hp /\ (∀ p ∈ hs, p ∈ hs') /\ Yko t c /\ ReadsIn hs' t x c
theorem Ykn {D : DK} (hD : DOk D) : ∀ {ts : List Ty} {xs : List AV} {hp hs : Heap} {K : Heap -> List Cl -> Prop}, Yvo D ts xs hp hs K -> PartOf hs hp -> ∃ hs' cs, K hs' cs /\ PartOf hs' hp /\ (∀ p ∈ hs, p ∈ hs') /\ xs.length = ts.length /\ cs.length = ts.length /\
  ∀ (k : Nat) (t : Ty), ts[k]? = some t -> ∃ x, xs[k]? = some x /\ ReadsIn hs' t x (cs.getD k .z)
 | [], [], hp, hs, K, h, hpart => ⟨hs, [], h, hpart, fun p hp => hp, rfl, rfl, fun k t e => by simp at e⟩
 | t :: ts, x :: xs, hp, hs, K, h, hpart => by
  obtain ⟨hs1, c, h1, h2, h3, h4, h5⟩ := hD _ _ _ _ _ h hpart;obtain ⟨hs2, cs, k1, k2, k3, k4, k5, k6⟩ := Ykn hD h1 h2;refine ⟨hs2, c :: cs, k1, k2, fun p hp => k3 p (h3 p hp), by simp [k4], by simp [k5], fun k t' e => ?_⟩;cases k with
  | zero =>
   simp only [List.getElem?_cons_zero, Option.some.injEq] at e;subst e;exact ⟨x, rfl, h5.mono k3⟩
  | succ k =>
   obtain ⟨y, y1, y2⟩ := k6 k t' (by simpa using e);exact ⟨y, by simpa using y1, by simpa using y2⟩
 | [], _ :: _, _, _, _, h, _ => h.elim
 | _ :: _, [], _, _, _, h, _ => h.elim
theorem Ylu {D : DK} (hD : DOk D) {ts : List Ty} : ∀ {m : Nat} {cs : List AV} {hp hs : Heap} {K : Heap -> Dt -> Prop}, Yx4 D ts m cs hp hs K -> PartOf hs hp -> ∃ hs' ys, K hs' ys /\ PartOf hs' hp /\ (∀ p ∈ hs, p ∈ hs') /\ ys.length = m /\
  ∀ (i k : Nat) (t : Ty), i < m -> ts[k]? = some t -> ∃ x, cs[i * ts.length + k]? = some x /\ ReadsIn hs' t x (cel ys i k)
 | 0, cs, hp, hs, K, h, hpart => by
  cases cs with
  | nil => exact ⟨hs, [], h, hpart, fun p hp => hp, rfl, fun i k t hi => by omega⟩
  | cons _ _ => exact h.elim
 | m + 1, cs, hp, hs, K, h, hpart => by
  obtain ⟨h1, h2⟩ := Ybn h;obtain ⟨_, h3⟩ := Yb0 h2;obtain ⟨hs1, l, h4, h5, h6, h7, h8, h9⟩ := Ykn hD h3 hpart;obtain ⟨hs2, ys, k1, k2, k3, k4, k5⟩ := Ylu hD h4 h5;refine ⟨hs2, l :: ys, k1, k2, fun p hp => k3 p (h6 p hp), by simp [k4], fun i k t hi ht => ?_⟩;have hk : k < ts.length := by
   rcases Nat.lt_or_ge k ts.length with a | a
   ·exact a
   ·rw [List.getElem?_eq_none a] at ht; cases ht
  cases i with
  | zero =>
   obtain ⟨x, x1, x2⟩ := h9 k t ht;refine ⟨x, ?_, x2.mono k3⟩;rw [List.getElem?_take, if_pos hk] at x1;rw [Nat.zero_mul, Nat.zero_add];exact x1
  | succ i =>
   obtain ⟨x, x1, x2⟩ := k5 i k t (by omega) ht;refine ⟨x, ?_, x2⟩;rw [List.getElem?_drop] at x1;rw [show (i + 1) * ts.length + k = ts.length + (i * ts.length + k) by rw [Nat.add_mul]; omega];exact x1
theorem Yh8 : ∀ f, DOk (Yu4 f)
 | 0 => fun t x hp hs K h hpart => Yd9 h hpart
 | f + 1 => fun t x hp hs K h hpart => by
  unfold Yu4 at h
  split at h
  ·rename_i ts id off lo m
   split at h
   ·exact Yd9 h hpart
   ·split at h
    ·rename_i T sz n cs hl
     split at h
     ·rename_i hm;rw [Nat.ble_eq] at hm;obtain ⟨h1, h2⟩ := Ya h;simp only [Bool.and_eq_true, Nat.ble_eq, Ye] at h1;obtain ⟨⟨⟨⟨⟨rfl, h12⟩, h13⟩, h14⟩, h15⟩, rfl⟩ := h1;obtain ⟨h3, h4⟩ := Yb0 h2;obtain ⟨h5, h6⟩ := Ybn h4;obtain ⟨hs1, h7, h8, h9, h10⟩ := Yfh h6 hpart hl;obtain ⟨hs2, ys, k1, k2, k3, k4, k5⟩ := Ylu (Yh8 f) h7 h8;refine ⟨_, _, k1, k2, fun p hp => k3 p (h9 p hp), ⟨_, rfl⟩, fun φ w0 M L w hS hall => ?_⟩;obtain ⟨R, hS'⟩ := hS.front (hall _ (k3 _ h10));have hnil : (φ id).nil = false := Yfm h15 hS';have hcap : n <= (φ id).c := Yga hS';have hcell : ∀ i k x, cs[lo * ts.length + (i * ts.length + k)]? = some x -> w.cell? ⟨(φ id).b, lo * ts.length + i * ts.length + k, none⟩ = some (x.conc φ) := fun i k x hx => by
       refine Y3 hS' (k := lo * ts.length + i * ts.length + k) (v := x.conc φ) ?_
       show (AV.concL φ cs)[_]? = _
       rw [Yb9, Nat.add_assoc, hx];rfl
      have hrow : ∀ i k t, i < m -> ts[k]? = some t -> ∃ x, cs[lo * ts.length + (i * ts.length + k)]? = some x /\ ReadsIn hs2 t x (cel ys i k) := fun i k t hi ht => by
       obtain ⟨x, x1, x2⟩ := k5 i k t hi ht;refine ⟨x, ?_, x2⟩;rw [List.getElem?_take] at x1
       split at x1
       ·rwa [List.getElem?_drop] at x1
       ·cases x1
      show @RdV (atW w) (.sl ts) (.slice (if (φ id).nil then none else some ⟨(φ id).b, lo * ts.length, none⟩) m ((φ id).c - lo)) (.l ys)
      rw [hnil];have e := @RdV.sl (atW w) ts (some ⟨(φ id).b, lo * ts.length, none⟩) ((φ id).c - lo) (.l ys) (fun i k => (cs.getD (lo * ts.length + (i * ts.length + k)) .junk).conc φ)
       (by show ys.length <= _; omega) (by show ys.length <= _; unfold maxLen; omega) (fun _ => ?_) (fun i k t hi ht => ?_)
      ·rw [show (Cl.l ys).lst.length = m from k4] at e;exact e
      ·have key : ∀ i k, i < ys.length -> k < ts.length -> w.cell? ⟨(φ id).b, lo * ts.length + i * ts.length + k, none⟩ = some ((cs.getD (lo * ts.length + (i * ts.length + k)) .junk).conc φ) := fun i k hi hk => by
        obtain ⟨x, x1, _⟩ := hrow i k ts[k] (by omega) (List.getElem?_eq_getElem hk);rw [hcell i k x x1, List.getD_eq_getElem?_getD, x1];rfl
       refine ⟨_, _, rfl, ?_, key⟩;have h6 := key 0 0 (by omega) (by omega);unfold World.cell? at h6
       show (φ id).b < w.heap.size
       rcases Nat.lt_or_ge (φ id).b w.heap.size with hb | hb
       ·exact hb
       ·simp [Array.getElem?_eq_none hb] at h6
      ·obtain ⟨x, x1, x2⟩ := hrow i k t (by have : i < ys.length := hi; omega) ht;rw [show (cs.getD (lo * ts.length + (i * ts.length + k)) AV.junk) = x by rw [List.getD_eq_getElem?_getD, x1]; rfl];exact x2 φ w0 M L w hS fun p hp => hall p hp
     ·exact Yd9 h hpart
    ·exact Yd9 h hpart
  ·exact Yd9 h hpart
def Yhl : List Ty -> List AV -> Heap -> Heap -> (Heap -> List Cl -> Prop) -> Prop
 | [], [], hp, hs, K => K hs []
 | t :: ts, x :: xs, hp, hs, K => Yu4 4 t x hp hs fun hs c => Yhl ts xs hp hs fun hs cs => K hs (c :: cs)
 | _, _, _, _, _ => Stuck 407
def Yq7 (a : AT) (x : AV) (hp hs : Heap) (K : Heap -> List Cl -> Prop) : Prop :=
 match a with
 | .one t => Yu4 4 t x hp hs fun hs c => K hs [c]
 | .agg ts => (match x with | .agg xs => Yhl ts xs hp hs K | .v (.agg cs) => Yna cs.toList fun xs => Yhl ts xs hp hs K | _ => Stuck 408)
def Ynm : List AT -> List AV -> Heap -> Heap -> (Heap -> DS -> Prop) -> Prop
 | [], [], hp, hs, K => K hs []
 | a :: ats, x :: xs, hp, hs, K => Yq7 a x hp hs fun hs d => Ynm ats xs hp hs fun hs ds => K hs (d :: ds)
 | _, _, _, _, _ => Stuck 409
def At' (hs : Heap) (φ : Phi) (w0 : World) (M : List Nat) (L : RL) (w : World) : Prop := St w0 M L w /\ ∀ p ∈ hs, p.2.conc φ p.1 ∈ L
theorem At'.mono {hs hs' : Heap} {φ : Phi} {w0 w : World} {M : List Nat} {L : RL} (h : At' hs' φ w0 M L w) (hh : ∀ p ∈ hs, p ∈ hs') : At' hs φ w0 M L w := ⟨h.1, fun p hp => h.2 p (hh p hp)⟩
theorem Ydz : ∀ {ts : List Ty} {xs : List AV} {hp hs : Heap} {K : Heap -> List Cl -> Prop}, Yhl ts xs hp hs K -> PartOf hs hp -> ∃ hs' cs, K hs' cs /\ PartOf hs' hp /\ (∀ p ∈ hs, p ∈ hs') /\ xs.length = ts.length /\ cs.length = ts.length /\
  ∀ (φ : Phi) (w0 : World) (M : List Nat) (L : RL) (w : World), At' hs' φ w0 M L w -> ∀ (k : Nat) (t : Ty) (u : Value) (c : Cl), ts[k]? = some t -> (AV.concL φ xs)[k]? = some u -> cs[k]? = some c -> @RdV (atW w) t u c /\ Yko t c
 | [], [], hp, hs, K, h, hpart => ⟨hs, [], h, hpart, fun p hp => hp, rfl, rfl, fun φ w0 M L w _ k t u c e => by simp at e⟩
 | t :: ts, x :: xs, hp, hs, K, h, hpart => by
  obtain ⟨hs1, c, h1, h2, h3, h4, h5⟩ := Yh8 4 _ _ _ _ _ h hpart;obtain ⟨hs2, cs, k1, k2, k3, k4, k5, k6⟩ := Ydz h1 h2;refine ⟨hs2, c :: cs, k1, k2, fun p hp => k3 p (h3 p hp), by simp [k4], by simp [k5], fun φ w0 M L w hA k t' u c' e1 e2 e3 => ?_⟩;cases k with
  | zero =>
   simp only [List.getElem?_cons_zero, Option.some.injEq, AV.concL] at e1 e2 e3;subst e1; subst e2; subst e3;exact ⟨h5 φ w0 M L w hA.1 fun p hp => hA.2 p (k3 p hp), h4⟩
  | succ k => exact k6 φ w0 M L w hA k t' u c' (by simpa using e1) (by simpa [AV.concL] using e2) (by simpa using e3)
 | [], _ :: _, _, _, _, h, _ => h.elim
 | _ :: _, [], _, _, _, h, _ => h.elim
theorem Ypg {a : AT} {x : AV} {hp hs : Heap} {K : Heap -> List Cl -> Prop} (h : Yq7 a x hp hs K) (hpart : PartOf hs hp) : ∃ hs' d, K hs' d /\ PartOf hs' hp /\ (∀ p ∈ hs, p ∈ hs') /\
  ∀ (φ : Phi) (w0 : World) (M : List Nat) (L : RL) (w : World), At' hs' φ w0 M L w -> @Yvy (atW w) a (x.conc φ) d := by
 unfold Yq7 at h
 split at h
 ·obtain ⟨hs1, c, h1, h2, h3, h4, h5⟩ := Yh8 4 _ _ _ _ _ h hpart;exact ⟨hs1, _, h1, h2, h3, fun φ w0 M L w hA => ⟨c, rfl, h5 φ w0 M L w hA.1 hA.2, h4⟩⟩
 ·split at h
  ·obtain ⟨hs2, cs, k1, k2, k3, k4, k5, k6⟩ := Ydz h hpart;exact ⟨hs2, cs, k1, k2, k3, fun φ w0 M L w hA => ⟨_, rfl, by rw [Yd, k4], k5, k6 φ w0 M L w hA⟩⟩
  ·obtain ⟨hs2, cs, k1, k2, k3, k4, k5, k6⟩ := Ydz (Yde.1 h) hpart;refine ⟨hs2, cs, k1, k2, k3, fun φ w0 M L w hA => ⟨_, ?_, by rw [Yd, k4], k5, k6 φ w0 M L w hA⟩⟩;simp [AV.conc, Yz, Function.comp_def]
  ·exact h.elim
theorem Yhm : ∀ {ats : List AT} {xs : List AV} {hp hs : Heap} {K : Heap -> DS -> Prop}, Ynm ats xs hp hs K -> PartOf hs hp -> ∃ hs' ds, K hs' ds /\ PartOf hs' hp /\ (∀ p ∈ hs, p ∈ hs') /\
  ∀ (φ : Phi) (w0 : World) (M : List Nat) (L : RL) (w : World), At' hs' φ w0 M L w -> @Yr7 (atW w) ats (AV.concL φ xs) ds
 | [], [], hp, hs, K, h, hpart => ⟨hs, [], h, hpart, fun p hp => hp, fun φ w0 M L w _ => ⟨rfl, rfl⟩⟩
 | a :: ats, x :: xs, hp, hs, K, h, hpart => by
  obtain ⟨hs1, d, h1, h2, h3, h4⟩ := Ypg h hpart;obtain ⟨hs2, ds, k1, k2, k3, k4⟩ := Yhm h1 h2;exact ⟨hs2, d :: ds, k1, k2, fun p hp => k3 p (h3 p hp), fun φ w0 M L w hA => ⟨_, _, _, _, rfl, rfl, h4 φ w0 M L w (hA.mono k3), k4 φ w0 M L w hA⟩⟩
 | [], _ :: _, _, _, _, h, _ => h.elim
 | _ :: _, [], _, _, _, h, _ => h.elim
end
theorem Yqg (W1 W2 : InW) (φ : Phi) (d : Nat) : ∀ (rs : RTs) (j : Nat) (ds : DS), @AV.concL W1 φ (@Yjr W1 d j rs ds) = @AV.concL W2 φ (@Yjr W2 d j rs ds) := by
 have cells : ∀ (ts : List RTy) (j : Nat) (cs : List Cl), @AV.concL W1 φ (@Ycm W1 d j ts cs) = @AV.concL W2 φ (@Ycm W2 d j ts cs) := by
  intro ts
  induction ts with
  | nil => intro j cs; rfl
  | cons t ts ih =>
   intro j cs;simp only [Ycm, AV.concL, ih (j + 1) cs.tail];cases t <;> rfl
 have one : ∀ (ts : List RTy) (j : Nat) (cs : List Cl), @AV.conc W1 φ (@Yt9 W1 (@Ycm W1 d j ts cs)) = @AV.conc W2 φ (@Yt9 W2 (@Ycm W2 d j ts cs)) := by
  intro ts j cs;have := cells ts j cs
  match ts with
  | [] => rfl
  | [t] => cases t <;> rfl
  | _ :: _ :: _ => rfl
 intro rs
 induction rs with
 | nil => intro j ds; rfl
 | cons r rs ih =>
  intro j ds;obtain ⟨g, ts⟩ := r;simp only [Yjr, AV.concL, ih (j + ts.length) ds.tail, List.cons.injEq, and_true];cases g with
  | true => simp only [AV.conc, cells ts j (ds.headD [])]
  | false => exact one ts j (ds.headD [])
theorem Yt7 (W1 W2 : InW) (φ : Phi) (xs : List (@AV W1)) (ys : List (@AV W2)) (h : @AV.concL W1 φ xs = @AV.concL W2 φ ys) : @AV.conc W1 φ (@outA W1 xs) = @AV.conc W2 φ (@outA W2 ys) := by
 match xs, ys with
 | [], [] => rfl
 | [x], [y] =>
  show @AV.conc W1 φ x = @AV.conc W2 φ y
  simpa [AV.concL] using h
 | _ :: _ :: _, _ :: _ :: _ => simp only [outA, AV.conc, h]
 | [], _ :: _ => simp [AV.concL] at h
 | _ :: _, [] => simp [AV.concL] at h
 | [_], _ :: _ :: _ => simp [AV.concL] at h
 | _ :: _ :: _, [_] => simp [AV.concL] at h
theorem Ysn (W1 W2 : InW) (φ : Phi) (d : Nat) : ∀ (rs : RTs) (j : Nat) (ds : DS), @Yc W1 φ (@Yef W1 d j rs ds) = @Yc W2 φ (@Yef W2 d j rs ds) := by
 have cells : ∀ (ts : List RTy) (j : Nat) (cs : List Cl), @Yc W1 φ (@Ybp W1 d j ts cs) = @Yc W2 φ (@Ybp W2 d j ts cs) := by
  intro ts
  induction ts with
  | nil => intro j cs; rfl
  | cons t ts ih =>
   intro j cs;simp only [Ybp, Yn, ih (j + 1) cs.tail];cases t <;> rfl
 intro rs
 induction rs with
 | nil => intro j ds; rfl
 | cons r rs ih =>
  intro j ds;obtain ⟨g, ts⟩ := r;simp only [Yef, Yn, ih (j + ts.length) ds.tail, cells ts j (ds.headD [])]
theorem Ysm (W1 W2 : InW) (d : Nat) : ∀ (rs : RTs) (j : Nat) (ds : DS), @keys W1 (@Yef W1 d j rs ds) = @keys W2 (@Yef W2 d j rs ds) := by
 have cells : ∀ (ts : List RTy) (j : Nat) (cs : List Cl), @keys W1 (@Ybp W1 d j ts cs) = @keys W2 (@Ybp W2 d j ts cs) := by
  intro ts
  induction ts with
  | nil => intro j cs; rfl
  | cons t ts ih =>
   intro j cs;simp only [Ybp, Ybz, ih (j + 1) cs.tail];cases t <;> rfl
 intro rs
 induction rs with
 | nil => intro j ds; rfl
 | cons r rs ih =>
  intro j ds;obtain ⟨g, ts⟩ := r;simp only [Yef, Ybz, ih (j + ts.length) ds.tail, cells ts j (ds.headD [])]
section
variable [W : InW]
def Yqj {P : Program} (pc : PC P) (args : List AV) (hp : Heap) (d : Nat) (k : KE) : Prop :=
 Yb (Nat.blt d 1024) (Ynm pc.ats args hp [] fun hs ds => Pre (pc.pre ds) (k (Yt0 d pc.rs (pc.res ds)) hs [] (Yef d 0 pc.rs (pc.res ds))))
theorem Yss {P : Program} {pc : PC P} {args : List AV} {hp : Heap} {d : Nat} {k : KE} (h : Yqj pc args hp d k) :
  ∃ val hs us nw, k val hs us nw /\ PartOf hs hp /\ (∀ i ∈ keys us, i ∈ keys hs) /\ Yfx P pc.g args hs false val us nw := by
 obtain ⟨hd, h⟩ := Ya h;obtain ⟨hs, ds, h1, h2, _, h4⟩ := Yhm h (PartOf.nil hp);obtain ⟨hpre, hk⟩ := h1;refine ⟨_, _, _, _, hk, h2, Ye5, fun φ w0 M R w hnew hS => ?_⟩;have hA : At' hs φ w0 M (Yc φ hs ++ R) w := ⟨hS, fun p hp => List.mem_append_left _ (List.mem_map.2 ⟨p, hp, rfl⟩)⟩;obtain ⟨xs, hx, hxc⟩ := @Ykw (atW w) _ _ _ (h4 φ w0 M _ w hA);have hc := pc.ok (atW w) xs ds hx hpre d (by simpa [Nat.blt_eq] using hd);have hkeys := Ysm W (atW w) d pc.rs 0 (pc.res ds);have hxs : ∀ i, @AV.hasL (atW w) i xs = false := fun i => @Yia (atW w) _ _ ds hx i;have := hc φ w [] [] w (fun i hi => ⟨hxs i, rfl⟩) (by simpa [Yc] using hS.now);rw [hxc φ] at this;refine this.mono fun e w' ⟨φ', hag, he, hS'⟩ => ⟨φ', by rw [hkeys]; exact hag, ?_, ?_⟩
 ·rw [he];unfold Yt0;rw [Yt7 W (atW w) φ' _ _ (Yqg W (atW w) φ' d pc.rs 0 _)]
 ·have h5 := hS.back (by simpa [Yh] using hS');rw [<- Ysn W (atW w)] at h5;have e1 : Yc φ hs = Yc φ' hs := (Ybr hag fun i hi => (hnew i (by rw [hkeys]; exact hi)).2).symm;rw [e1] at h5;simp only [Yh];rw [Yn];refine h5.perm ?_;rw [<- List.append_assoc];exact List.perm_append_comm.append_right R
end
end Go.Proofs.Ytmogofidmchdoaa
namespace Go.Proofs.Ytmogofidmchdoaa
open Go.RowKit
attribute [local irreducible] Go.Oper.wp
section
variable [W : InW]
def delK : Heap -> Nat -> (Heap -> Prop) -> Prop
 | [], _, _ => Stuck 411
 | p :: h, i, K => match Nat.beq p.1 i with | true => K h | false => delK h i fun r => K (p :: r)
theorem Ykj {i : Nat} {x : It} : ∀ {h : Heap} {K : Heap -> Prop}, delK h i K -> look h i = some x -> ∃ h', K h' /\ h.Perm ((i, x) :: h')
 | [], _, h, _ => h.elim
 | p :: h, K, hk, hl => by
  unfold delK at hk;rw [Yr] at hl;cases hb : Nat.beq p.1 i with
  | true =>
   rw [hb] at hk;have e := Ye.1 hb;rw [if_pos e] at hl;cases hl;exact ⟨h, hk, by subst e; exact List.Perm.refl _⟩
  | false =>
   rw [hb] at hk;rw [if_neg (Y2.1 hb)] at hl;obtain ⟨h', h1, h2⟩ := Ykj hk hl;exact ⟨_, h1, (h2.cons p).trans (List.Perm.swap _ _ _)⟩
theorem Yh7 {i : Nat} {x : It} : ∀ {h : Heap} {K : Heap -> Prop}, delK h i K -> look h i = some x -> ∃ h', K h' /\ h.Perm ((i, x) :: h') /\ h'.Sublist h
 | [], _, h, _ => h.elim
 | p :: h, K, hk, hl => by
  unfold delK at hk;rw [Yr] at hl;cases hb : Nat.beq p.1 i with
  | true =>
   rw [hb] at hk;have e := Ye.1 hb;rw [if_pos e] at hl;cases hl;exact ⟨h, hk, by subst e; exact List.Perm.refl _, List.sublist_cons_self _ _⟩
  | false =>
   rw [hb] at hk;rw [if_neg (Y2.1 hb)] at hl;obtain ⟨h', h1, h2, h3⟩ := Yh7 hk hl;exact ⟨_, h1, (h2.cons p).trans (List.Perm.swap _ _ _), h3.cons_cons p⟩
def RTy.isRow : RTy -> Bool
 | .row _ _ => true
 | _ => false
def rcK (t : RTy) (x : AV) (nw : Heap) (K : Cl -> Heap -> Prop) : Prop :=
 match t with
 | .int k => clK (.int k) x fun c => K c nw
 | .bool => clK .bool x fun c => K c nw
 | .str => clK .str x fun c => K c nw
 | .row T ts => (match x with
  | .v (.slice none 0 0) => K (.l []) nw
  | .rw id => Y9 nw id fun it => (match it with
   | .arr T' ts' xs => Yb (Nat.beq T' T && Ycd.sameTs ts' ts && Nat.ble 1 ts.length) (delK nw id fun nw => K (.l xs) nw)
   | _ => Stuck 412)
  | .sl id 0 0 n => Y9 nw id fun it => (match it with
   | .row T' sz n' cs => Yb (Nat.beq T' T && Nat.beq sz ts.length && Nat.beq n' n) (Yqd ts n cs fun ys => delK nw id fun nw => K (.l ys) nw)
   | _ => Stuck 413)
  | _ => Stuck 414)
theorem Ywd {d j : Nat} {t : RTy} {x : AV} {nw : Heap} {K : Cl -> Heap -> Prop} (h : rcK t x nw K) : ∃ c nw', K c nw' /\
  ∀ (φ : Phi) (w0 : World) (M : List Nat) (A R : RL) (w : World), St w0 M (A ++ (Yc φ nw ++ R)) w -> ∃ hd : Hd, ∀ φ' : Phi, (t.isRow = true -> φ' (Yeh d j) = hd) -> (t.av d j c).conc φ' = x.conc φ /\ St w0 M (A ++ (Yc φ' (t.hp d j c) ++ (Yc φ nw' ++ R))) w := by
 unfold rcK at h;have plain : ∀ (ty : Ty) (c : Cl), (∀ φ, x.conc φ = ty.val c) -> (∀ φ' : Phi, (t.av d j c).conc φ' = ty.val c) -> t.hp d j c = [] -> ∀ (φ : Phi) (w0 : World) (M : List Nat) (A R : RL) (w : World), St w0 M (A ++ (Yc φ nw ++ R)) w -> ∃ hd : Hd, ∀ φ' : Phi, (t.isRow = true -> φ' (Yeh d j) = hd) -> (t.av d j c).conc φ' = x.conc φ /\ St w0 M (A ++ (Yc φ' (t.hp d j c) ++ (Yc φ nw ++ R))) w :=
  fun ty c h1 h2 h3 φ w0 M A R w hS => ⟨⟨0, true, 0, none, 0, undef⟩, fun φ' _ => ⟨by rw [h1 φ, h2 φ'], by rw [h3]; exact hS⟩⟩
 have perm3 : ∀ {r : Res} {A L R : RL} {w0 w : World} {M : List Nat}, St w0 M (A ++ ((r :: L) ++ R)) w -> St w0 M (A ++ ([r] ++ (L ++ R))) w := fun h => by simpa using h
 split at h
 ·obtain ⟨c, h1, h2, _⟩ := Yi2 h;exact ⟨c, nw, h1, plain _ c h2 (fun φ' => rfl) rfl⟩
 ·obtain ⟨c, h1, h2, _⟩ := Yi2 h;exact ⟨c, nw, h1, plain _ c h2 (fun φ' => rfl) rfl⟩
 ·obtain ⟨c, h1, h2, _⟩ := Yi2 h;exact ⟨c, nw, h1, plain _ c h2 (fun φ' => rfl) rfl⟩
 ·rename_i T ts
  split at h
  ·refine ⟨_, nw, h, fun φ w0 M A R w hS => ⟨⟨0, true, 0, none, 0, undef⟩, fun φ' he' => ?_⟩⟩;have he := he' rfl;refine ⟨by simp only [RTy.av, AV.conc, he]; rfl, ?_⟩;have h1 := hS.add (Ext.refl _) (r := .row (.slice none 0 0) T ts.length 0 []) ⟨by simp, .inl ⟨rfl, rfl⟩⟩ (by simp [Res.foot, Value.ownBlock]);simp only [RTy.hp, Yc, List.map_cons, List.map_nil, It.conc, he];exact h1.perm (by simp only [if_true, Cl.lst, Yt, List.cons_append, List.nil_append]; exact List.perm_middle.symm)
  ·rename_i id;obtain ⟨it, hl, h0⟩ := Yg h
   split at h0
   ·rename_i T' ts' xs;obtain ⟨h1, h2⟩ := Ya h0;simp only [Bool.and_eq_true, Ye, Nat.ble_eq] at h1;obtain ⟨⟨rfl, h12⟩, h13⟩ := h1;obtain ⟨rfl, _⟩ := Y7 h12;obtain ⟨nw', h3, h4⟩ := Ykj h2 hl;refine ⟨_, nw', h3, fun φ w0 M A R w hS => ⟨φ id, fun φ' he' => ?_⟩⟩;have he := he' rfl;refine ⟨by simp only [RTy.av, AV.conc, he], ?_⟩;have h5 : St w0 M (A ++ (Yc φ ((id, .arr T' ts' xs) :: nw') ++ R)) w := hS.perm ((((Yu h4).append_right R)).append_left A);simp only [RTy.hp, Yc, List.map_cons, List.map_nil, It.conc, he, Cl.lst];exact perm3 h5
   ·exact h0.elim
  ·rename_i id n;obtain ⟨it, hl, h0⟩ := Yg h
   split at h0
   ·rename_i T' sz n' cs;obtain ⟨h1, h2⟩ := Ya h0;simp only [Bool.and_eq_true, Ye] at h1;obtain ⟨⟨rfl, rfl⟩, rfl⟩ := h1;obtain ⟨ys, h3, h4, h5, _⟩ := Yc4 h2;obtain ⟨nw', h6, h7⟩ := Ykj h3 hl;refine ⟨_, nw', h6, fun φ w0 M A R w hS => ⟨{ φ id with fn := n' }, fun φ' he' => ?_⟩⟩;have he := he' rfl;refine ⟨by simp [RTy.av, AV.conc, he], ?_⟩;have h8 : St w0 M (A ++ (Yc φ ((id, .row T' ts.length n' cs) :: nw') ++ R)) w := hS.perm ((((Yu h7).append_right R)).append_left A);simp only [RTy.hp, Yc, List.map_cons, List.map_nil, It.conc, he, Cl.lst] at h8 ⊢;rw [<- h5 φ];exact perm3 h8
   ·exact h0.elim
  ·exact h.elim
def rcsK : List RTy -> List AV -> Heap -> (List Cl -> Heap -> Prop) -> Prop
 | [], [], nw, K => K [] nw
 | t :: ts, x :: xs, nw, K => rcK t x nw fun c nw => rcsK ts xs nw fun cs nw => K (c :: cs) nw
 | _, _, _, _ => Stuck 415
def Hds (φ' : Phi) (d : Nat) : Nat -> List RTy -> List Hd -> Prop
 | _, [], _ => True
 | j, t :: ts, hds => (t.isRow = true -> some (φ' (Yeh d j)) = hds.head?) /\ Hds φ' d (j + 1) ts hds.tail
theorem Hds.app {φ' : Phi} {d : Nat} {b : List RTy} {hb : List Hd} : ∀ {j : Nat} {a : List RTy} {ha : List Hd}, ha.length = a.length -> Hds φ' d j (a ++ b) (ha ++ hb) -> Hds φ' d j a ha /\ Hds φ' d (j + a.length) b hb
 | j, [], [], _, h => ⟨trivial, h⟩
 | j, t :: a, hd :: ha, hl, h => by
  obtain ⟨h1, h2⟩ := h;obtain ⟨h3, h4⟩ := Hds.app (j := j + 1) (a := a) (ha := ha) (by simpa using hl) h2;exact ⟨⟨h1, h3⟩, by rw [List.length_cons, show j + (a.length + 1) = j + 1 + a.length by omega]; exact h4⟩
 | j, [], _ :: _, hl, _ => by simp at hl
 | j, _ :: _, [], hl, _ => by simp at hl
def Yd6 (φ : Phi) (d : Nat) : Nat -> List RTy -> List Hd -> Phi
 | _, [], _ => φ
 | j, t :: ts, hds => fun i => if t.isRow = true /\ i = Yeh d j then (match hds.head? with | some hd => hd | none => φ i) else Yd6 φ d (j + 1) ts hds.tail i
theorem Yuf {d j k : Nat} (hd : d < 1024) (h : Yeh d j = Yeh d k) : j = k := by unfold Yeh at h; omega
theorem Yhc {φ : Phi} {d : Nat} (hd : d < 1024) : ∀ {ts : List RTy} {j : Nat} {hds : List Hd}, hds.length = ts.length -> Hds (Yd6 φ d j ts hds) d j ts hds
 | [], _, _, _ => trivial
 | t :: ts, j, [], hl => by simp at hl
 | t :: ts, j, x :: hds, hl => by
  refine ⟨fun ht => by simp [Yd6, ht], ?_⟩;have key : ∀ {φ1 φ2 : Phi} {us : List RTy} {m : Nat} {hs : List Hd}, (∀ k, m <= k -> φ1 (Yeh d k) = φ2 (Yeh d k)) -> Hds φ2 d m us hs -> Hds φ1 d m us hs := by
   intro φ1 φ2 us
   induction us with
   | nil => intro m hs _ _; trivial
   | cons u us ih => intro m hs he hh; exact ⟨fun hu => by rw [he m (Nat.le_refl _)]; exact hh.1 hu, ih (fun k hk => he k (by omega)) hh.2⟩
  refine key (fun k hk => ?_) (Yhc (φ := φ) hd (j := j + 1) (hds := hds) (by simpa using hl))
  show (if t.isRow = true /\ Yeh d k = Yeh d j then _ else _) = _
  rw [if_neg (fun hh => by have := Yuf hd hh.2; omega)];rfl
theorem Yg0 {d : Nat} : ∀ {ts : List RTy} {xs : List AV} {j : Nat} {nw : Heap} {K : List Cl -> Heap -> Prop}, rcsK ts xs nw K -> ∃ cs nw', K cs nw' /\
  ∀ (φ : Phi) (w0 : World) (M : List Nat) (A R : RL) (w : World), St w0 M (A ++ (Yc φ nw ++ R)) w -> ∃ hds : List Hd, hds.length = ts.length /\ ∀ φ' : Phi, Hds φ' d j ts hds -> AV.concL φ' (Ycm d j ts cs) = AV.concL φ xs /\ St w0 M (A ++ (Yc φ' (Ybp d j ts cs) ++ (Yc φ nw' ++ R))) w
 | [], [], j, nw, K, h => ⟨[], nw, h, fun φ w0 M A R w hS => ⟨[], rfl, fun φ' _ => ⟨rfl, by simpa [Ybp, Yc] using hS⟩⟩⟩
 | t :: ts, x :: xs, j, nw, K, h => by
  obtain ⟨c, nw1, h1, h2⟩ := Ywd (d := d) (j := j) h;obtain ⟨cs, nw2, h3, h4⟩ := Yg0 (d := d) (j := j + 1) h1;refine ⟨c :: cs, nw2, h3, fun φ w0 M A R w hS => ?_⟩;obtain ⟨hd, k1⟩ := h2 φ w0 M A R w hS;have k1' := (k1 (fun i => if i = Yeh d j then hd else φ i) (by simp)).2;obtain ⟨hds, k2, k3⟩ := h4 φ w0 M (A ++ Yc (fun i => if i = Yeh d j then hd else φ i) (t.hp d j c)) R w (by rw [List.append_assoc]; exact k1');refine ⟨hd :: hds, by simp [k2], fun φ' hφ => ?_⟩;obtain ⟨a1, a2⟩ := k3 φ' hφ.2;have hh : t.isRow = true -> φ' (Yeh d j) = hd := fun ht => Option.some.inj (hφ.1 ht);obtain ⟨b1, _⟩ := k1 φ' hh;have e : Yc (fun i => if i = Yeh d j then hd else φ i) (t.hp d j c) = Yc φ' (t.hp d j c) := by
   cases t with
   | row T ts => have := hh rfl; simp [RTy.hp, Yc, It.conc, this]
   | _ => rfl
  rw [e, List.append_assoc] at a2;refine ⟨by simp only [Ycm, AV.concL, List.headD_cons, List.tail_cons, a1, b1], ?_⟩;simp only [Ybp, List.headD_cons, List.tail_cons, Yn, List.append_assoc] at a2 ⊢;exact a2
 | [], _ :: _, _, _, _, h => h.elim
 | _ :: _, [], _, _, _, h => h.elim
def Ywb (g : Bool) (ts : List RTy) (x : AV) (nw : Heap) (K : List Cl -> Heap -> Prop) : Prop :=
 match g with
 | false => rcsK ts [x] nw K
 | true => (match x with | .agg xs => rcsK ts xs nw K | .v (.agg cs) => Yna cs.toList fun xs => rcsK ts xs nw K | _ => Stuck 416)
def Yof : RTs -> List AV -> Heap -> (DS -> Heap -> Prop) -> Prop
 | [], [], nw, K => K [] nw
 | (g, ts) :: rs, x :: xs, nw, K => Ywb g ts x nw fun d nw => Yof rs xs nw fun ds nw => K (d :: ds) nw
 | _, _, _, _ => Stuck 417
def Yh4 : RTs -> List RTy
 | [] => []
 | (_, ts) :: rs => ts ++ Yh4 rs
theorem Ysk {d j : Nat} {g : Bool} {ts : List RTy} {x : AV} {nw : Heap} {K : List Cl -> Heap -> Prop} (h : Ywb g ts x nw K) : ∃ cs nw', K cs nw' /\
  ∀ (φ : Phi) (w0 : World) (M : List Nat) (A R : RL) (w : World), St w0 M (A ++ (Yc φ nw ++ R)) w -> ∃ hds : List Hd, hds.length = ts.length /\ ∀ φ' : Phi, Hds φ' d j ts hds ->
   (match g with | true => AV.agg (Ycm d j ts cs) | false => Yt9 (Ycm d j ts cs)).conc φ' = x.conc φ /\ St w0 M (A ++ (Yc φ' (Ybp d j ts cs) ++ (Yc φ nw' ++ R))) w := by
 unfold Ywb at h;cases g with
 | false =>
  obtain ⟨cs, nw', h1, h2⟩ := Yg0 (d := d) (j := j) h;refine ⟨cs, nw', h1, fun φ w0 M A R w hS => ?_⟩;obtain ⟨hds, h3, h4⟩ := h2 φ w0 M A R w hS;refine ⟨hds, h3, fun φ' hφ => ?_⟩;obtain ⟨a1, a2⟩ := h4 φ' hφ;refine ⟨?_, a2⟩
  match hc : Ycm d j ts cs with
  | [y] => rw [hc] at a1; simpa [AV.concL, Yt9] using a1
  | [] => rw [hc] at a1; simp [AV.concL] at a1
  | _ :: _ :: _ => rw [hc] at a1; simp [AV.concL] at a1
 | true =>
  dsimp only at h
  split at h
  ·obtain ⟨cs, nw', h1, h2⟩ := Yg0 (d := d) (j := j) h;refine ⟨cs, nw', h1, fun φ w0 M A R w hS => ?_⟩;obtain ⟨hds, h3, h4⟩ := h2 φ w0 M A R w hS;exact ⟨hds, h3, fun φ' hφ => ⟨by simp only [AV.conc, (h4 φ' hφ).1], (h4 φ' hφ).2⟩⟩
  ·obtain ⟨cs, nw', h1, h2⟩ := Yg0 (d := d) (j := j) (Yde.1 h);refine ⟨cs, nw', h1, fun φ w0 M A R w hS => ?_⟩;obtain ⟨hds, h3, h4⟩ := h2 φ w0 M A R w hS;exact ⟨hds, h3, fun φ' hφ => ⟨by simp [AV.conc, (h4 φ' hφ).1, Yz, Function.comp_def], (h4 φ' hφ).2⟩⟩
  ·exact h.elim
theorem Yjo {d : Nat} (hd1 : d < 1024) : ∀ {rs : RTs} {xs : List AV} {j : Nat} {nw : Heap} {K : DS -> Heap -> Prop}, Yof rs xs nw K -> ∃ ds nw', K ds nw' /\
  ∀ (φ : Phi) (w0 : World) (M : List Nat) (A R : RL) (w : World), St w0 M (A ++ (Yc φ nw ++ R)) w -> ∃ hds : List Hd, hds.length = (Yh4 rs).length /\ ∀ φ' : Phi, Hds φ' d j (Yh4 rs) hds -> AV.concL φ' (Yjr d j rs ds) = AV.concL φ xs /\ St w0 M (A ++ (Yc φ' (Yef d j rs ds) ++ (Yc φ nw' ++ R))) w
 | [], [], j, nw, K, h => ⟨[], nw, h, fun φ w0 M A R w hS => ⟨[], rfl, fun φ' _ => ⟨rfl, by simpa [Yef, Yc] using hS⟩⟩⟩
 | (g, ts) :: rs, x :: xs, j, nw, K, h => by
  obtain ⟨c, nw1, h1, h2⟩ := Ysk (d := d) (j := j) h;obtain ⟨cs, nw2, h3, h4⟩ := Yjo hd1 (j := j + ts.length) h1;refine ⟨c :: cs, nw2, h3, fun φ w0 M A R w hS => ?_⟩;obtain ⟨hds, k0, k1⟩ := h2 φ w0 M A R w hS;have k1' := (k1 (Yd6 φ d j ts hds) (Yhc hd1 k0)).2;obtain ⟨hds2, m0, m1⟩ := h4 φ w0 M (A ++ Yc (Yd6 φ d j ts hds) (Ybp d j ts c)) R w (by rw [List.append_assoc]; exact k1');refine ⟨hds ++ hds2, by simp [k0, m0, Yh4], fun φ' hφ => ?_⟩;obtain ⟨hl, hr⟩ := Hds.app (a := ts) (b := Yh4 rs) k0 hφ;obtain ⟨a1, a2⟩ := m1 φ' hr;obtain ⟨b1, b2⟩ := k1 φ' hl;have e : Yc (Yd6 φ d j ts hds) (Ybp d j ts c) = Yc φ' (Ybp d j ts c) := by
   have key : ∀ (φ1 : Phi) (ts : List RTy) (j : Nat) (hds : List Hd) (c : List Cl), hds.length = ts.length -> Hds φ1 d j ts hds -> Hds φ' d j ts hds -> Yc φ1 (Ybp d j ts c) = Yc φ' (Ybp d j ts c) := by
    intro φ1 ts
    induction ts with
    | nil => intro j hds c _ _ _; rfl
    | cons t ts ih =>
     intro j hds c hl h1 h2;cases hds with
     | nil => simp at hl
     | cons hd hds =>
      simp only [Ybp, Yn, ih (j + 1) hds c.tail (by simpa using hl) h1.2 h2.2]
      congr 1
      cases t with
      | row T ts =>
       have e1 : φ1 (Yeh d j) = hd := Option.some.inj (h1.1 rfl);have e2 : φ' (Yeh d j) = hd := Option.some.inj (h2.1 rfl);simp [RTy.hp, Yc, It.conc, e1, e2]
      | _ => rfl
   exact key _ ts j hds c k0 (Yhc hd1 k0) hl
  rw [e, List.append_assoc] at a2;refine ⟨?_, ?_⟩
  ·simp only [Yjr, AV.concL, List.headD_cons, List.tail_cons, a1];cases g <;> simp_all
  ·simp only [Yef, List.headD_cons, List.tail_cons, Yn, List.append_assoc] at a2 ⊢;exact a2
 | [], _ :: _, _, _, _, h => h.elim
 | _ :: _, [], _, _, _, h => h.elim
theorem Yo2 {φ : Phi} {d : Nat} (hd1 : d < 1024) (rs : RTs) (ds : DS) : ∀ (hds : List Hd), Agree (keys (Yef d 0 rs ds)) φ (Yd6 φ d 0 (Yh4 rs) hds) := by
 have cells : ∀ (ts : List RTy) (j : Nat) (cs : List Cl) (us : List RTy) (hds : List Hd) (i : Nat), i ∉ keys (Ybp d j ts cs) -> Yd6 φ d (j + ts.length) us (hds.drop ts.length) i = φ i -> Yd6 φ d j (ts ++ us) hds i = φ i := by
  intro ts
  induction ts with
  | nil => intro j cs us hds i _ h; simpa using h
  | cons t ts ih =>
   intro j cs us hds i hi h;simp only [Ybp, Ybz, List.mem_append, not_or] at hi;simp only [List.cons_append, Yd6];rw [if_neg]
   ·refine ih (j + 1) cs.tail us hds.tail i hi.2 ?_;rw [show j + 1 + ts.length = j + (t :: ts).length by simp; omega];simpa [List.drop_tail] using h
   ·rintro ⟨h1, h2⟩;cases t <;> simp [RTy.isRow] at h1;exact hi.1 (by simp [RTy.hp, keys, h2])
 have all : ∀ (rs : RTs) (j : Nat) (ds : DS) (hds : List Hd) (i : Nat), i ∉ keys (Yef d j rs ds) -> Yd6 φ d j (Yh4 rs) hds i = φ i := by
  intro rs
  induction rs with
  | nil => intro j ds hds i _; rfl
  | cons r rs ih =>
   intro j ds hds i hi;obtain ⟨g, ts⟩ := r;simp only [Yef, Ybz, List.mem_append, not_or] at hi;exact cells ts j _ _ hds i hi.1 (ih _ _ _ i hi.2)
 exact fun hds i hi => all rs 0 ds hds i hi
theorem Yt6 {φ φ' : Phi} {xs ys : List AV} (h : AV.concL φ xs = AV.concL φ' ys) : (outA xs).conc φ = (outA ys).conc φ' := by
 match xs, ys with
 | [], [] => rfl
 | [x], [y] =>
  show x.conc φ = y.conc φ'
  simpa [AV.concL] using h
 | _ :: _ :: _, _ :: _ :: _ => simp only [outA, AV.conc, h]
 | [], _ :: _ => simp [AV.concL] at h
 | _ :: _, [] => simp [AV.concL] at h
 | [_], _ :: _ :: _ => simp [AV.concL] at h
 | _ :: _ :: _, [_] => simp [AV.concL] at h
def Ywt (rs : RTs) (Q : DS -> Prop) (val : AV) (_hs us nw : Heap) : Prop :=
 match us with
 | [] => (match rs with
  | [(g, ts)] => Ywb g ts val nw fun d _ => Q [d]
  | _ => (match val with | .tup vs => (match vs with | [_] => Stuck 420 | vs => Yof rs vs nw fun ds _ => Q ds) | _ => Stuck 418))
 | _ :: _ => Stuck 419
theorem Ys2 {d : Nat} (hd1 : d < 1024) {rs : RTs} {Q : DS -> Prop} {val : AV} {hs us nw : Heap} (h : Ywt rs Q val hs us nw) : us = [] /\ ∃ ds, Q ds /\
  ∀ (φ : Phi) (w0 : World) (M : List Nat) (R : RL) (w : World), St w0 M (Yc φ nw ++ R) w -> ∃ hds : List Hd, hds.length = (Yh4 rs).length /\ ∀ φ' : Phi, Hds φ' d 0 (Yh4 rs) hds -> (Yt0 d rs ds).conc φ' = val.conc φ /\ St w0 M (Yc φ' (Yef d 0 rs ds) ++ R) w := by
 have fin : ∀ {vs : List AV}, (∀ φ, (outA vs).conc φ = val.conc φ) -> (Yof rs vs nw fun ds _ => Q ds) -> ∃ ds, Q ds /\
  ∀ (φ : Phi) (w0 : World) (M : List Nat) (R : RL) (w : World), St w0 M (Yc φ nw ++ R) w -> ∃ hds : List Hd, hds.length = (Yh4 rs).length /\ ∀ φ' : Phi, Hds φ' d 0 (Yh4 rs) hds -> (Yt0 d rs ds).conc φ' = val.conc φ /\ St w0 M (Yc φ' (Yef d 0 rs ds) ++ R) w := by
  intro vs hv h;obtain ⟨ds, nw', h1, h2⟩ := Yjo hd1 (j := 0) h;refine ⟨ds, h1, fun φ w0 M R w hS => ?_⟩;obtain ⟨hds, h3, h4⟩ := h2 φ w0 M [] R w (by simpa using hS);refine ⟨hds, h3, fun φ' hφ => ?_⟩;obtain ⟨a1, a2⟩ := h4 φ' hφ;refine ⟨by rw [<- hv φ]; exact Yt6 a1, ?_⟩;simp only [List.nil_append] at a2;refine a2.sub ?_;exact (List.Sublist.refl _).append (List.sublist_append_right _ _)
 unfold Ywt at h
 split at h
 ·refine ⟨rfl, ?_⟩
  split at h
  ·rename_i g ts;exact fin (vs := [val]) (fun φ => rfl) (by unfold Yof; exact h)
  ·split at h
   ·split at h
    ·exact h.elim
    ·rename_i vs _ hne;refine fin (vs := vs) (fun φ => ?_) h
     match vs with
     | [] => rfl
     | [v] => exact (hne v rfl).elim
     | _ :: _ :: _ => rfl
   ·exact h.elim
 ·exact h.elim
end
end Go.Proofs.Ytmogofidmchdoaa
namespace Go.Proofs.Ytmogofidmchdoaa
open Go.RowKit
attribute [local irreducible] Go.Oper.wp
abbrev Yyx (W : InW) := List (@AV W) -> @Heap W -> (@AX W -> List (@AV W) -> @Heap W -> Prop) -> Prop
structure LE (P : Program) where
 g : FuncId
 key : Nat
 f : (W : InW) -> Yyx W
 ok : ∀ (W : InW) (body a : Code), (P.funcs[g]?).bind (·.body) = some body -> a ∈ Ys body -> Ye9 a = key -> @Yk2 W P a (f W)
structure CE (P : Program) where
 g : FuncId
 test : (W : InW) -> List (@AV W) -> @Heap W -> Bool
 f : (W : InW) -> List (@AV W) -> @Heap W -> @KE W -> @KE W -> Prop
 ok : ∀ (W : InW) (args : List (@AV W)) (hp : @Heap W) (k kp : @KE W), f W args hp k kp ->
  (∃ val hs us nw, k val hs us nw /\ @PartOf W hs hp /\ (∀ i ∈ @keys W us, i ∈ @keys W hs) /\ @Yfx W P g args hs false val us nw) \/
  (∃ val hs us nw, kp val hs us nw /\ @PartOf W hs hp /\ (∀ i ∈ @keys W us, i ∈ @keys W hs) /\ @Yfx W P g args hs true val us nw)
structure Tab (P : Program) where
 pcs : List (PC P)
 les : List (LE P)
 ces : List (CE P)
def Yme {P : Program} (W : InW) (g : FuncId) (args : List (@AV W)) (hp : @Heap W) : List (CE P) -> Option (CE P)
 | [] => none
 | e :: es => match Nat.beq e.g g with
  | false => Yme W g args hp es
  | true => match e.test W args hp with | true => some e | false => Yme W g args hp es
theorem Yni {P : Program} {W : InW} {g : FuncId} {args : List (@AV W)} {hp : @Heap W} : ∀ {es : List (CE P)} {e : CE P}, Yme W g args hp es = some e -> e.g = g
 | [], _, h => by cases h
 | q :: es, e, h => by
  unfold Yme at h
  split at h
  ·exact Yni h
  ·rename_i hb
   split at h
   ·cases h; exact Nat.eq_of_beq_eq_true hb
   ·exact Yni h
def Yo9 {P : Program} : List (PC P) -> FuncId -> Option (PC P)
 | [], _ => none
 | p :: ps, g => match Nat.beq p.g g with | true => some p | false => Yo9 ps g
def Ypa {P : Program} (W : InW) : List (LE P) -> FuncId -> Nat -> Option (Yyx W)
 | [], _, _ => none
 | e :: es, g, k => match Nat.beq e.g g && Nat.beq e.key k with | true => some (e.f W) | false => Ypa W es g k
theorem Yr1 {P : Program} : ∀ {ps : List (PC P)} {g : FuncId} {p : PC P}, Yo9 ps g = some p -> p.g = g
 | [], _, _, h => by cases h
 | q :: ps, g, p, h => by
  unfold Yo9 at h
  split at h
  ·rename_i hb; cases h; exact Nat.eq_of_beq_eq_true hb
  ·exact Yr1 h
theorem Ykh {P : Program} [W : InW] : ∀ {es : List (LE P)} {g : FuncId} {k : Nat} {f : Yyx W}, @Ypa P W es g k = some f -> ∀ (body a : Code), (P.funcs[g]?).bind (·.body) = some body -> a ∈ Ys body -> Ye9 a = k -> @Yk2 W P a f
 | [], _, _, _, h => by cases h
 | e :: es, g, k, f, h => by
  unfold Ypa at h
  split at h
  ·rename_i hb;rw [Bool.and_eq_true] at hb;cases h;intro body a h1 h2 h3;have e1 := Ye.1 hb.1;have e2 := Ye.1 hb.2;exact e.ok W body a (by rw [e1]; exact h1) h2 (by rw [e2]; exact h3)
  ·exact Ykh h
section
variable [W : InW]
def cxT (P : Program) (tt : Tr TI) (T : Tab P) (n m : Nat) : Cx :=
 Nat.rec (motive := fun _ => Cx) { P, tt, sy := false, callH := fun _ _ _ _ _ _ => Stuck 54, symH := fun _ _ _ _ => Stuck 55, roundH := fun _ _ _ _ _ _ => Stuck 54, loopsOf := Ypa W T.les }
  (fun _ c => { P, tt, sy := false, callH := fun g args hp d k kp => match Yo9 T.pcs g with | some p => Yqj p args hp d k | none => (match Yme W g args hp T.ces with | some e => e.f W args hp k kp | none => Yte c n g args hp d k kp), symH := fun _ _ _ _ => Stuck 55, roundH := Ytz c n, loopsOf := Ypa W T.les }) m
theorem Yvk (P : Program) (tt : Tr TI) (T : Tab P) (n : Nat) : ∀ m, (cxT P tt T n m).P = P
 | 0 => rfl
 | _ + 1 => rfl
theorem Ypn {P : Program} {tt : Tr TI} {T : Tab P} (ht : TabOk P tt) (hm : P.follows .mixedOrders = true) (n : Nat) : ∀ m, HandOkL (cxT P tt T n m)
 | 0 => ⟨⟨⟨ht, fun _ _ _ _ _ _ h => h.elim, fun _ _ _ _ h => h.elim⟩, fun _ _ _ _ _ _ h => h.elim⟩, fun _ _ _ _ _ h => Ykh h _ _⟩
 | m + 1 => by
  have hP := Yvk P tt T n m;refine ⟨⟨⟨ht, fun g args hp d k kp h => ?_, fun _ _ _ _ h => h.elim⟩, fun L i args hp d k h => ?_⟩, fun _ _ _ _ _ h => Ykh h _ _⟩
  ·have h' : (match Yo9 T.pcs g with | some p => Yqj p args hp d k | none => (match Yme W g args hp T.ces with | some e => e.f W args hp k kp | none => Yte (cxT P tt T n m) n g args hp d k kp)) := h
   split at h'
   ·rename_i p hp';obtain ⟨val, hs, us, nw, h1, h2, h3, h4⟩ := Yss h';rw [Yr1 hp'] at h4;exact .inl ⟨val, hs, us, nw, h1, h2, h3, h4⟩
   ·split at h'
    ·rename_i e he;have := e.ok W args hp k kp h';rw [Yni he] at this;exact this
    ·have := Ymj (Ypn ht hm n m) (by rw [hP]; exact hm) h';unfold Yrc at this;rw [hP] at this;exact this
  ·have := Yqf (Ypn ht hm n m).toHandOkR (by rw [hP]; exact hm) (show Ytz (cxT P tt T n m) n L i args hp d k from h);rw [hP] at this;exact this
end
theorem PureOk.of {P : Program} (tt : (W : InW) -> @Tr (@TI W)) (ht : ∀ W : InW, @TabOk W P (tt W)) (hm : P.follows .mixedOrders = true) (T : Tab P) (n m : Nat) {g : FuncId} {ats : List AT} {rs : RTs} {pre : DS -> Prop} {res : DS -> DS}
  (h : ∀ (W : InW) (args : List (@AV W)) (ds : DS), @Ymo W ats args ds -> pre ds -> @Yte W (@cxT W P (tt W) T n m) n g args [] 0 (@Ywt W rs fun o => o = res ds) fun _ _ _ _ => Stuck 421) : PureOk P g ats rs pre res := by
 intro W args ds ha hpre d hd;have h0 := h W args ds ha hpre;have := Ymj (Ypn (T := T) (ht W) hm n m) (by rw [Yvk]; exact hm) h0;rcases this with ⟨val, hs, us, nw, h1, h2, h3, h4⟩ | ⟨_, _, _, _, h1, _⟩
 ·rw [Yvk] at h4;obtain ⟨rfl, o, rfl, h5⟩ := Ys2 hd h1;have hs0 : hs = [] := by
   cases hs with
   | nil => rfl
   | cons p hs => have := h2.all p List.mem_cons_self; simp [look] at this
  subst hs0;intro φ w0 M R w hnew hS;refine (h4 φ w0 M R w (fun i _ => ⟨Yia ds ha i, rfl⟩) hS).mono fun e w' ⟨φ1, hag, he, hS'⟩ => ?_;obtain ⟨hds, h6, h7⟩ := h5 φ1 w0 M R w' (by simpa [Yh] using hS');obtain ⟨a1, a2⟩ := h7 (Yd6 φ d 0 (Yh4 rs) hds) (Yhc hd h6);exact ⟨Yd6 φ d 0 (Yh4 rs) hds, Yo2 hd rs (res ds) hds, by rw [he, a1], by simpa [Yh] using a2⟩
 ·exact h1.elim
end Go.Proofs.Ytmogofidmchdoaa
namespace Go.Proofs.Ytmogofidmchdoaa
open Go.RowKit
variable [InW]
attribute [local irreducible] Go.Oper.wp
inductive Pt where
 | int (k : IntKind)
 | bool
 | str
 | lit (v : Value)
 | ptr (pid k : Nat)
 | row (pid : Nat)
 | rs (ts : List Ty)
 | mp (pid : Nat)
 | yl (pid : Nat)
 | opq (pid : Nat)
 | agg (ps : List Pt)
 | tup (ps : List Pt)
 | fn (f : Fn) (a b : List Pt)
 | ifc (t : TypeId) (p : Pt)
 | held (p : Pt)
 | sl (pid off lo n : Nat)
 | slc (pid off n c : Nat)
 | rwp (pid sz : Nat)
 | emp (pid : Nat)
inductive PreL (L' L : LI) (A : Prop) : Prop where
 | mk (h : L' = L) (a : A)
inductive Ed where
 | i (n : Int)
 | b (b : Bool)
 | s (s : ByteArray)
 | l (xs : Dt)
 | ro (ts : List Ty) (r : Ro ts)
 | m (es : List (Int × Int))
mutual
def Ylc : Pt -> AV -> List Ed -> Prop
 | .int k, x, es => ∃ n, x = .si k n /\ es = [.i n]
 | .bool, x, es => ∃ b, x = .sb b /\ es = [.b b]
 | .str, x, es => ∃ s, x = .ss s /\ es = [.s s]
 | .lit v, x, es => x = .v v /\ es = []
 | .ptr pid k, x, es => x = .ptr pid k /\ es = []
 | .row pid, x, es => x = .rw pid /\ es = []
 | .rs ts, x, es => ∃ r : Ro ts, x = .rs ts r /\ es = [.ro ts r]
 | .mp pid, x, es => x = .mp pid /\ es = []
 | .yl pid, x, es => x = .yl pid /\ es = []
 | .opq pid, x, es => x = .opq pid /\ es = []
 | .agg ps, x, es => ∃ xs, x = .agg xs /\ Yiv ps xs es
 | .tup ps, x, es => ∃ xs, x = .tup xs /\ Yiv ps xs es
 | .fn f a b, x, es => ∃ xs ys e1 e2, x = .fn f xs ys /\ es = e1 ++ e2 /\ Yiv a xs e1 /\ Yiv b ys e2
 | .ifc t p, x, es => ∃ y, x = .ifc t y /\ Ylc p y es
 | .held p, x, es => ∃ y, x = .held y /\ Ylc p y es
 | .sl pid a b c, x, es => x = .sl pid a b c /\ es = []
 | .slc pid a b c, x, es => x = .slc pid a b c /\ es = []
 | .rwp pid sz, x, es => ∃ l n : Nat, x = .rwp pid sz l n /\ es = [.i l, .i n]
 | .emp pid, x, es => x = .emp pid /\ es = []
def Yiv : List Pt -> List AV -> List Ed -> Prop
 | [], xs, es => xs = [] /\ es = []
 | p :: ps, xs, es => ∃ x xs' e1 e2, xs = x :: xs' /\ es = e1 ++ e2 /\ Ylc p x e1 /\ Yiv ps xs' e2
end
inductive Src' where
 | id (i : Nat)
 | nil
 | conv (i n : Nat)
 | val (x : AV)
abbrev Bd := List (Nat × Src')
def Ye8 : Bd -> Nat -> Option Src'
 | [], _ => none
 | p :: b, i => match Nat.beq p.1 i with | true => some p.2 | false => Ye8 b i
def hdOf (φ : Phi) : Src' -> Hd
 | .id i => φ i
 | .nil => ⟨0, true, 0, none, 0, undef⟩
 | .conv i n => { φ i with fn := n }
 | .val x => ⟨0, false, 0, none, 0, x.conc φ⟩
def hB (φ : Phi) (B : Bd) : Phi := fun i => match Ye8 B i with | some s => hdOf φ s | none => φ i
def ExtB (B B' : Bd) : Prop := ∀ i s, Ye8 B i = some s -> Ye8 B' i = some s
theorem ExtB.refl (B : Bd) : ExtB B B := fun _ _ h => h
theorem ExtB.trans {a b c : Bd} (h : ExtB a b) (k : ExtB b c) : ExtB a c := fun i s hi => k i s (h i s hi)
theorem Ydh {φ : Phi} {B : Bd} {i : Nat} {s : Src'} (h : Ye8 B i = some s) : hB φ B i = hdOf φ s := by simp [hB, h]
def Ygk (B : Bd) (pid : Nat) (s : Src') (K : Bd -> Prop) : Prop :=
 match Ye8 B pid with
 | none => K ((pid, s) :: B)
 | some s' => (match s', s with | .id i, .id j => Yb (Nat.beq i j) (K B) | _, _ => Stuck 430)
theorem Ybf {B : Bd} {pid : Nat} {s : Src'} {K : Bd -> Prop} (h : Ygk B pid s K) : ∃ B', K B' /\ ExtB B B' /\ Ye8 B' pid = some s := by
 unfold Ygk at h
 split at h
 ·rename_i hn;refine ⟨_, h, fun i s' hi => ?_, by simp [Ye8, Nat.beq_refl]⟩;unfold Ye8;cases hb : Nat.beq pid i with
  | true => rw [<- Ye.1 hb, hn] at hi; cases hi
  | false => exact hi
 ·rename_i s' hs
  split at h
  ·obtain ⟨h1, h2⟩ := Ya h;obtain rfl := Ye.1 h1;exact ⟨B, h2, .refl _, hs⟩
  ·exact h.elim
def rsK (ts ts' : List Ty) (r : Ro ts') (K : Ro ts -> Prop) : Prop := if h : Ydv 9 (.sl ts') (.sl ts) = true then K (Ty.sl.inj (Ydq 9 _ _ h) ▸ r) else Stuck 448
mutual
def Ybk : Pt -> AV -> Bd -> (AV -> Bd -> List Ed -> Prop) -> Prop
 | .int k, x, B, K => (match x with | .si k' n => Yb (decide (k' = k)) (K (.si k n) B [.i n]) | .v (.int k' n) => Yb (decide (k' = k)) (K (.si k n) B [.i n]) | _ => Stuck 431)
 | .bool, x, B, K => (match x with | .sb b => K (.sb b) B [.b b] | .v (.bool b) => K (.sb b) B [.b b] | _ => Stuck 432)
 | .str, x, B, K => (match x with | .ss s => K (.ss s) B [.s s] | .v (.string s) => K (.ss s) B [.s s] | _ => Stuck 433)
 | .lit v, x, B, K => (match x with | .v u => Yb (Yb4 u v) (K (.v v) B []) | _ => Stuck 434)
 | .ptr pid k, x, B, K => (match x with | .ptr i k' => Yb (Nat.beq k' k) (Ygk B pid (.id i) fun B => K (.ptr pid k) B []) | _ => Stuck 435)
 | .row pid, x, B, K => (match x with
  | .rw i => Ygk B pid (.id i) fun B => K (.rw pid) B []
  | .v (.slice none 0 0) => Ygk B pid .nil fun B => K (.rw pid) B []
  | .sl i 0 0 n => Ygk B pid (.conv i n) fun B => K (.rw pid) B []
  | _ => Stuck 436)
 | .rs ts, x, B, K => (match x with
  | .rs ts' r => rsK ts ts' r fun r => K (.rs ts r) B [.ro ts r]
  | .v (.slice none 0 0) => K (.rs ts (Ro.nil ts)) B [.ro ts (Ro.nil ts)]
  | _ => Stuck 437)
 | .mp pid, x, B, K => (match x with | .mp i => Ygk B pid (.id i) fun B => K (.mp pid) B [] | _ => Stuck 438)
 | .yl pid, x, B, K => (match x with | .yl i => Ygk B pid (.id i) fun B => K (.yl pid) B [] | _ => Stuck 439)
 | .opq pid, x, B, K => (match x with
  | .opq i => Ygk B pid (.id i) fun B => K (.opq pid) B []
  | .junk => Stuck 440
  | .held _ => Stuck 440
  | x => Ygk B pid (.val x) fun B => K (.opq pid) B [])
 | .agg ps, x, B, K => (match x with | .agg xs => Ydt ps xs B fun ys B es => K (.agg ys) B es | .v (.agg cs) => Yna cs.toList fun xs => Ydt ps xs B fun ys B es => K (.agg ys) B es | _ => Stuck 441)
 | .tup ps, x, B, K => (match x with | .tup xs => Ydt ps xs B fun ys B es => K (.tup ys) B es | _ => Stuck 442)
 | .fn f a b, x, B, K => (match x with | .fn f' xs ys => Yb (decide (f' = f)) (Ydt a xs B fun xs B e1 => Ydt b ys B fun ys B e2 => K (.fn f xs ys) B (e1 ++ e2)) | _ => Stuck 443)
 | .ifc t p, x, B, K => (match x with | .ifc t' y => Yb (Nat.beq t' t) (Ybk p y B fun y B es => K (.ifc t y) B es) | .v (.iface t' y) => Yb (Nat.beq t' t) (Ybk p (.v y) B fun y B es => K (.ifc t y) B es) | _ => Stuck 444)
 | .held _, _, _, _ => Stuck 445
 | .sl pid a b c, x, B, K => (match x with | .sl i a' b' c' => Yb (Nat.beq a' a && Nat.beq b' b && Nat.beq c' c) (Ygk B pid (.id i) fun B => K (.sl pid a b c) B []) | _ => Stuck 473)
 | .slc pid a b c, x, B, K => (match x with | .slc i a' b' c' => Yb (Nat.beq a' a && Nat.beq b' b && Nat.beq c' c) (Ygk B pid (.id i) fun B => K (.slc pid a b c) B []) | _ => Stuck 474)
 | .rwp pid sz, x, B, K => (match x with | .rwp i sz' l n => Yb (Nat.beq sz' sz) (Ygk B pid (.id i) fun B => K (.rwp pid sz l n) B [.i l, .i n]) | _ => Stuck 484)
 | .emp pid, x, B, K => (match x with | .emp i => Ygk B pid (.id i) fun B => K (.emp pid) B [] | _ => Stuck 475)
def Ydt : List Pt -> List AV -> Bd -> (List AV -> Bd -> List Ed -> Prop) -> Prop
 | [], xs, B, K => (match xs with | [] => K [] B [] | _ :: _ => Stuck 446)
 | p :: ps, xs, B, K => (match xs with | [] => Stuck 447 | x :: xs => Ybk p x B fun y B e1 => Ydt ps xs B fun ys B e2 => K (y :: ys) B (e1 ++ e2))
end
theorem Ywa {ts ts' : List Ty} {r : Ro ts'} {K : Ro ts -> Prop} (h : rsK ts ts' r K) : ∃ q : Ro ts, K q /\ q.v = r.v := by
 unfold rsK at h
 split at h
 ·rename_i hs;have e := Ty.sl.inj (Ydq 9 _ _ hs);subst e;exact ⟨_, h, rfl⟩
 ·exact h.elim
def Same (B : Bd) (x y : AV) : Prop := ∀ B', ExtB B B' -> ∀ φ, y.conc (hB φ B') = x.conc φ
theorem Same.ext {B B' : Bd} {x y : AV} (h : Same B x y) (hB : ExtB B B') : Same B' x y := fun B2 h2 => h B2 (hB.trans h2)
def SameL (B : Bd) (xs ys : List AV) : Prop := ∀ B', ExtB B B' -> ∀ φ, AV.concL (hB φ B') ys = AV.concL φ xs
mutual
theorem Ych : ∀ (p : Pt) (x : AV) (B : Bd) (K : AV -> Bd -> List Ed -> Prop), Ybk p x B K -> ∃ y B' es, K y B' es /\ Ylc p y es /\ ExtB B B' /\ Same B' x y /\ x.rd = true /\ y.rd = true
  | .int k, x, B, K, h => by
    unfold Ybk at h
    split at h
    · obtain ⟨h1, h2⟩ := Ya h;obtain rfl := of_decide_eq_true h1;exact ⟨_, _, _, h2, ⟨_, rfl, rfl⟩, .refl _, fun _ _ _ => rfl, rfl, rfl⟩
    · obtain ⟨h1, h2⟩ := Ya h;obtain rfl := of_decide_eq_true h1;exact ⟨_, _, _, h2, ⟨_, rfl, rfl⟩, .refl _, fun _ _ _ => rfl, rfl, rfl⟩
    · exact h.elim
  | .bool, x, B, K, h => by
    unfold Ybk at h
    split at h
    · exact ⟨_, _, _, h, ⟨_, rfl, rfl⟩, .refl _, fun _ _ _ => rfl, rfl, rfl⟩
    · exact ⟨_, _, _, h, ⟨_, rfl, rfl⟩, .refl _, fun _ _ _ => rfl, rfl, rfl⟩
    · exact h.elim
  | .str, x, B, K, h => by
    unfold Ybk at h
    split at h
    · exact ⟨_, _, _, h, ⟨_, rfl, rfl⟩, .refl _, fun _ _ _ => rfl, rfl, rfl⟩
    · exact ⟨_, _, _, h, ⟨_, rfl, rfl⟩, .refl _, fun _ _ _ => rfl, rfl, rfl⟩
    · exact h.elim
  | .lit v, x, B, K, h => by
    unfold Ybk at h
    split at h
    · obtain ⟨h1, h2⟩ := Ya h;rw [Yc3 _ _ h1];exact ⟨_, _, _, h2, ⟨rfl, rfl⟩, .refl _, fun _ _ _ => rfl, rfl, rfl⟩
    · exact h.elim
  | .ptr pid k, x, B, K, h => by
    unfold Ybk at h
    split at h
    · obtain ⟨h1, h2⟩ := Ya h;obtain rfl := Ye.1 h1;obtain ⟨B', h3, h4, h5⟩ := Ybf h2;exact ⟨_, _, _, h3, ⟨rfl, rfl⟩, h4, fun B2 hB2 φ => by simp only [AV.conc, Ydh (hB2 _ _ h5), hdOf], rfl, rfl⟩
    · exact h.elim
  | .row pid, x, B, K, h => by
    unfold Ybk at h
    split at h
    · obtain ⟨B', h3, h4, h5⟩ := Ybf h;exact ⟨_, _, _, h3, ⟨rfl, rfl⟩, h4, fun B2 hB2 φ => by simp only [AV.conc, Ydh (hB2 _ _ h5), hdOf], rfl, rfl⟩
    · obtain ⟨B', h3, h4, h5⟩ := Ybf h;exact ⟨_, _, _, h3, ⟨rfl, rfl⟩, h4, fun B2 hB2 φ => by simp only [AV.conc, Ydh (hB2 _ _ h5), hdOf]; rfl, rfl, rfl⟩
    · obtain ⟨B', h3, h4, h5⟩ := Ybf h;exact ⟨_, _, _, h3, ⟨rfl, rfl⟩, h4, fun B2 hB2 φ => by simp only [AV.conc, Ydh (hB2 _ _ h5), hdOf, Nat.sub_zero], rfl, rfl⟩
    · exact h.elim
  | .rs ts, x, B, K, h => by
    unfold Ybk at h
    split at h
    · obtain ⟨q, h1, h2⟩ := Ywa h;exact ⟨_, _, _, h1, ⟨_, rfl, rfl⟩, .refl _, fun _ _ _ => h2, rfl, rfl⟩
    · exact ⟨_, _, _, h, ⟨_, rfl, rfl⟩, .refl _, fun _ _ _ => rfl, rfl, rfl⟩
    · exact h.elim
  | .mp pid, x, B, K, h => by
    unfold Ybk at h
    split at h
    · obtain ⟨B', h3, h4, h5⟩ := Ybf h;exact ⟨_, _, _, h3, ⟨rfl, rfl⟩, h4, fun B2 hB2 φ => by simp only [AV.conc, Ydh (hB2 _ _ h5), hdOf], rfl, rfl⟩
    · exact h.elim
  | .yl pid, x, B, K, h => by
    unfold Ybk at h
    split at h
    · obtain ⟨B', h3, h4, h5⟩ := Ybf h;exact ⟨_, _, _, h3, ⟨rfl, rfl⟩, h4, fun B2 hB2 φ => by simp only [AV.conc, Ydh (hB2 _ _ h5), hdOf], rfl, rfl⟩
    · exact h.elim
  | .opq pid, x, B, K, h => by
    unfold Ybk at h;have fin : ∀ x : AV, x.rd = true -> (Ygk B pid (.val x) fun B => K (.opq pid) B []) -> ∃ y B' es, K y B' es /\ Ylc (.opq pid) y es /\ ExtB B B' /\ Same B' x y /\ x.rd = true /\ y.rd = true := fun x hx h => by
      obtain ⟨B', h3, h4, h5⟩ := Ybf h;exact ⟨_, _, _, h3, ⟨rfl, rfl⟩, h4, fun B2 hB2 φ => by simp only [AV.conc, Ydh (hB2 _ _ h5), hdOf], hx, rfl⟩
    cases x <;> first
      | exact h.elim
      | exact fin _ rfl h
      | (obtain ⟨B', h3, h4, h5⟩ := Ybf h
         exact ⟨_, _, _, h3, ⟨rfl, rfl⟩, h4, fun B2 hB2 φ => by simp only [AV.conc, Ydh (hB2 _ _ h5), hdOf], rfl, rfl⟩)
  | .agg ps, x, B, K, h => by
    unfold Ybk at h
    split at h
    · obtain ⟨ys, B', es, h1, h2, h3, h4⟩ := Ybc ps _ B _ h;exact ⟨_, _, _, h1, ⟨_, rfl, h2⟩, h3, fun B2 hB2 φ => by simp only [AV.conc, h4 B2 hB2 φ], rfl, rfl⟩
    · obtain ⟨ys, B', es, h1, h2, h3, h4⟩ := Ybc ps _ B _ (Yde.1 h);exact ⟨_, _, _, h1, ⟨_, rfl, h2⟩, h3, fun B2 hB2 φ => by simp [AV.conc, h4 B2 hB2 φ, Yz, Function.comp_def], rfl, rfl⟩
    · exact h.elim
  | .tup ps, x, B, K, h => by
    unfold Ybk at h
    split at h
    · obtain ⟨ys, B', es, h1, h2, h3, h4⟩ := Ybc ps _ B _ h;exact ⟨_, _, _, h1, ⟨_, rfl, h2⟩, h3, fun B2 hB2 φ => by simp only [AV.conc, h4 B2 hB2 φ], rfl, rfl⟩
    · exact h.elim
  | .fn f a b, x, B, K, h => by
    unfold Ybk at h
    split at h
    · obtain ⟨h0, h⟩ := Ya h;obtain rfl := of_decide_eq_true h0;obtain ⟨ys, B', es, h1, h2, h3, h4⟩ := Ybc a _ B _ h;obtain ⟨zs, B2, es2, k1, k2, k3, k4⟩ := Ybc b _ B' _ h1;exact ⟨_, _, _, k1, ⟨_, _, _, _, rfl, rfl, h2, k2⟩, h3.trans k3, fun B3 hB3 φ => by simp only [AV.conc, h4 B3 (k3.trans hB3) φ, k4 B3 hB3 φ], rfl, rfl⟩
    · exact h.elim
  | .ifc t p, x, B, K, h => by
    unfold Ybk at h
    split at h
    · obtain ⟨h0, h⟩ := Ya h;obtain rfl := Ye.1 h0;obtain ⟨y, B', es, h1, h2, h3, h4, _, _⟩ := Ych p _ B _ h;exact ⟨_, _, _, h1, ⟨_, rfl, h2⟩, h3, fun B3 hB3 φ => by simp only [AV.conc, h4 B3 hB3 φ], rfl, rfl⟩
    · obtain ⟨h0, h⟩ := Ya h;obtain rfl := Ye.1 h0;obtain ⟨y, B', es, h1, h2, h3, h4, _, _⟩ := Ych p _ B _ h;exact ⟨_, _, _, h1, ⟨_, rfl, h2⟩, h3, fun B3 hB3 φ => by simp only [AV.conc, h4 B3 hB3 φ], rfl, rfl⟩
    · exact h.elim
  | .held _, _, _, _, h => by unfold Ybk at h; exact h.elim
  | .sl pid a b c, x, B, K, h => by
    unfold Ybk at h
    split at h
    · obtain ⟨h1, h2⟩ := Ya h;simp only [Bool.and_eq_true, Ye] at h1;obtain ⟨⟨rfl, rfl⟩, rfl⟩ := h1;obtain ⟨B', h3, h4, h5⟩ := Ybf h2;exact ⟨_, _, _, h3, ⟨rfl, rfl⟩, h4, fun B2 hB2 φ => by simp only [AV.conc, Ydh (hB2 _ _ h5), hdOf], rfl, rfl⟩
    · exact h.elim
  | .slc pid a b c, x, B, K, h => by
    unfold Ybk at h
    split at h
    · obtain ⟨h1, h2⟩ := Ya h;simp only [Bool.and_eq_true, Ye] at h1;obtain ⟨⟨rfl, rfl⟩, rfl⟩ := h1;obtain ⟨B', h3, h4, h5⟩ := Ybf h2;exact ⟨_, _, _, h3, ⟨rfl, rfl⟩, h4, fun B2 hB2 φ => by simp only [AV.conc, Ydh (hB2 _ _ h5), hdOf], rfl, rfl⟩
    · exact h.elim
  | .rwp pid sz, x, B, K, h => by
    unfold Ybk at h
    split at h
    · obtain ⟨h1, h2⟩ := Ya h;obtain rfl := Ye.1 h1;obtain ⟨B', h3, h4, h5⟩ := Ybf h2;exact ⟨_, _, _, h3, ⟨_, _, rfl, rfl⟩, h4, fun B2 hB2 φ => by simp only [AV.conc, Ydh (hB2 _ _ h5), hdOf], rfl, rfl⟩
    · exact h.elim
  | .emp pid, x, B, K, h => by
    unfold Ybk at h
    split at h
    · obtain ⟨B', h3, h4, h5⟩ := Ybf h;exact ⟨_, _, _, h3, ⟨rfl, rfl⟩, h4, fun B2 hB2 φ => by simp only [AV.conc, Ydh (hB2 _ _ h5), hdOf], rfl, rfl⟩
    · exact h.elim
theorem Ybc : ∀ (ps : List Pt) (xs : List AV) (B : Bd) (K : List AV -> Bd -> List Ed -> Prop), Ydt ps xs B K -> ∃ ys B' es, K ys B' es /\ Yiv ps ys es /\ ExtB B B' /\ SameL B' xs ys
 | [], xs, B, K, h => by
  unfold Ydt at h
  split at h
  ·exact ⟨_, _, _, h, ⟨rfl, rfl⟩, .refl _, fun _ _ _ => rfl⟩
  ·exact h.elim
 | p :: ps, xs, B, K, h => by
  unfold Ydt at h
  split at h
  ·exact h.elim
  ·obtain ⟨y, B', e1, h1, h2, h3, h4, _, _⟩ := Ych p _ B _ h;obtain ⟨ys, B2, e2, k1, k2, k3, k4⟩ := Ybc ps _ B' _ h1;exact ⟨_, _, _, k1, ⟨_, _, _, _, rfl, rfl, h2, k2⟩, h3.trans k3, fun B3 hB3 φ => by simp only [AV.concL, h4 B3 (k3.trans hB3) φ, k4 B3 hB3 φ]⟩
end
end Go.Proofs.Ytmogofidmchdoaa
namespace Go.Proofs.Ytmogofidmchdoaa
open Go.RowKit
variable [InW]
attribute [local irreducible] Go.Oper.wp
inductive PI where
 | blk (T : TypeId) (ps : List Pt)
 | arr (T : Nat) (ts : List Ty)
 | row (T sz n : Nat) (ps : List Pt)
 | obj (x : OI)
 | mpI
 | lp (L : LI) (ps : List Pt)
 | dead
def PI.isDead : PI -> Bool
 | .dead => true
 | _ => false
def Yxf (p : PI) (it : It) (es : List Ed) : Prop :=
 match p with
 | .blk T ps => ∃ xs, it = .blk T xs /\ Yiv ps xs es
 | .arr T ts => ∃ xs, it = .arr T ts xs /\ es = [.l xs]
 | .row T sz n ps => ∃ xs, it = .row T sz n xs /\ Yiv ps xs es
 | .obj x => it = .obj x /\ es = []
 | .mpI => ∃ xs, it = .obj (.mpI xs) /\ es = [.m xs]
 | .lp L ps => ∃ xs, it = .lp L xs /\ Yiv ps xs es
 | .dead => it = .dead /\ es = []
def Ygm : List (Nat × PI) -> Heap -> List Ed -> Prop
 | [], h, es => h = [] /\ es = []
 | p :: ps, h, es => ∃ it h' e1 e2, h = (p.1, it) :: h' /\ es = e1 ++ e2 /\ Yxf p.2 it e1 /\ Ygm ps h' e2
def Yuj (p : PI) (it : It) (B : Bd) (K : It -> Bd -> List Ed -> Prop) : Prop :=
 match p with
 | .blk T ps => (match it with | .blk T' xs => Yb (Nat.beq T' T) (Ydt ps xs B fun ys B es => K (.blk T ys) B es) | _ => Stuck 450)
 | .arr T ts => (match it with | .arr T' ts' xs => Yb (Nat.beq T' T && Ycd.sameTs ts' ts) (K (.arr T ts xs) B [.l xs]) | _ => Stuck 451)
 | .row T sz n ps => (match it with | .row T' sz' n' xs => Yb (Nat.beq T' T && Nat.beq sz' sz && Nat.beq n' n) (Ydt ps xs B fun ys B es => K (.row T sz n ys) B es) | _ => Stuck 452)
 | .obj x => Yb (sameI it (.obj x)) (K (.obj x) B [])
 | .mpI => (match it with | .obj (.mpI xs) => K (.obj (.mpI xs)) B [.m xs] | .obj (.mpV [] 0) => K (.obj (.mpI [])) B [.m []] | _ => Stuck 476)
 | .lp L ps => (match it with | .lp L' xs => PreL L' L (Ydt ps xs B fun ys B es => K (.lp L ys) B es) | _ => Stuck 477)
 | .dead => Stuck 479
def Yzp (B : Bd) (it : It) (i : Nat) (y : It) (pid : Nat) : Prop := ∀ B', ExtB B B' -> ∀ φ : Phi, y.conc (hB φ B') pid = it.conc φ i
theorem Yqr {p : PI} {it : It} {B : Bd} {K : It -> Bd -> List Ed -> Prop} (h : Yuj p it B K) {pid i : Nat} (hl : Ye8 B pid = some (.id i)) : ∃ y B' es, K y B' es /\ Yxf p y es /\ ExtB B B' /\ Yzp B' it i y pid := by
 unfold Yuj at h
 split at h
 ·split at h
  ·obtain ⟨h1, h2⟩ := Ya h;obtain rfl := Ye.1 h1;obtain ⟨ys, B', es, h3, h4, h5, h6⟩ := Ybc _ _ _ _ h2;exact ⟨_, _, _, h3, ⟨_, rfl, h4⟩, h5, fun B2 hB2 φ => by simp only [It.conc, h6 B2 hB2 φ, Ydh (hB2 _ _ (h5 _ _ hl)), hdOf]⟩
  ·exact h.elim
 ·split at h
  ·obtain ⟨h1, h2⟩ := Ya h;simp only [Bool.and_eq_true, Ye] at h1;obtain ⟨rfl, h12⟩ := h1;obtain ⟨e, _⟩ := Y7 h12;subst e;exact ⟨_, _, _, h2, ⟨_, rfl, rfl⟩, .refl _, fun B2 hB2 φ => by simp only [It.conc, Ydh (hB2 _ _ hl), hdOf]⟩
  ·exact h.elim
 ·split at h
  ·obtain ⟨h1, h2⟩ := Ya h;simp only [Bool.and_eq_true, Ye] at h1;obtain ⟨⟨rfl, rfl⟩, rfl⟩ := h1;obtain ⟨ys, B', es, h3, h4, h5, h6⟩ := Ybc _ _ _ _ h2;exact ⟨_, _, _, h3, ⟨_, rfl, h4⟩, h5, fun B2 hB2 φ => by simp only [It.conc, h6 B2 hB2 φ, Ydh (hB2 _ _ (h5 _ _ hl)), hdOf]⟩
  ·exact h.elim
 ·obtain ⟨h1, h2⟩ := Ya h;rw [Ylr h1];exact ⟨_, _, _, h2, ⟨rfl, rfl⟩, .refl _, fun B2 hB2 φ => by simp only [It.conc, Ydh (hB2 _ _ hl), hdOf]⟩
 ·split at h
  ·exact ⟨_, _, _, h, ⟨_, rfl, rfl⟩, .refl _, fun B2 hB2 φ => by simp only [It.conc, Ydh (hB2 _ _ hl), hdOf]⟩
  ·exact ⟨_, _, _, h, ⟨_, rfl, rfl⟩, .refl _, fun B2 hB2 φ => by simp only [It.conc, Ydh (hB2 _ _ hl), hdOf, OI.obj, entI]; rfl⟩
  ·exact h.elim
 ·split at h
  ·obtain ⟨rfl, h2⟩ := h;obtain ⟨ys, B', es, h3, h4, h5, h6⟩ := Ybc _ _ _ _ h2;exact ⟨_, _, _, h3, ⟨_, rfl, h4⟩, h5, fun B2 hB2 φ => by simp only [It.conc, h6 B2 hB2 φ, Ydh (hB2 _ _ (h5 _ _ hl)), hdOf]⟩
  ·exact h.elim
 ·exact h.elim
def Ydu : List (Nat × PI) -> Bd -> Heap -> (Heap -> Bd -> Heap -> List Ed -> Prop) -> Prop
 | [], B, hp, K => K [] B hp []
 | (pid, p) :: ps, B, hp, K => match p.isDead with
  | true => Ydu ps B hp fun ys B hp e2 => K ((pid, .dead) :: ys) B hp e2
  | false => match Ye8 B pid with
  | some (.id i) => Y9 hp i fun it => delK hp i fun hp => Yuj p it B fun y B e1 => Ydu ps B hp fun ys B hp e2 => K ((pid, y) :: ys) B hp (e1 ++ e2)
  | some (.conv i n) => (match p with
   | .arr T ts => Y9 hp i fun it => delK hp i fun hp => (match it with
    | .row T' sz n' cs => Yb (Nat.beq T' T && Nat.beq sz ts.length && Nat.beq n' n) (Yqd ts n cs fun xs => Ydu ps B hp fun ys B hp e2 => K ((pid, .arr T ts xs) :: ys) B hp (.l xs :: e2))
    | _ => Stuck 453)
   | _ => Stuck 454)
  | some .nil => (match p with
   | .arr T ts => Ydu ps B hp fun ys B hp e2 => K ((pid, .arr T ts []) :: ys) B hp (.l [] :: e2)
   | _ => Stuck 455)
  | _ => Stuck 456
theorem Yci : ∀ (ps : List (Nat × PI)) (B : Bd) (hp : Heap) (K : Heap -> Bd -> Heap -> List Ed -> Prop), Ydu ps B hp K -> ∃ ys B' rest es, K ys B' rest es /\ Ygm ps ys es /\ ExtB B B' /\ rest.Sublist hp /\
  ∀ B2, ExtB B' B2 -> ∀ φ : Phi, (∀ (w0 : World) (M : List Nat) (A R : RL) (w : World), St w0 M (A ++ (Yc φ hp ++ R)) w -> St w0 M (A ++ (Yc (hB φ B2) ys ++ (Yc φ rest ++ R))) w) /\
   ∃ D, (Yc (hB φ B2) ys ++ Yc φ rest).Perm (D ++ Yc φ hp)
 | [], B, hp, K, h => ⟨[], B, hp, [], h, ⟨rfl, rfl⟩, .refl _, List.Sublist.refl _, fun B2 _ φ => ⟨fun w0 M A R w hS => by simpa [Yc] using hS, [], by simp [Yc]⟩⟩
 | (pid, p) :: ps, B, hp, K, h => by
  unfold Ydu at h
  split at h
  ·rename_i hd;have e : p = .dead := by cases p <;> first | rfl | cases hd
   subst e;obtain ⟨ys, B2, rest, es, k1, k2, k3, k3s, k4⟩ := Yci ps _ _ _ h;refine ⟨_, _, _, _, k1, ⟨_, _, [], es, rfl, rfl, ⟨rfl, rfl⟩, k2⟩, k3, k3s, fun B3 hB3 φ => ⟨fun w0 M A R w hS => ?_, ?_⟩⟩
   ·have h1 := (k4 B3 hB3 φ).1 w0 M _ R w hS;have h2 := h1.add (Ext.refl _) (r := .row (.slice none 0 0) 0 0 0 []) ⟨by simp, .inl ⟨rfl, rfl⟩⟩ (by simp [Res.foot, Value.ownBlock]);have e : Yc (hB φ B3) ((pid, .dead) :: ys) = Res.row (.slice none 0 0) 0 0 0 [] :: Yc (hB φ B3) ys := rfl;rw [e];exact h2.perm (by simpa using List.perm_middle.symm)
   ·obtain ⟨D, hD⟩ := (k4 B3 hB3 φ).2;exact ⟨It.dead.conc (hB φ B3) pid :: D, by simpa [Yc] using hD.cons (It.dead.conc (hB φ B3) pid)⟩
  rename_i hnd;clear hnd
  split at h
  ·rename_i i hl;obtain ⟨it, h1, h2⟩ := Yg h;obtain ⟨hp1, h3, h4, h4s⟩ := Yh7 h2 h1;obtain ⟨y, B1, e1, h5, h6, h7, h8⟩ := Yqr h3 hl;obtain ⟨ys, B2, rest, es, k1, k2, k3, k3s, k4⟩ := Yci ps _ _ _ h5;refine ⟨_, _, _, _, k1, ⟨_, _, _, _, rfl, rfl, h6, k2⟩, h7.trans k3, k3s.trans h4s, fun B3 hB3 φ => ?_⟩;have e : Yc (hB φ B3) ((pid, y) :: ys) = it.conc φ i :: Yc (hB φ B3) ys := by
    simp only [Yc, List.map_cons, h8 B3 (k3.trans hB3) φ]
   refine ⟨fun w0 M A R w hS => ?_, ?_⟩
   ·have h9 : St w0 M ((A ++ [it.conc φ i]) ++ (Yc φ hp1 ++ R)) w := hS.perm (by
     rw [List.append_assoc];exact ((Yu h4).append_right R).append_left A)
    have := (k4 B3 hB3 φ).1 w0 M _ R w h9;rw [e];simpa using this
   ·obtain ⟨D, hD⟩ := (k4 B3 hB3 φ).2;refine ⟨D, ?_⟩;rw [e, List.cons_append];refine (hD.cons _).trans ?_;refine List.perm_middle.symm.trans ?_;exact (Yu h4).symm.append_left D
  ·rename_i i n hl
   split at h
   ·obtain ⟨it, h1, h2⟩ := Yg h;obtain ⟨hp1, h3, h4, h4s⟩ := Yh7 h2 h1
    split at h3
    ·rename_i T ts _ T' sz n' cs;obtain ⟨h5, h6⟩ := Ya h3;simp only [Bool.and_eq_true, Ye] at h5;obtain ⟨⟨rfl, rfl⟩, rfl⟩ := h5;obtain ⟨xs, h7, h8, h9, _⟩ := Yc4 h6;obtain ⟨ys, B2, rest, es, k1, k2, k3, k3s, k4⟩ := Yci ps _ _ _ h7;refine ⟨_, _, _, _, k1, ⟨_, _, [.l xs], es, rfl, rfl, ⟨_, rfl, rfl⟩, k2⟩, k3, k3s.trans h4s, fun B3 hB3 φ => ?_⟩;have e : Yc (hB φ B3) ((pid, .arr T' ts xs) :: ys) = (It.row T' ts.length n' cs).conc φ i :: Yc (hB φ B3) ys := by
      simp only [Yc, List.map_cons, It.conc, Ydh (hB3 _ _ (k3 _ _ hl)), hdOf, h9 φ]
     refine ⟨fun w0 M A R w hS => ?_, ?_⟩
     ·have h9' : St w0 M ((A ++ [(It.row T' ts.length n' cs).conc φ i]) ++ (Yc φ hp1 ++ R)) w := hS.perm (by
       rw [List.append_assoc];exact ((Yu h4).append_right R).append_left A)
      have := (k4 B3 hB3 φ).1 w0 M _ R w h9';rw [e];simpa using this
     ·obtain ⟨D, hD⟩ := (k4 B3 hB3 φ).2;refine ⟨D, ?_⟩;rw [e, List.cons_append];refine (hD.cons _).trans ?_;refine List.perm_middle.symm.trans ?_;exact (Yu h4).symm.append_left D
    ·exact h3.elim
   ·exact h.elim
  ·rename_i hl
   split at h
   ·rename_i T ts;obtain ⟨ys, B2, rest, es, k1, k2, k3, k3s, k4⟩ := Yci ps _ _ _ h;refine ⟨_, _, _, _, k1, ⟨_, _, [.l []], es, rfl, rfl, ⟨_, rfl, rfl⟩, k2⟩, k3, k3s, fun B3 hB3 φ => ⟨fun w0 M A R w hS => ?_, ?_⟩⟩
    ·have h1 := (k4 B3 hB3 φ).1 w0 M _ R w hS;have h2 := h1.add (Ext.refl _) (r := .row (.slice none 0 0) T ts.length 0 []) ⟨by simp, .inl ⟨rfl, rfl⟩⟩ (by simp [Res.foot, Value.ownBlock]);have e : Yc (hB φ B3) ((pid, .arr T ts []) :: ys) = Res.row (.slice none 0 0) T ts.length 0 [] :: Yc (hB φ B3) ys := by
      simp only [Yc, List.map_cons, It.conc, Ydh (hB3 _ _ (k3 _ _ hl)), hdOf, Yt]; rfl
     rw [e];exact h2.perm (by rw [List.cons_append]; exact List.perm_middle.symm)
    ·obtain ⟨D, hD⟩ := (k4 B3 hB3 φ).2;exact ⟨(It.arr T ts []).conc (hB φ B3) pid :: D, by simpa [Yc] using hD.cons ((It.arr T ts []).conc (hB φ B3) pid)⟩
   ·exact h.elim
  ·exact h.elim
theorem Yei : ∀ (ps : List (Nat × PI)) (B : Bd) (hp : Heap) (K : Heap -> Bd -> Heap -> List Ed -> Prop), Ydu ps B hp K -> ∃ ys B' rest es, K ys B' rest es /\ Ygm ps ys es /\ ExtB B B' /\ rest.Sublist hp /\
  ∀ B2, ExtB B' B2 -> ∀ (φ : Phi) (w0 : World) (M : List Nat) (A R : RL) (w : World), St w0 M (A ++ (Yc φ hp ++ R)) w -> St w0 M (A ++ (Yc (hB φ B2) ys ++ (Yc φ rest ++ R))) w := fun ps B hp K h => by
 obtain ⟨ys, B', rest, es, a, b, c, d, e⟩ := Yci ps B hp K h;exact ⟨ys, B', rest, es, a, b, c, d, fun B2 hB2 φ => (e B2 hB2 φ).1⟩
def oid (t : Nat) : Nat := 3 * (1000 + t) + 1
def Ycc : List (Nat × AV) -> Nat -> Option AV
 | [], _ => none
 | p :: s, t => match Nat.beq p.1 t with | true => some p.2 | false => Ycc s t
def Yid (s : List (Nat × AV)) : Nat -> Nat -> List AV
 | _, 0 => []
 | t, n + 1 => (match Ycc s t with | some y => y | none => .opq (oid t)) :: Yid s (t + 1) n
def tmOf (len : Nat) (s : List (Nat × AV)) : List AV := Yid s 0 len
theorem Yfj (s : List (Nat × AV)) : ∀ (n t k : Nat), (Yid s t n)[k]? = if k < n then some (match Ycc s (t + k) with | some y => y | none => .opq (oid (t + k))) else none
 | 0, t, k => by simp [Yid]
 | n + 1, t, 0 => by simp [Yid]
 | n + 1, t, k + 1 => by simp [Yid, Yfj s n (t + 1) k, show t + 1 + k = t + (k + 1) by omega]
theorem Yed (s : List (Nat × AV)) : ∀ (n t : Nat), (Yid s t n).length = n
 | 0, _ => rfl
 | n + 1, t => by simp [Yid, Yed s n]
def Ylb : List (Nat × Pt) -> List (Nat × AV) -> List Ed -> Prop
 | [], s, es => s = [] /\ es = []
 | p :: ps, s, es => ∃ y s' e1 e2, s = (p.1, y) :: s' /\ es = e1 ++ e2 /\ Ylc p.2 y e1 /\ Ylb ps s' e2
def Yui (p : Pt) (x : AV) (B : Bd) (K : AV -> Bd -> List Ed -> Prop) : Prop :=
 match p with
 | .held q => (match x with | .held z => Ybk q z B fun y B es => K (.held y) B es | _ => Stuck 457)
 | p => Ybk p x B K
def Yrr (tm : List AV) : List (Nat × Pt) -> Bd -> (List (Nat × AV) -> Bd -> List Ed -> Prop) -> Prop
 | [], B, K => K [] B []
 | (t, p) :: ps, B, K => getK tm t fun x => Yui p x B fun y B e1 => Yrr tm ps B fun s B e2 => K ((t, y) :: s) B (e1 ++ e2)
def FitS (B : Bd) (x y : AV) : Prop := (x.rd = true /\ y.rd = true /\ Same B x y) \/ ∃ x' y', x = .held x' /\ y = .held y' /\ Same B x' y'
theorem FitS.ext {B B' : Bd} {x y : AV} (h : FitS B x y) (hB : ExtB B B') : FitS B' x y := by
 rcases h with ⟨h1, h2, h3⟩ | ⟨x', y', h1, h2, h3⟩
 ·exact .inl ⟨h1, h2, h3.ext hB⟩
 ·exact .inr ⟨x', y', h1, h2, h3.ext hB⟩
theorem Yqq {p : Pt} {x : AV} {B : Bd} {K : AV -> Bd -> List Ed -> Prop} (h : Yui p x B K) : ∃ y B' es, K y B' es /\ Ylc p y es /\ ExtB B B' /\ FitS B' x y := by
 unfold Yui at h
 split at h
 ·split at h
  ·obtain ⟨y, B', es, h1, h2, h3, h4, _⟩ := Ych _ _ _ _ h;exact ⟨_, _, _, h1, ⟨_, rfl, h2⟩, h3, .inr ⟨_, _, rfl, rfl, h4⟩⟩
  ·exact h.elim
 ·obtain ⟨y, B', es, h1, h2, h3, h4, h5, h6⟩ := Ych _ _ _ _ h;exact ⟨_, _, _, h1, h2, h3, .inl ⟨h5, h6, h4⟩⟩
theorem Ygd {tm : List AV} : ∀ (ps : List (Nat × Pt)) (B : Bd) (K : List (Nat × AV) -> Bd -> List Ed -> Prop), Yrr tm ps B K -> ∃ s B' es, K s B' es /\ Ylb ps s es /\ ExtB B B' /\ ∀ q ∈ s, ∃ x, tm[q.1]? = some x /\ FitS B' x q.2
 | [], B, K, h => ⟨[], B, [], h, ⟨rfl, rfl⟩, .refl _, fun q hq => by cases hq⟩
 | (t, p) :: ps, B, K, h => by
  obtain ⟨x, h1, h2⟩ := Ybj h;obtain ⟨y, B1, e1, h3, h4, h5, h6⟩ := Yqq h2;obtain ⟨s, B2, e2, k1, k2, k3, k4⟩ := Ygd ps B1 _ h3;refine ⟨_, _, _, k1, ⟨_, _, _, _, rfl, rfl, h4, k2⟩, h5.trans k3, fun q hq => ?_⟩;rcases List.mem_cons.1 hq with rfl | hq
  ·exact ⟨x, h1, h6.ext k3⟩
  ·exact k4 q hq
theorem Yj6 {s : List (Nat × AV)} {t : Nat} {y : AV} : Ycc s t = some y -> (t, y) ∈ s := by
 induction s with
 | nil => intro h; cases h
 | cons p s ih =>
  intro h;unfold Ycc at h
  split at h
  ·rename_i hb;cases h;rw [<- Ye.1 hb];exact List.mem_cons_self
  ·exact List.mem_cons_of_mem _ (ih h)
end Go.Proofs.Ytmogofidmchdoaa
namespace Go.Proofs.Ytmogofidmchdoaa
open Go.RowKit
variable [InW]
attribute [local irreducible] Go.Oper.wp
def Ydm (φ : Phi) (B : Bd) (a : Act) : Phi := fun i => if i % 3 = 1 /\ 3001 <= i then ⟨0, false, 0, none, 0, a.tmps.getD (i / 3 - 1000) undef⟩ else hB φ B i
theorem Yoi (φ : Phi) (B : Bd) (a : Act) (t : Nat) : (Ydm φ B a (oid t)).v = a.tmps.getD t undef := by
 have h1 : oid t % 3 = 1 /\ 3001 <= oid t := by unfold oid; omega
 have h2 : oid t / 3 - 1000 = t := by unfold oid; omega
 simp [Ydm, h1, h2]
def Yb5 (i : Nat) : Bool := !(Nat.beq (i % 3) 1 && Nat.ble 3001 i)
theorem Yx {φ : Phi} {B : Bd} {a : Act} {i : Nat} (h : Yb5 i = true) : Ydm φ B a i = hB φ B i := by
 unfold Ydm;rw [if_neg];rintro ⟨h1, h2⟩;simp only [Yb5, Ye.2 h1, Nat.ble_eq_true_of_le h2, Bool.and_self, Bool.not_true, Bool.false_eq_true] at h
theorem Ysr {x : AV} (h : x.rd = true) : x.isHeld = false := by cases x <;> first | rfl | cases h
def Yin (s : List (Nat × AV)) : List AV -> Nat -> Bool
 | [], _ => true
 | x :: xs, t => match x with
  | .held _ => (match Ycc s t with | some _ => Yin s xs (t + 1) | none => false)
  | _ => Yin s xs (t + 1)
theorem Ygh {s : List (Nat × AV)} : ∀ {xs : List AV} {t : Nat}, Yin s xs t = true -> ∀ (k : Nat) (x : AV), xs[k]? = some x -> x.isHeld = true -> ∃ y, Ycc s (t + k) = some y
 | [], _, _, k, x, h, _ => by simp at h
 | z :: xs, t, hh, k, x, hx, hd => by
  have rest : Yin s xs (t + 1) = true := by
   unfold Yin at hh
   split at hh
   ·split at hh
    ·exact hh
    ·cases hh
   ·exact hh
  cases k with
  | zero =>
   simp only [List.getElem?_cons_zero, Option.some.injEq] at hx;subst hx;cases z <;> simp [AV.isHeld] at hd;unfold Yin at hh;simp only at hh
   split at hh
   ·rename_i y hy; exact ⟨y, by simpa using hy⟩
   ·cases hh
  | succ k =>
   have := Ygh rest k x (by simpa using hx) hd;rwa [show t + (k + 1) = t + 1 + k by omega]
theorem Yo5 {x : AV} {xs : List AV} (h : x.isHeld = false) : Ybl (x :: xs) = Ybl xs := by cases x <;> first | rfl | cases h
def Yvw (φ φ2 : Phi) (a : Act) (k : Nat) (x y : AV) : Prop :=
 (x.isHeld = false /\ y.isHeld = false /\ (y.rd = true -> a.tmps[k]? = some (y.conc φ2))) \/ ∃ x' y', x = .held x' /\ y = .held y' /\ y'.conc φ2 = x'.conc φ
theorem Ymc {φ φ2 : Phi} {a : Act} : ∀ {xs ys : List AV} {t : Nat}, xs.length = ys.length -> (∀ k x y, xs[k]? = some x -> ys[k]? = some y -> Yvw φ φ2 a (t + k) x y) -> (Ybl ys).map (Yd0 φ2) = (Ybl xs).map (Yd0 φ)
 | [], [], _, _, _ => rfl
 | x :: xs, y :: ys, t, hl, h => by
  have ih := Ymc (φ := φ) (φ2 := φ2) (a := a) (xs := xs) (ys := ys) (t := t + 1) (by simpa using hl) fun k u v hu hv => by
   rw [show t + 1 + k = t + (k + 1) by omega];exact h (k + 1) u v (by simpa using hu) (by simpa using hv)
  rcases h 0 x y rfl rfl with ⟨h1, h2, _⟩ | ⟨x', y', rfl, rfl, hf⟩
  ·rw [Yo5 h1, Yo5 h2];exact ih
  ·simp only [Ybl, List.map_cons, ih, Yd0, hf]
 | [], _ :: _, _, hl, _ => by simp at hl
 | _ :: _, [], _, hl, _ => by simp at hl
theorem RepT.as {φ φ2 : Phi} {tm tm2 : List AV} {a : Act} (h : RepT φ tm a) (hl : tm.length = tm2.length) (hs : ∀ k x y, tm[k]? = some x -> tm2[k]? = some y -> Yvw φ φ2 a k x y) : RepT φ2 tm2 a := by
 have get : ∀ k y, tm2[k]? = some y -> ∃ x, tm[k]? = some x /\ Yvw φ φ2 a k x y := fun k y hy => by
  have hk : k < tm.length := by rw [hl]; exact (List.getElem?_eq_some_iff.1 hy).1
  exact ⟨tm[k], List.getElem?_eq_getElem hk, hs k _ _ (List.getElem?_eq_getElem hk) hy⟩
 refine ⟨fun t v hv hh => ?_, fun t v hv hh => ?_, fun t v hv hr => ?_, ?_, by rw [<- hl]; exact h.len⟩
 ·obtain ⟨x, hx, h1⟩ := get t v hv;rcases h1 with ⟨h2, _, _⟩ | ⟨_, _, _, rfl, _⟩
  ·exact h.size t x hx h2
  ·cases hh
 ·obtain ⟨x, hx, h1⟩ := get t v hv;rcases h1 with ⟨_, h2, _⟩ | ⟨x', _, rfl, rfl, _⟩
  ·rw [h2] at hh; cases hh
  ·exact h.held t _ hx rfl
 ·obtain ⟨x, hx, h1⟩ := get t v hv;rcases h1 with ⟨_, _, h2⟩ | ⟨x', _, rfl, rfl, _⟩
  ·exact h2 hr
  ·cases hr
 ·rw [h.df]
  congr 1
  exact (Ymc (t := 0) hl fun k x y hx hy => by rw [Nat.zero_add]; exact hs k x y hx hy).symm
mutual
theorem Yi0 {φ : Phi} {B : Bd} {a : Act} : ∀ y : AV, y.ids Yb5 = true -> y.conc (Ydm φ B a) = y.conc (hB φ B)
 | .v _, _ => rfl
 | .ptr id k, h => by simp only [AV.conc, Yx (show Yb5 id = true from h)]
 | .sl id _ _ _, h => by simp only [AV.conc, Yx (show Yb5 id = true from h)]
 | .slc id _ _ _, h => by simp only [AV.conc, Yx (show Yb5 id = true from h)]
 | .emp id, h => by simp only [AV.conc, Yx (show Yb5 id = true from h)]
 | .agg cs, h => by simp only [AV.conc, Ybw cs h]
 | .tup cs, h => by simp only [AV.conc, Ybw cs h]
 | .fn f x y, h => by
  unfold AV.ids at h
  split at h
  ·rename_i h1;simp only [AV.conc, Ybw x h1, Ybw y h]
  ·cases h
 | .ifc t x, h => by simp only [AV.conc, Yi0 x h]
 | .mp id, h => by simp only [AV.conc, Yx (show Yb5 id = true from h)]
 | .yl id, h => by simp only [AV.conc, Yx (show Yb5 id = true from h)]
 | .held _, _ => rfl
 | .junk, _ => rfl
 | .si _ _, _ => rfl
 | .sb _, _ => rfl
 | .ss _, _ => rfl
 | .rs _ _, _ => rfl
 | .rp _ _ _ _, _ => rfl
 | .rw id, h => by simp only [AV.conc, Yx (show Yb5 id = true from h)]
 | .ep id _ _ _, h => by simp only [AV.conc, Yx (show Yb5 id = true from h)]
 | .rwp id _ _ _, h => by simp only [AV.conc, Yx (show Yb5 id = true from h)]
 | .opq id, h => by simp only [AV.conc, Yx (show Yb5 id = true from h)]
theorem Ybw {φ : Phi} {B : Bd} {a : Act} : ∀ ys : List AV, AV.idsL Yb5 ys = true -> AV.concL (Ydm φ B a) ys = AV.concL (hB φ B) ys
 | [], _ => rfl
 | y :: ys, h => by
  unfold AV.idsL at h
  split at h
  ·rename_i h1;simp only [AV.concL, Yi0 y h1, Ybw ys h]
  ·cases h
end
theorem Yzd {φ : Phi} {B : Bd} {a : Act} {pid : Nat} (hp : Yb5 pid = true) : ∀ it : It, it.ids Yb5 = true -> it.conc (Ydm φ B a) pid = it.conc (hB φ B) pid
 | .blk _ cs, h => by simp only [It.conc, Yx hp, Ybw cs h]
 | .row _ _ _ cs, h => by simp only [It.conc, Yx hp, Ybw cs h]
 | .rowV .., _ => by simp only [It.conc, Yx hp]
 | .obj _, _ => by simp only [It.conc, Yx hp]
 | .lp _ cs, h => by simp only [It.conc, Yx hp, Ybw cs h]
 | .dead, _ => rfl
 | .arr .., _ => by simp only [It.conc, Yx hp]
 | .bk _ _ _ j, h => by simp only [It.conc, Yx hp, Yx (show Yb5 j = true from h)]
 | .bkv _ _ _ cs j, h => by
  have h' : (match Yb5 j with | true => AV.idsL Yb5 cs | false => false) = true := h
  split at h'
  ·rename_i h1;simp only [It.conc, Yx hp, Yx h1, Ybw cs h']
  ·cases h'
def lowH : Heap -> Bool
 | [] => true
 | p :: h => Yb5 p.1 && p.2.ids Yb5 && lowH h
theorem Yuk {φ : Phi} {B : Bd} {a : Act} : ∀ h : Heap, lowH h = true -> Yc (Ydm φ B a) h = Yc (hB φ B) h
 | [], _ => rfl
 | p :: h, hh => by
  simp only [lowH, Bool.and_eq_true] at hh;have := Yuk (φ := φ) (B := B) (a := a) h hh.2;simp only [Yc, List.map_cons, Yzd hh.1.1 p.2 hh.1.2] at this ⊢;rw [this]
def lowS : List (Nat × AV) -> Bool
 | [] => true
 | p :: s => p.2.ids Yb5 && lowS s
theorem Yrt : ∀ {s : List (Nat × AV)}, lowS s = true -> ∀ q ∈ s, q.2.ids Yb5 = true
 | [], _, q, hq => by cases hq
 | p :: s, h, q, hq => by
  simp only [lowS, Bool.and_eq_true] at h;rcases List.mem_cons.1 hq with rfl | hq
  ·exact h.1
  ·exact Yrt h.2 q hq
def nthA : List AV -> Nat -> AV
 | [], _ => .junk
 | x :: xs, n => match n with | 0 => x | n + 1 => nthA xs n
def Yyv (id : Nat) (hp : Heap) (K : Heap -> Prop) : Prop :=
 match look hp id with
 | some (.bk T ts xs j) => (match look hp j with
  | some (.arr T' ts' zs) => Yb (Nat.beq T' T && Ycd.sameTs ts' ts && !(Nat.beq j id)) (Pre (zs.take xs.length = xs) (updK hp id (.arr T ts xs) fun hp => updK hp j .dead K))
  | _ => K hp)
 | _ => K hp
def Ykv : List (Nat × Pt) -> List AV -> Heap -> (Heap -> Prop) -> Prop
 | [], _, hp, K => K hp
 | p :: ps, tm, hp, K => match p.2 with
  | .row _ => (match nthA tm p.1 with | .rw id => Yyv id hp fun hp => Ykv ps tm hp K | _ => Ykv ps tm hp K)
  | _ => Ykv ps tm hp K
theorem Ywg {hp : Heap} (hn : (keys hp).Nodup) {i j : Nat} {x y : It} (hi : look hp i = some x) (hj : look hp j = some y) (hne : i ≠ j) : ∃ r, hp.Perm ((i, x) :: (j, y) :: r) /\ ∀ x' y', (upd (upd hp i x') j y').Perm ((i, x') :: (j, y') :: r) := by
 induction hp with
 | nil => simp [look] at hi
 | cons p h ih =>
  simp only [keys, List.map_cons, List.nodup_cons] at hn;have one : ∀ (h : Heap), (keys h).Nodup -> ∀ (k : Nat) (z : It), look h k = some z -> ∃ r, h.Perm ((k, z) :: r) /\ ∀ z', (upd h k z').Perm ((k, z') :: r) := by
   intro h
   induction h with
   | nil => intro _ k z hk; simp [look] at hk
   | cons q h ih2 =>
    intro hn k z hk;simp only [keys, List.map_cons, List.nodup_cons] at hn;rw [Yr] at hk
    split at hk
    ·rename_i e;cases hk;refine ⟨h, by rw [<- e], fun z' => ?_⟩;unfold upd;rw [Ye.2 e, <- e]
    ·rename_i e;obtain ⟨r, h1, h2⟩ := ih2 hn.2 k z hk;refine ⟨q :: r, (h1.cons q).trans (List.Perm.swap _ _ _), fun z' => ?_⟩;unfold upd;rw [Y2.2 e];exact ((h2 z').cons q).trans (List.Perm.swap _ _ _)
  rw [Yr] at hi hj
  by_cases e1 : p.1 = i
  ·rw [if_pos e1] at hi;cases hi;have e2 : p.1 ≠ j := fun e => hne (e1.symm.trans e);rw [if_neg e2] at hj;obtain ⟨r, h1, h2⟩ := one h hn.2 j y hj;refine ⟨r, by rw [<- e1]; exact h1.cons p, fun x' y' => ?_⟩;have e3 : upd (p :: h) i x' = (p.1, x') :: h := by unfold upd; rw [Ye.2 e1]
   rw [e3];unfold upd;rw [Y2.2 e2, <- e1];exact (h2 y').cons _
  ·rw [if_neg e1] at hi
   by_cases e2 : p.1 = j
   ·rw [if_pos e2] at hj;cases hj;obtain ⟨r, h1, h2⟩ := one h hn.2 i x hi;refine ⟨r, ?_, fun x' y' => ?_⟩
    ·rw [<- e2]; exact (h1.cons p).trans (List.Perm.swap _ _ _)
    ·have e3 : upd (p :: h) i x' = p :: upd h i x' := by conv => lhs; unfold upd; rw [Y2.2 e1]
     rw [e3]
     conv => lhs; unfold upd; rw [Ye.2 e2]
     rw [<- e2];exact ((h2 x').cons _).trans (List.Perm.swap _ _ _)
   ·rw [if_neg e2] at hj;obtain ⟨r, h1, h2⟩ := ih hn.2 hi hj;refine ⟨p :: r, (h1.cons p).trans ?_, fun x' y' => ?_⟩
    ·exact (List.Perm.swap _ _ _).trans ((List.Perm.swap _ _ _).cons _)
    ·have e3 : upd (upd (p :: h) i x') j y' = p :: upd (upd h i x') j y' := by
      have e4 : upd (p :: h) i x' = p :: upd h i x' := by conv => lhs; unfold upd; rw [Y2.2 e1]
      rw [e4]
      conv => lhs; unfold upd; rw [Y2.2 e2]
     rw [e3];exact ((h2 x' y').cons p).trans ((List.Perm.swap _ _ _).trans ((List.Perm.swap _ _ _).cons _))
theorem Ytf {id : Nat} {hp : Heap} {K : Heap -> Prop} (h : Yyv id hp K) : ∃ hp', K hp' /\ ∀ (φ0 φ : Phi) (w0 : World) (M : List Nat) (R : RL) (tm : List AV) (a : Act) (w : World), RepS φ0 φ w0 M R tm hp a w -> RepS φ0 φ w0 M R tm hp' a w := by
 unfold Yyv at h
 split at h
 ·rename_i T ts xs j hl
  split at h
  ·rename_i T' ts' zs hl2;obtain ⟨h1, h2⟩ := Ya h;simp only [Bool.and_eq_true, Ye, Bool.not_eq_true'] at h1;obtain ⟨⟨rfl, h12⟩, h13⟩ := h1;obtain ⟨e, _⟩ := Y7 h12;subst e;obtain ⟨h3, h4⟩ := h2;have h5 := Ydo.1 (Ydo.1 h4);refine ⟨_, h5, fun φ0 φ w0 M R tm a w hr => ⟨hr.tmps, ?_, by rw [Yne, Yne]; exact hr.nd, hr.base⟩⟩;have hne : id ≠ j := fun e => Y2.1 h13 e.symm;obtain ⟨r, p1, p2⟩ := Ywg hr.nd hl hl2 hne;have hS := hr.st.perm ((Yu p1).append_right R);have hS2 := St.lentBack (R := Yc φ r ++ R) h3 (by simpa [Yc] using hS);refine (show St w0 M (Yc φ ((id, .arr T' ts' xs) :: (j, .dead) :: r) ++ R) w by simpa [Yc] using hS2).perm ?_;exact ((Yu (p2 _ _)).append_right R).symm
  ·exact ⟨_, h, fun _ _ _ _ _ _ _ _ hr => hr⟩
 ·exact ⟨_, h, fun _ _ _ _ _ _ _ _ hr => hr⟩
theorem Ydk : ∀ {ps : List (Nat × Pt)} {tm : List AV} {hp : Heap} {K : Heap -> Prop}, Ykv ps tm hp K -> ∃ hp', K hp' /\ ∀ (φ0 φ : Phi) (w0 : World) (M : List Nat) (R : RL) (tm : List AV) (a : Act) (w : World), RepS φ0 φ w0 M R tm hp a w -> RepS φ0 φ w0 M R tm hp' a w
 | [], _, _, _, h => ⟨_, h, fun _ _ _ _ _ _ _ _ hr => hr⟩
 | p :: ps, tm, hp, K, h => by
  unfold Ykv at h
  split at h
  ·split at h
   ·obtain ⟨hp1, h1, h2⟩ := Ytf h;obtain ⟨hp2, h3, h4⟩ := Ydk h1;exact ⟨hp2, h3, fun φ0 φ w0 M R tm a w hr => h4 φ0 φ w0 M R tm a w (h2 φ0 φ w0 M R tm a w hr)⟩
   ·exact Ydk h
  ·exact Ydk h
def Yxu (T : List (Nat × Pt)) (H : List (Nat × PI)) (tm : List AV) (hp : Heap) (K : List (Nat × AV) -> Heap -> Bd -> Heap -> List Ed -> Prop) : Prop :=
 Yrr tm T [] fun s B e1 => Ydu H B hp fun ys B rest e2 => Yb (Yin s tm 0 && lowS s && lowH ys && Yd5 (ys.map (·.1))) (K s ys B rest (e1 ++ e2))
def Yr6 (φ : Phi) : Phi := fun x => φ (3 * x + 1)
theorem Yq5 {T : List (Nat × Pt)} {H : List (Nat × PI)} {tm : List AV} {hp : Heap} {K : List (Nat × AV) -> Heap -> Bd -> Heap -> List Ed -> Prop} (h : Yxu T H tm hp K) :
  ∃ s ys B rest e1 e2, K s ys B rest (e1 ++ e2) /\ Ylb T s e1 /\ Ygm H ys e2 /\ rest.Sublist hp /\ (∀ (k : Nat) (x : AV), tm[k]? = some x -> x.isHeld = true -> ∃ y, Ycc s k = some y) /\ (∀ q ∈ s, ∃ x, tm[q.1]? = some x /\ FitS B x q.2) /\ (keys ys).Nodup /\
   ∀ (φ0 φ : Phi) (w0 : World) (M : List Nat) (R : RL) (a : Act) (w : World), RepS φ0 φ w0 M R tm hp a w -> RepS (Yr6 (Ydm φ B a)) (Ydm φ B a) w0 M (Yc φ rest ++ R) (tmOf tm.length s) ys a w := by
 obtain ⟨s, B1, e1, h1, h2, h3, h4⟩ := Ygd T [] _ h;obtain ⟨ys, B2, rest, e2, k1, k2, k3, k3s, k4⟩ := Yei H B1 hp _ h1;obtain ⟨hb, hk⟩ := Ya k1;simp only [Bool.and_eq_true] at hb;obtain ⟨⟨⟨b1, b2⟩, b3⟩, b4⟩ := hb;have hheld : ∀ (k : Nat) (x : AV), tm[k]? = some x -> x.isHeld = true -> ∃ y, Ycc s k = some y := fun k x hx hd => by
  have := Ygh b1 k x hx hd;simpa using this
 have hfit : ∀ q ∈ s, ∃ x, tm[q.1]? = some x /\ FitS B2 x q.2 := fun q hq => by
  obtain ⟨x, hx, hf⟩ := h4 q hq;exact ⟨x, hx, hf.ext k3⟩
 refine ⟨s, ys, B2, rest, e1, e2, hk, h2, k2, k3s, hheld, hfit, Ybb b4, fun φ0 φ w0 M R a w hr => ⟨?_, ?_, Ybb b4, fun x => rfl⟩⟩
 ·refine hr.tmps.as (by rw [tmOf, Yed]) fun k x y hx hy => ?_;rw [tmOf, Yfj, Nat.zero_add] at hy
  split at hy
  ·simp only [Option.some.injEq] at hy
   split at hy
   ·rename_i y' hl;subst hy;obtain ⟨x', hx', hf⟩ := hfit _ (Yj6 hl);rw [hx] at hx';cases hx';have hlow := Yrt b2 _ (Yj6 hl);rcases hf with ⟨f1, f2, f3⟩ | ⟨x1, y1, f1, f2, f3⟩
    ·refine .inl ⟨Ysr f1, Ysr f2, fun _ => ?_⟩;rw [Yi0 _ hlow, f3 B2 (.refl _) φ];exact hr.tmps.slot k x hx f1
    ·dsimp only at f2;subst f1; subst f2;refine .inr ⟨_, _, rfl, rfl, ?_⟩;rw [Yi0 _ (show y1.ids Yb5 = true from hlow), f3 B2 (.refl _) φ]
   ·rename_i hl;subst hy;have hnh : x.isHeld = false := by
     cases hd : x.isHeld with
     | false => rfl
     | true => obtain ⟨y, hy⟩ := hheld k x hx hd; rw [hl] at hy; cases hy
    refine .inl ⟨hnh, rfl, fun _ => ?_⟩;have hk2 := hr.tmps.size k x hx hnh
    show a.tmps[k]? = some (Ydm φ B2 a (oid k)).v
    rw [Yoi];simp [Array.getD_eq_getD_getElem?, hk2]
  ·cases hy
 ·have := k4 B2 (.refl _) φ w0 M [] R w (by simpa using hr.st);rw [Yuk ys b3];simpa using this
end Go.Proofs.Ytmogofidmchdoaa
namespace Go.Proofs.Ytmogofidmchdoaa
open Go.RowKit
variable [InW]
attribute [local irreducible] Go.Oper.wp
def inL (t : Nat) : List Nat -> Bool
 | [] => false
 | u :: us => match Nat.beq u t with | true => true | false => inL t us
def Ye3 (s : List (Nat × AV)) (J : List Nat) : Nat -> Nat -> List AV
 | _, 0 => []
 | t, n + 1 => (match Ycc s t with | some y => y | none => (match inL t J with | true => .junk | false => .opq (oid t))) :: Ye3 s J (t + 1) n
def Ydl (len : Nat) (s : List (Nat × AV)) (J : List Nat) : List AV := Ye3 s J 0 len
theorem Ydd (s : List (Nat × AV)) (J : List Nat) : ∀ (n t k : Nat), (Ye3 s J t n)[k]? = if k < n then some (match Ycc s (t + k) with | some y => y | none => (match inL (t + k) J with | true => .junk | false => .opq (oid (t + k)))) else none
 | 0, t, k => by simp [Ye3]
 | n + 1, t, 0 => by simp [Ye3]
 | n + 1, t, k + 1 => by simp [Ye3, Ydd s J n (t + 1) k, show t + 1 + k = t + (k + 1) by omega]
theorem Ycq (s : List (Nat × AV)) (J : List Nat) : ∀ (n t : Nat), (Ye3 s J t n).length = n
 | 0, _ => rfl
 | n + 1, t => by simp [Ye3, Ycq s J n]
theorem RepT.forget {φ : Phi} {len : Nat} {s : List (Nat × AV)} {J : List Nat} {a : Act} (h : RepT φ (tmOf len s) a) : RepT φ (Ydl len s J) a := by
 refine h.as (by rw [tmOf, Ydl, Yed, Ycq]) fun k x y hx hy => ?_;rw [tmOf, Yfj, Nat.zero_add] at hx;rw [Ydl, Ydd, Nat.zero_add] at hy
 split at hx
 ·rename_i hk;rw [if_pos hk] at hy;have hx0 := hx;simp only [Option.some.injEq] at hx hy;have hget : (tmOf len s)[k]? = some x := by rw [tmOf, Yfj, if_pos hk, Nat.zero_add]; exact hx0
  split at hx
  ·rename_i y' hl;rw [hl] at hy;dsimp only at hy;subst hx;subst hy;cases hd : y'.isHeld with
   | false => exact .inl ⟨hd, hd, fun hr => h.slot k _ hget hr⟩
   | true => cases y' <;> first | exact .inr ⟨_, _, rfl, rfl, rfl⟩ | cases hd
  ·rename_i hl;rw [hl] at hy;subst hx;dsimp only at hy
   split at hy
   ·subst hy; exact .inl ⟨rfl, rfl, fun hr => by cases hr⟩
   ·subst hy; exact .inl ⟨rfl, rfl, fun hr => h.slot k _ hget hr⟩
 ·cases hx
def Yqz (s : List (Nat × AV)) (J : List Nat) : List AV -> Nat -> Bool
 | [], _ => true
 | x :: xs, t => match Ycc s t with
  | some _ => Yqz s J xs (t + 1)
  | none => (match x with
   | .held _ => false
   | x => (match inL t J with
    | true => Yqz s J xs (t + 1)
    | false => (match x with | .opq i => (match Nat.beq i (oid t) with | true => Yqz s J xs (t + 1) | false => false) | _ => false)))
theorem Yl8 {s : List (Nat × AV)} {J : List Nat} : ∀ {xs : List AV} {t : Nat}, Yqz s J xs t = true -> ∀ (k : Nat) (x : AV), xs[k]? = some x -> (∃ y, Ycc s (t + k) = some y) \/ (Ycc s (t + k) = none /\ x.isHeld = false /\ (inL (t + k) J = true \/ (inL (t + k) J = false /\ x = .opq (oid (t + k)))))
 | [], _, _, k, x, h => by simp at h
 | z :: xs, t, hh, k, x, hx => by
  have both : Yqz s J xs (t + 1) = true /\ ((∃ y, Ycc s t = some y) \/ (Ycc s t = none /\ z.isHeld = false /\ (inL t J = true \/ (inL t J = false /\ z = .opq (oid t))))) := by
   unfold Yqz at hh
   split at hh
   ·rename_i y hy; exact ⟨hh, .inl ⟨y, hy⟩⟩
   ·rename_i hn
    split at hh
    ·cases hh
    ·rename_i hnh;have hz : z.isHeld = false := by cases z <;> first | rfl | exact (hnh _ rfl).elim
     split at hh
     ·rename_i hj; exact ⟨hh, .inr ⟨hn, hz, .inl hj⟩⟩
     ·rename_i hj
      split at hh
      ·split at hh
       ·rename_i hb; exact ⟨hh, .inr ⟨hn, hz, .inr ⟨hj, by rw [Ye.1 hb]⟩⟩⟩
       ·cases hh
      ·cases hh
  cases k with
  | zero =>
   simp only [List.getElem?_cons_zero, Option.some.injEq] at hx;subst hx;exact both.2
  | succ k =>
   have := Yl8 both.1 k x (by simpa using hx);rwa [show t + (k + 1) = t + 1 + k by omega]
def Yod : Bd -> Bool
 | [] => true
 | (p, s) :: b => (match s with | .id i => (match Nat.beq (p % 3) 1 with | true => Nat.beq i p | false => true) | _ => !(Nat.beq (p % 3) 1)) && Yod b
theorem Ylp : ∀ {B : Bd} {p : Nat} {s : Src'}, Yod B = true -> Ye8 B p = some s -> p % 3 = 1 -> s = .id p
 | [], p, s, _, h, _ => by cases h
 | (q, u) :: b, p, s, hb, h, hp => by
  simp only [Yod, Bool.and_eq_true] at hb;unfold Ye8 at h
  split at h
  ·rename_i hq;cases h;have e := Ye.1 hq;dsimp only at e;subst e;cases u with
   | id i =>
    have h1 := hb.1;simp only [Ye.2 hp] at h1;rw [Ye.1 h1]
   | nil => have h1 := hb.1; simp only [Ye.2 hp, Bool.not_true, Bool.false_eq_true] at h1
   | conv _ _ => have h1 := hb.1; simp only [Ye.2 hp, Bool.not_true, Bool.false_eq_true] at h1
   | val _ => have h1 := hb.1; simp only [Ye.2 hp, Bool.not_true, Bool.false_eq_true] at h1
  ·exact Ylp hb.2 h hp
theorem Yq3 {φ : Phi} {B : Bd} (h : Yod B = true) (x : Nat) : hB φ B (3 * x + 1) = φ (3 * x + 1) := by
 unfold hB;cases hl : Ye8 B (3 * x + 1) with
 | none => rfl
 | some s => rw [Ylp h hl (by omega)]; rfl
def Yoc : List (Nat × PI) -> Bd
 | [] => []
 | p :: h => match Nat.beq (p.1 % 3) 1 with | true => (p.1, .id p.1) :: Yoc h | false => Yoc h
def fitK (T : List (Nat × Pt)) (H : List (Nat × PI)) (J : List Nat) (tm : List AV) (hp : Heap) (Q : List Ed -> Prop) : Prop :=
 Ykv T tm hp fun hp => Yrr tm T (Yoc H) fun s B e1 => Ydu H B hp fun ys B rest e2 => Yb (Yqz s J tm 0 && Yod B && Yd5 (ys.map (·.1))) (Q (e1 ++ e2))
theorem Yo8 {T : List (Nat × Pt)} {H : List (Nat × PI)} {J : List Nat} {tm : List AV} {hp : Heap} {Q : List Ed -> Prop} (h : fitK T H J tm hp Q) : ∃ s ys e1 e2, Q (e1 ++ e2) /\ Ylb T s e1 /\ Ygm H ys e2 /\
  ∀ (φ0 φ : Phi) (w0 : World) (M : List Nat) (R : RL) (a : Act) (w : World), RepS φ0 φ w0 M R tm hp a w -> ∃ φ2, RepS φ0 φ2 w0 M R (Ydl tm.length s J) ys a w := by
 obtain ⟨hp1, h, hback⟩ := Ydk h;obtain ⟨s, B1, e1, h1, h2, h3, h4⟩ := Ygd T _ _ h;obtain ⟨ys, B2, rest, e2, k1, k2, k3, k3s, k4⟩ := Yei H B1 hp1 _ h1;obtain ⟨hb, hk⟩ := Ya k1;simp only [Bool.and_eq_true] at hb;obtain ⟨⟨b1, b2⟩, b3⟩ := hb;refine ⟨s, ys, e1, e2, hk, h2, k2, fun φ0 φ w0 M R a w hr0 => ?_⟩;have hr := hback φ0 φ w0 M R tm a w hr0;refine ⟨hB φ B2, ?_, ?_, Ybb b3, fun x => by rw [Yq3 b2]; exact hr.base x⟩
 ·refine hr.tmps.as (by rw [Ydl, Ycq]) fun k x y hx hy => ?_;rw [Ydl, Ydd, Nat.zero_add] at hy
  split at hy
  ·simp only [Option.some.injEq] at hy;rcases Yl8 b1 k x hx with ⟨y', hl⟩ | ⟨hl, hnh, hj | ⟨hj, rfl⟩⟩
   ·rw [Nat.zero_add] at hl;rw [hl] at hy;subst hy;obtain ⟨x', hx', hf⟩ := h4 _ (Yj6 hl);rw [hx] at hx';cases hx';rcases hf.ext k3 with ⟨f1, f2, f3⟩ | ⟨x1, y1, f1, f2, f3⟩
    ·exact .inl ⟨Ysr f1, Ysr f2, fun _ => by rw [f3 B2 (.refl _) φ]; exact hr.tmps.slot k x hx f1⟩
    ·dsimp only at f2;subst f1; subst f2;exact .inr ⟨_, _, rfl, rfl, f3 B2 (.refl _) φ⟩
   ·rw [Nat.zero_add] at hl hj;rw [hl, hj] at hy;subst hy;exact .inl ⟨hnh, rfl, fun hr => by cases hr⟩
   ·rw [Nat.zero_add] at hl hj hx;rw [hl, hj] at hy;subst hy;refine .inl ⟨rfl, rfl, fun _ => ?_⟩;have := hr.tmps.slot k _ hx rfl;rw [this]
    show some (φ (oid k)).v = some (hB φ B2 (oid k)).v
    have e : oid k = 3 * (1000 + k) + 1 := rfl;rw [e, Yq3 b2]
  ·cases hy
 ·have := k4 B2 (.refl _) φ w0 M [] R w (by simpa using hr.st);simp only [List.nil_append] at this;exact this.sub ((List.Sublist.refl _).append (List.sublist_append_right _ _))
mutual
def insP : Pt -> List Ed -> Option (AV × List Ed)
 | .int k, es => (match es with | .i n :: es => some (.si k n, es) | _ => none)
 | .bool, es => (match es with | .b x :: es => some (.sb x, es) | _ => none)
 | .str, es => (match es with | .s x :: es => some (.ss x, es) | _ => none)
 | .lit v, es => some (.v v, es)
 | .ptr pid k, es => some (.ptr pid k, es)
 | .row pid, es => some (.rw pid, es)
 | .rs _, es => (match es with | .ro ts r :: es => some (.rs ts r, es) | _ => none)
 | .mp pid, es => some (.mp pid, es)
 | .yl pid, es => some (.yl pid, es)
 | .opq pid, es => some (.opq pid, es)
 | .agg ps, es => (match insL ps es with | some (ys, es) => some (.agg ys, es) | none => none)
 | .tup ps, es => (match insL ps es with | some (ys, es) => some (.tup ys, es) | none => none)
 | .fn f a b, es => (match insL a es with | some (xs, es) => (match insL b es with | some (ys, es) => some (.fn f xs ys, es) | none => none) | none => none)
 | .ifc t p, es => (match insP p es with | some (y, es) => some (.ifc t y, es) | none => none)
 | .held p, es => (match insP p es with | some (y, es) => some (.held y, es) | none => none)
 | .sl pid a b c, es => some (.sl pid a b c, es)
 | .slc pid a b c, es => some (.slc pid a b c, es)
 | .rwp pid sz, es => (match es with | .i l :: .i n :: es => some (.rwp pid sz l.toNat n.toNat, es) | _ => none)
 | .emp pid, es => some (.emp pid, es)
def insL : List Pt -> List Ed -> Option (List AV × List Ed)
 | [], es => some ([], es)
 | p :: ps, es => (match insP p es with | some (y, es) => (match insL ps es with | some (ys, es) => some (y :: ys, es) | none => none) | none => none)
end
mutual
theorem Yh0 : ∀ (p : Pt) (y : AV) (es e : List Ed), Ylc p y es -> insP p (es ++ e) = some (y, e)
 | .int k, _, _, e, ⟨n, rfl, rfl⟩ => rfl
 | .bool, _, _, e, ⟨n, rfl, rfl⟩ => rfl
 | .str, _, _, e, ⟨n, rfl, rfl⟩ => rfl
 | .lit v, _, _, e, ⟨rfl, rfl⟩ => rfl
 | .ptr pid k, _, _, e, ⟨rfl, rfl⟩ => rfl
 | .row pid, _, _, e, ⟨rfl, rfl⟩ => rfl
 | .rs _, _, _, e, ⟨r, rfl, rfl⟩ => rfl
 | .mp pid, _, _, e, ⟨rfl, rfl⟩ => rfl
 | .yl pid, _, _, e, ⟨rfl, rfl⟩ => rfl
 | .opq pid, _, _, e, ⟨rfl, rfl⟩ => rfl
 | .agg ps, _, es, e, ⟨xs, rfl, h⟩ => by unfold insP; rw [Yfc ps xs es e h]
 | .tup ps, _, es, e, ⟨xs, rfl, h⟩ => by unfold insP; rw [Yfc ps xs es e h]
 | .fn f a b, _, _, e, ⟨xs, ys, e1, e2, rfl, rfl, h1, h2⟩ => by
  unfold insP;rw [List.append_assoc, Yfc a xs e1 (e2 ++ e) h1];simp only [Yfc b ys e2 e h2]
 | .ifc t p, _, es, e, ⟨y, rfl, h⟩ => by unfold insP; rw [Yh0 p y es e h]
 | .held p, _, es, e, ⟨y, rfl, h⟩ => by unfold insP; rw [Yh0 p y es e h]
 | .sl pid a b c, _, _, e, ⟨rfl, rfl⟩ => rfl
 | .slc pid a b c, _, _, e, ⟨rfl, rfl⟩ => rfl
 | .rwp pid sz, _, _, e, ⟨l, n, rfl, rfl⟩ => rfl
 | .emp pid, _, _, e, ⟨rfl, rfl⟩ => rfl
theorem Yfc : ∀ (ps : List Pt) (ys : List AV) (es e : List Ed), Yiv ps ys es -> insL ps (es ++ e) = some (ys, e)
 | [], _, _, e, ⟨rfl, rfl⟩ => rfl
 | p :: ps, _, _, e, ⟨x, xs, e1, e2, rfl, rfl, h1, h2⟩ => by
  unfold insL;rw [List.append_assoc, Yh0 p x e1 (e2 ++ e) h1];simp only [Yfc ps xs e2 e h2]
end
def insT : List (Nat × Pt) -> List Ed -> Option (List (Nat × AV) × List Ed)
 | [], es => some ([], es)
 | (t, p) :: ps, es => (match insP p es with | some (y, es) => (match insT ps es with | some (ys, es) => some ((t, y) :: ys, es) | none => none) | none => none)
theorem Yut : ∀ (ps : List (Nat × Pt)) (s : List (Nat × AV)) (es e : List Ed), Ylb ps s es -> insT ps (es ++ e) = some (s, e)
 | [], _, _, e, ⟨rfl, rfl⟩ => rfl
 | (t, p) :: ps, _, _, e, ⟨x, xs, e1, e2, rfl, rfl, h1, h2⟩ => by
  unfold insT;rw [List.append_assoc, Yh0 p x e1 (e2 ++ e) h1];simp only [Yut ps xs e2 e h2]
def insI (p : PI) (es : List Ed) : Option (It × List Ed) :=
 match p with
 | .blk T ps => (match insL ps es with | some (ys, es) => some (.blk T ys, es) | none => none)
 | .arr T ts => (match es with | .l xs :: es => some (.arr T ts xs, es) | _ => none)
 | .row T sz n ps => (match insL ps es with | some (ys, es) => some (.row T sz n ys, es) | none => none)
 | .obj x => some (.obj x, es)
 | .mpI => (match es with | .m xs :: es => some (.obj (.mpI xs), es) | _ => none)
 | .lp L ps => (match insL ps es with | some (ys, es) => some (.lp L ys, es) | none => none)
 | .dead => some (.dead, es)
theorem Yyi (p : PI) (it : It) (es e : List Ed) (h : Yxf p it es) : insI p (es ++ e) = some (it, e) := by
 cases p with
 | blk T ps => obtain ⟨xs, rfl, h⟩ := h; unfold insI; simp only [Yfc ps xs es e h]
 | arr T ts => obtain ⟨xs, rfl, rfl⟩ := h; rfl
 | row T sz n ps => obtain ⟨xs, rfl, h⟩ := h; unfold insI; simp only [Yfc ps xs es e h]
 | obj x => obtain ⟨rfl, rfl⟩ := h; rfl
 | mpI => obtain ⟨xs, rfl, rfl⟩ := h; rfl
 | lp L ps => obtain ⟨xs, rfl, h⟩ := h; unfold insI; simp only [Yfc ps xs es e h]
 | dead => obtain ⟨rfl, rfl⟩ := h; rfl
def insH : List (Nat × PI) -> List Ed -> Option (Heap × List Ed)
 | [], es => some ([], es)
 | (pid, p) :: ps, es => (match insI p es with | some (y, es) => (match insH ps es with | some (ys, es) => some ((pid, y) :: ys, es) | none => none) | none => none)
theorem Ykc : ∀ (ps : List (Nat × PI)) (h : Heap) (es e : List Ed), Ygm ps h es -> insH ps (es ++ e) = some (h, e)
 | [], _, _, e, ⟨rfl, rfl⟩ => rfl
 | (pid, p) :: ps, _, _, e, ⟨it, h', e1, e2, rfl, rfl, h1, h2⟩ => by
  unfold insH;rw [List.append_assoc, Yyi p it e1 (e2 ++ e) h1];simp only [Ykc ps h' e2 e h2]
end Go.Proofs.Ytmogofidmchdoaa
namespace Go.Proofs.Ytmogofidmchdoaa
open Go.RowKit
attribute [local irreducible] Go.Oper.wp
section
variable [InW]
def Yfv (base i : Nat) : Bool := match Nat.beq (i % 3) 0 with | true => Nat.blt i (3 * base) | false => true
def rhoB (B : Bd) (base p : Nat) : Nat := match Ye8 B p with | some (.id i) => i | _ => 3 * (base + p)
def okP (B : Bd) (base p : Nat) : Bool :=
 match Ye8 B p with
 | some (.id i) => Nat.beq (p % 3) 1 && Yb5 p && Yfv base i
 | some (.val _) => false
 | some _ => Nat.beq (p % 3) 1 && Yb5 p
 | none => Nat.beq (p % 3) 0
def Ybt (φ φ2 : Phi) (base : Nat) : Phi := fun i => if i % 3 = 0 /\ base <= i / 3 then φ2 (i / 3 - base) else φ i
theorem Yc5 {φ φ2 : Phi} {base i : Nat} (h : Yfv base i = true) : Ybt φ φ2 base i = φ i := by
 unfold Ybt;rw [if_neg];rintro ⟨h1, h2⟩;unfold Yfv at h;rw [Ye.2 h1] at h;have := by simpa [Nat.blt_eq] using h
 omega
structure Ends (B : Bd) (φ φ2 : Phi) (a : Act) : Prop where
 base : ∀ x, φ2 (3 * x + 1) = Ydm φ B a (3 * x + 1)
theorem Ends.at {B : Bd} {φ φ2 : Phi} {a : Act} (h : Ends B φ φ2 a) {p : Nat} (hp : p % 3 = 1) (hl : Yb5 p = true) : φ2 p = hB φ B p := by
 have e : p = 3 * (p / 3) + 1 := by omega
 rw [e, h.base, <- e, Yx hl]
theorem Ybm {B : Bd} {φ φ2 : Phi} {a : Act} {base p : Nat} (h : Ends B φ φ2 a) (hp : okP B base p = true) : Ybt φ φ2 base (rhoB B base p) = φ2 p := by
 have fresh : Ybt φ φ2 base (3 * (base + p)) = φ2 p := by
  have h1 : 3 * (base + p) % 3 = 0 /\ base <= 3 * (base + p) / 3 := by omega
  have h2 : 3 * (base + p) / 3 - base = p := by omega
  simp only [Ybt, h1, and_self, if_true, h2]
 unfold okP at hp;unfold rhoB
 split at hp
 ·rename_i i hl;simp only [Bool.and_eq_true, Ye] at hp;rw [hl];dsimp only;rw [Yc5 hp.2, h.at hp.1.1 hp.1.2, Ydh hl, hdOf]
 ·cases hp
 ·rename_i s hne1 hne2 hl;rw [hl];cases s <;> first | exact fresh | exact (hne1 _ rfl).elim | exact (hne2 _ rfl).elim
 ·rename_i hl;rw [hl];exact fresh
mutual
def outP (B : Bd) (base : Nat) : Pt -> List Ed -> (AV -> List Ed -> Prop) -> Prop
 | .int k, es, K => (match es with | .i n :: es => K (.si k n) es | _ => Stuck 460)
 | .bool, es, K => (match es with | .b x :: es => K (.sb x) es | _ => Stuck 461)
 | .str, es, K => (match es with | .s x :: es => K (.ss x) es | _ => Stuck 462)
 | .lit v, es, K => K (.v v) es
 | .ptr pid k, es, K => Yb (okP B base pid) (Y1 (rhoB B base pid) fun i => K (.ptr i k) es)
 | .row pid, es, K => Yb (okP B base pid) (Y1 (rhoB B base pid) fun i => K (.rw i) es)
 | .rs _, es, K => (match es with | .ro ts r :: es => K (.rs ts r) es | _ => Stuck 463)
 | .mp pid, es, K => Yb (okP B base pid) (Y1 (rhoB B base pid) fun i => K (.mp i) es)
 | .yl pid, es, K => Yb (okP B base pid) (Y1 (rhoB B base pid) fun i => K (.yl i) es)
 | .opq pid, es, K => (match Ye8 B pid with
  | some (.val x) => Yb (Nat.beq (pid % 3) 1 && Yb5 pid && x.ids (Yfv base) && x.rd) (K x es)
  | some (.id i) => Yb (okP B base pid) (K (.opq i) es)
  | none => Yb (okP B base pid) (Y1 (rhoB B base pid) fun i => K (.opq i) es)
  | _ => Stuck 464)
 | .agg ps, es, K => outL B base ps es fun xs es => K (.agg xs) es
 | .tup ps, es, K => outL B base ps es fun xs es => K (.tup xs) es
 | .fn f a b, es, K => outL B base a es fun xs es => outL B base b es fun ys es => K (.fn f xs ys) es
 | .ifc t p, es, K => outP B base p es fun x es => K (.ifc t x) es
 | .held p, es, K => outP B base p es fun x es => K (.held x) es
 | .sl pid a b c, es, K => Yb (okP B base pid) (Y1 (rhoB B base pid) fun i => K (.sl i a b c) es)
 | .slc pid a b c, es, K => Yb (okP B base pid) (Y1 (rhoB B base pid) fun i => K (.slc i a b c) es)
 | .rwp pid sz, es, K => (match es with | .i l :: .i n :: es => Yb (okP B base pid) (Y1 (rhoB B base pid) fun i => K (.rwp i sz l.toNat n.toNat) es) | _ => Stuck 485)
 | .emp pid, es, K => Yb (okP B base pid) (Y1 (rhoB B base pid) fun i => K (.emp i) es)
def outL (B : Bd) (base : Nat) : List Pt -> List Ed -> (List AV -> List Ed -> Prop) -> Prop
 | [], es, K => K [] es
 | p :: ps, es, K => outP B base p es fun x es => outL B base ps es fun xs es => K (x :: xs) es
end
mutual
theorem Ye2 {B : Bd} {base : Nat} : ∀ (p : Pt) (es : List Ed) (K : AV -> List Ed -> Prop), outP B base p es K -> ∃ x y e, K x e /\ insP p es = some (y, e) /\ (∀ (φ φ2 : Phi) (a : Act), Ends B φ φ2 a -> x.conc (Ybt φ φ2 base) = y.conc φ2) /\
  ((x.rd = true /\ y.rd = true) \/ ∃ x' y', x = .held x' /\ y = .held y' /\ ∀ (φ φ2 : Phi) (a : Act), Ends B φ φ2 a -> x'.conc (Ybt φ φ2 base) = y'.conc φ2)
 | .int k, es, K, h => by
  unfold outP at h
  split at h
  ·exact ⟨_, _, _, h, rfl, fun _ _ _ _ => rfl, .inl ⟨rfl, rfl⟩⟩
  ·exact h.elim
 | .bool, es, K, h => by
  unfold outP at h
  split at h
  ·exact ⟨_, _, _, h, rfl, fun _ _ _ _ => rfl, .inl ⟨rfl, rfl⟩⟩
  ·exact h.elim
 | .str, es, K, h => by
  unfold outP at h
  split at h
  ·exact ⟨_, _, _, h, rfl, fun _ _ _ _ => rfl, .inl ⟨rfl, rfl⟩⟩
  ·exact h.elim
 | .lit v, es, K, h => by unfold outP at h; exact ⟨_, _, _, h, rfl, fun _ _ _ _ => rfl, .inl ⟨rfl, rfl⟩⟩
 | .ptr pid k, es, K, h => by
  unfold outP at h;obtain ⟨h1, h2⟩ := Ya h;exact ⟨_, _, _, Yi.1 h2, rfl, fun φ φ2 a he => by simp only [AV.conc, Ybm he h1], .inl ⟨rfl, rfl⟩⟩
 | .row pid, es, K, h => by
  unfold outP at h;obtain ⟨h1, h2⟩ := Ya h;exact ⟨_, _, _, Yi.1 h2, rfl, fun φ φ2 a he => by simp only [AV.conc, Ybm he h1], .inl ⟨rfl, rfl⟩⟩
 | .rs _, es, K, h => by
  unfold outP at h
  split at h
  ·exact ⟨_, _, _, h, rfl, fun _ _ _ _ => rfl, .inl ⟨rfl, rfl⟩⟩
  ·exact h.elim
 | .mp pid, es, K, h => by
  unfold outP at h;obtain ⟨h1, h2⟩ := Ya h;exact ⟨_, _, _, Yi.1 h2, rfl, fun φ φ2 a he => by simp only [AV.conc, Ybm he h1], .inl ⟨rfl, rfl⟩⟩
 | .yl pid, es, K, h => by
  unfold outP at h;obtain ⟨h1, h2⟩ := Ya h;exact ⟨_, _, _, Yi.1 h2, rfl, fun φ φ2 a he => by simp only [AV.conc, Ybm he h1], .inl ⟨rfl, rfl⟩⟩
 | .opq pid, es, K, h => by
  unfold outP at h
  split at h
  ·rename_i x hl;obtain ⟨h1, h2⟩ := Ya h;simp only [Bool.and_eq_true, Ye] at h1;obtain ⟨⟨⟨h11, h12⟩, h13⟩, h14⟩ := h1;refine ⟨_, _, _, h2, rfl, fun φ φ2 a he => ?_, .inl ⟨h14, rfl⟩⟩
   show x.conc (Ybt φ φ2 base) = (φ2 pid).v
   rw [he.at h11 h12, Ydh hl, hdOf];exact Yho (fun i hi => Yc5 hi) x h13
  ·rename_i i hl;obtain ⟨h1, h2⟩ := Ya h;refine ⟨_, _, _, h2, rfl, fun φ φ2 a he => ?_, .inl ⟨rfl, rfl⟩⟩;have := Ybm he h1;simp only [rhoB, hl] at this;simp only [AV.conc, this]
  ·obtain ⟨h1, h2⟩ := Ya h;exact ⟨_, _, _, Yi.1 h2, rfl, fun φ φ2 a he => by simp only [AV.conc, Ybm he h1], .inl ⟨rfl, rfl⟩⟩
  ·exact h.elim
 | .agg ps, es, K, h => by
  unfold outP at h;obtain ⟨xs, ys, e, h1, h2, h3⟩ := Ycu ps es _ h;exact ⟨_, _, _, h1, by unfold insP; rw [h2], fun φ φ2 a he => by simp only [AV.conc, h3 φ φ2 a he], .inl ⟨rfl, rfl⟩⟩
 | .tup ps, es, K, h => by
  unfold outP at h;obtain ⟨xs, ys, e, h1, h2, h3⟩ := Ycu ps es _ h;exact ⟨_, _, _, h1, by unfold insP; rw [h2], fun φ φ2 a he => by simp only [AV.conc, h3 φ φ2 a he], .inl ⟨rfl, rfl⟩⟩
 | .fn f p q, es, K, h => by
  unfold outP at h;obtain ⟨xs, ys, e, h1, h2, h3⟩ := Ycu p es _ h;obtain ⟨us, vs, e2, k1, k2, k3⟩ := Ycu q e _ h1;exact ⟨_, .fn f ys vs, _, k1, by unfold insP; rw [h2]; simp only [k2], fun φ φ2 a he => by simp only [AV.conc, h3 φ φ2 a he, k3 φ φ2 a he], .inl ⟨rfl, rfl⟩⟩
 | .ifc t p, es, K, h => by
  unfold outP at h;obtain ⟨x, y, e, h1, h2, h3, _⟩ := Ye2 p es _ h;exact ⟨_, _, _, h1, by unfold insP; rw [h2], fun φ φ2 a he => by simp only [AV.conc, h3 φ φ2 a he], .inl ⟨rfl, rfl⟩⟩
 | .held p, es, K, h => by
  unfold outP at h;obtain ⟨x, y, e, h1, h2, h3, _⟩ := Ye2 p es _ h;exact ⟨_, _, _, h1, by unfold insP; rw [h2], fun φ φ2 a he => rfl, .inr ⟨x, y, rfl, rfl, h3⟩⟩
 | .sl pid _ _ _, es, K, h => by
  unfold outP at h;obtain ⟨h1, h2⟩ := Ya h;exact ⟨_, _, _, Yi.1 h2, rfl, fun φ φ2 a he => by simp only [AV.conc, Ybm he h1], .inl ⟨rfl, rfl⟩⟩
 | .slc pid _ _ _, es, K, h => by
  unfold outP at h;obtain ⟨h1, h2⟩ := Ya h;exact ⟨_, _, _, Yi.1 h2, rfl, fun φ φ2 a he => by simp only [AV.conc, Ybm he h1], .inl ⟨rfl, rfl⟩⟩
 | .rwp pid sz, es, K, h => by
  unfold outP at h
  split at h
  ·obtain ⟨h1, h2⟩ := Ya h;exact ⟨_, _, _, Yi.1 h2, rfl, fun φ φ2 a he => by simp only [AV.conc, Ybm he h1], .inl ⟨rfl, rfl⟩⟩
  ·exact h.elim
 | .emp pid, es, K, h => by
  unfold outP at h;obtain ⟨h1, h2⟩ := Ya h;exact ⟨_, _, _, Yi.1 h2, rfl, fun φ φ2 a he => by simp only [AV.conc, Ybm he h1], .inl ⟨rfl, rfl⟩⟩
theorem Ycu {B : Bd} {base : Nat} : ∀ (ps : List Pt) (es : List Ed) (K : List AV -> List Ed -> Prop), outL B base ps es K -> ∃ xs ys e, K xs e /\ insL ps es = some (ys, e) /\ ∀ (φ φ2 : Phi) (a : Act), Ends B φ φ2 a -> AV.concL (Ybt φ φ2 base) xs = AV.concL φ2 ys
 | [], es, K, h => by unfold outL at h; exact ⟨_, _, _, h, rfl, fun _ _ _ _ => rfl⟩
 | p :: ps, es, K, h => by
  unfold outL at h;obtain ⟨x, y, e, h1, h2, h3, _⟩ := Ye2 p es _ h;obtain ⟨xs, ys, e2, k1, k2, k3⟩ := Ycu ps e _ h1;exact ⟨_, y :: ys, _, k1, by unfold insL; rw [h2]; simp only [k2], fun φ φ2 a he => by simp only [AV.concL, h3 φ φ2 a he, k3 φ φ2 a he]⟩
end
def outT (B : Bd) (base : Nat) : List (Nat × Pt) -> List Ed -> (List (Nat × AV) -> List Ed -> Prop) -> Prop
 | [], es, K => K [] es
 | (t, p) :: ps, es, K => outP B base p es fun x es => outT B base ps es fun s es => K ((t, x) :: s) es
def outI (B : Bd) (base : Nat) (p : PI) (es : List Ed) (K : It -> List Ed -> Prop) : Prop :=
 match p with
 | .blk T ps => outL B base ps es fun xs es => K (.blk T xs) es
 | .arr T ts => (match es with | .l xs :: es => K (.arr T ts xs) es | _ => Stuck 465)
 | .row T sz n ps => outL B base ps es fun xs es => K (.row T sz n xs) es
 | .obj x => K (.obj x) es
 | .mpI => (match es with | .m xs :: es => K (.obj (.mpI xs)) es | _ => Stuck 478)
 | .lp L ps => outL B base ps es fun xs es => K (.lp L xs) es
 | .dead => K .dead es
def outH (B : Bd) (base : Nat) : List (Nat × PI) -> List Ed -> (Heap -> List Ed -> Prop) -> Prop
 | [], es, K => K [] es
 | (pid, p) :: ps, es, K => Yb (okP B base pid) (outI B base p es fun it es => outH B base ps es fun h es => Y1 (rhoB B base pid) fun i => K ((i, it) :: h) es)
inductive Backs (B : Bd) (base : Nat) : List (Nat × AV) -> List (Nat × AV) -> Prop
 | nil : Backs B base [] []
 | cons {t : Nat} {x y : AV} {s s' : List (Nat × AV)} (hc : ∀ (φ φ2 : Phi) (a : Act), Ends B φ φ2 a -> x.conc (Ybt φ φ2 base) = y.conc φ2)
   (hr : (x.rd = true /\ y.rd = true) \/ ∃ x' y', x = .held x' /\ y = .held y' /\ ∀ (φ φ2 : Phi) (a : Act), Ends B φ φ2 a -> x'.conc (Ybt φ φ2 base) = y'.conc φ2) (h : Backs B base s s') : Backs B base ((t, x) :: s) ((t, y) :: s')
theorem Backs.look {B : Bd} {base : Nat} {s s' : List (Nat × AV)} (h : Backs B base s s') (k : Nat) : (Ycc s k = none /\ Ycc s' k = none) \/ ∃ x y, Ycc s k = some x /\ Ycc s' k = some y /\ (∀ (φ φ2 : Phi) (a : Act), Ends B φ φ2 a -> x.conc (Ybt φ φ2 base) = y.conc φ2) /\
  ((x.rd = true /\ y.rd = true) \/ ∃ x' y', x = .held x' /\ y = .held y' /\ ∀ (φ φ2 : Phi) (a : Act), Ends B φ φ2 a -> x'.conc (Ybt φ φ2 base) = y'.conc φ2) := by
 induction h with
 | nil => exact .inl ⟨rfl, rfl⟩
 | @cons t x y s s' hc hr _ ih =>
  unfold Ycc;cases hb : Nat.beq t k with
  | true => exact .inr ⟨x, y, rfl, rfl, hc, hr⟩
  | false => exact ih
theorem Yol {B : Bd} {base : Nat} : ∀ (ps : List (Nat × Pt)) (es : List Ed) (K : List (Nat × AV) -> List Ed -> Prop), outT B base ps es K -> ∃ s s' e, K s e /\ insT ps es = some (s', e) /\ Backs B base s s'
 | [], es, K, h => ⟨[], [], es, h, rfl, .nil⟩
 | (t, p) :: ps, es, K, h => by
  obtain ⟨x, y, e, h1, h2, h3, h4⟩ := Ye2 p es _ h;obtain ⟨s, s', e2, k1, k2, k3⟩ := Yol ps e _ h1;exact ⟨_, (t, y) :: s', _, k1, by unfold insT; rw [h2]; simp only [k2], .cons h3 h4 k3⟩
theorem Yt5 {B : Bd} {base pid : Nat} {p : PI} {es : List Ed} {K : It -> List Ed -> Prop} (h : outI B base p es K) (hp : okP B base pid = true) : ∃ it y e, K it e /\ insI p es = some (y, e) /\ ∀ (φ φ2 : Phi) (a : Act), Ends B φ φ2 a -> it.conc (Ybt φ φ2 base) (rhoB B base pid) = y.conc φ2 pid := by
 cases p with
 | blk T ps =>
  obtain ⟨xs, ys, e, h1, h2, h3⟩ := Ycu _ es _ h;exact ⟨_, .blk T ys, _, h1, by unfold insI; simp only [h2], fun φ φ2 a he => by simp only [It.conc, h3 φ φ2 a he, Ybm he hp]⟩
 | arr T ts =>
  unfold outI at h;dsimp only at h
  split at h
  ·exact ⟨_, _, _, h, rfl, fun φ φ2 a he => by simp only [It.conc, Ybm he hp]⟩
  ·exact h.elim
 | row T sz n ps =>
  obtain ⟨xs, ys, e, h1, h2, h3⟩ := Ycu _ es _ h;exact ⟨_, .row T sz n ys, _, h1, by unfold insI; simp only [h2], fun φ φ2 a he => by simp only [It.conc, h3 φ φ2 a he, Ybm he hp]⟩
 | obj x => exact ⟨_, .obj x, _, h, rfl, fun φ φ2 a he => by simp only [It.conc, Ybm he hp]⟩
 | mpI =>
  unfold outI at h;dsimp only at h
  split at h
  ·exact ⟨_, _, _, h, rfl, fun φ φ2 a he => by simp only [It.conc, Ybm he hp]⟩
  ·exact h.elim
 | lp L ps =>
  obtain ⟨xs, ys, e, h1, h2, h3⟩ := Ycu _ es _ h;exact ⟨_, .lp L ys, _, h1, by unfold insI; simp only [h2], fun φ φ2 a he => by simp only [It.conc, h3 φ φ2 a he, Ybm he hp]⟩
 | dead => exact ⟨_, .dead, _, h, rfl, fun φ φ2 a he => rfl⟩
theorem Yjz {B : Bd} {base : Nat} : ∀ (ps : List (Nat × PI)) (es : List Ed) (K : Heap -> List Ed -> Prop), outH B base ps es K -> ∃ h h' e, K h e /\ insH ps es = some (h', e) /\ ∀ (φ φ2 : Phi) (a : Act), Ends B φ φ2 a -> Yc (Ybt φ φ2 base) h = Yc φ2 h'
 | [], es, K, h => ⟨[], [], es, h, rfl, fun _ _ _ _ => rfl⟩
 | (pid, p) :: ps, es, K, h => by
  obtain ⟨hp, h⟩ := Ya h;obtain ⟨it, y, e, h1, h2, h3⟩ := Yt5 h hp;obtain ⟨s, s', e2, k1, k2, k3⟩ := Yjz ps e _ h1;refine ⟨_, (pid, y) :: s', _, Yi.1 k1, by unfold insH; rw [h2]; simp only [k2], fun φ φ2 a he => ?_⟩;have := k3 φ φ2 a he;simp only [Yc, List.map_cons, h3 φ φ2 a he] at this ⊢;rw [this]
def Yje (s : List (Nat × AV)) (J : List Nat) : List AV -> Nat -> (List AV -> Prop) -> Prop
 | [], _, K => K []
 | x :: xs, t, K => match Ycc s t with
  | some y => Yje s J xs (t + 1) fun r => K (y :: r)
  | none => (match inL t J with | true => Yje s J xs (t + 1) fun r => K (.junk :: r) | false => Yje s J xs (t + 1) fun r => K (x :: r))
theorem Yjd {s : List (Nat × AV)} {J : List Nat} : ∀ {xs : List AV} {t : Nat} {K : List AV -> Prop}, Yje s J xs t K -> ∃ r, K r /\ r.length = xs.length /\ ∀ (k : Nat) (x : AV), xs[k]? = some x -> r[k]? = some (match Ycc s (t + k) with | some y => y | none => (match inL (t + k) J with | true => .junk | false => x))
 | [], t, K, h => ⟨[], h, rfl, fun k x hx => by simp at hx⟩
 | z :: xs, t, K, h => by
  have go : ∀ y, (Yje s J xs (t + 1) fun r => K (y :: r)) -> (y = match Ycc s t with | some y => y | none => (match inL t J with | true => .junk | false => z)) -> ∃ r, K r /\ r.length = (z :: xs).length /\ ∀ (k : Nat) (x : AV), (z :: xs)[k]? = some x -> r[k]? = some (match Ycc s (t + k) with | some y => y | none => (match inL (t + k) J with | true => .junk | false => x)) := fun y hy e => by
   obtain ⟨r, h1, h2, h3⟩ := Yjd hy;refine ⟨y :: r, h1, by simp [h2], fun k x hx => ?_⟩;cases k with
   | zero =>
    simp only [List.getElem?_cons_zero, Option.some.injEq] at hx;subst hx;simp only [List.getElem?_cons_zero, Nat.add_zero, e]
   | succ k =>
    have := h3 k x (by simpa using hx);rw [show t + (k + 1) = t + 1 + k by omega];simpa using this
  unfold Yje at h
  split at h
  ·rename_i y hy;exact go y h (by rw [hy])
  ·rename_i hn
   split at h
   ·rename_i hj; exact go _ h (by rw [hn, hj])
   ·rename_i hj; exact go _ h (by rw [hn, hj])
def Ymb (base : Nat) : List AV -> Bool
 | [] => true
 | x :: xs => x.ids (Yfv base) && Ymb base xs
def hOld (base : Nat) : Heap -> Bool
 | [] => true
 | p :: h => Yfv base p.1 && p.2.ids (Yfv base) && hOld base h
theorem Yma {base : Nat} : ∀ {xs : List AV}, Ymb base xs = true -> ∀ x ∈ xs, x.ids (Yfv base) = true
 | [], _, x, hx => by cases hx
 | y :: ys, h, x, hx => by
  simp only [Ymb, Bool.and_eq_true] at h;rcases List.mem_cons.1 hx with rfl | hx
  ·exact h.1
  ·exact Yma h.2 x hx
theorem Yo6 {base : Nat} {φ φ2 : Phi} : ∀ {h : Heap}, hOld base h = true -> Yc (Ybt φ φ2 base) h = Yc φ h
 | [], _ => rfl
 | p :: h, hh => by
  simp only [hOld, Bool.and_eq_true] at hh;have := Yo6 (φ := φ) (φ2 := φ2) hh.2;simp only [Yc, List.map_cons, Yq0 (p := Yfv base) (fun i hi => Yc5 hi) hh.1.1 p.2 hh.1.2] at this ⊢;rw [this]
theorem Ypy {B : Bd} {base len : Nat} {tm tm' : List AV} {rest hO hI : Heap} {s s' : List (Nat × AV)} {J : List Nat} (hlen : tm.length = len) (hback : Backs B base s s') (htm : tm'.length = tm.length /\ ∀ (k : Nat) (x : AV), tm[k]? = some x -> tm'[k]? = some (match Ycc s k with | some y => y | none => (match inL k J with | true => .junk | false => x)))
  (hheld : ∀ (k : Nat) (x : AV), tm[k]? = some x -> x.isHeld = true -> ∃ y, Ycc s k = some y) (hold : Ymb base tm = true) (hrest : hOld base rest = true) (hH : ∀ (φ φ2 : Phi) (a : Act), Ends B φ φ2 a -> Yc (Ybt φ φ2 base) hO = Yc φ2 hI) (hnd : (keys (rest ++ hO)).Nodup)
  {φ0 φ φ2 : Phi} {w0 : World} {M : List Nat} {R : RL} {a a' : Act} {w w' : World} {hp : Heap} (hr : RepS φ0 φ w0 M R tm hp a w) (hr2 : RepS (Yr6 (Ydm φ B a)) φ2 w0 M (Yc φ rest ++ R) (Ydl len s' J) hI a' w') :
  RepS φ0 (Ybt φ φ2 base) w0 M R tm' (rest ++ hO) a' w' := by
 have he : Ends B φ φ2 a := ⟨fun x => hr2.base x⟩;refine ⟨?_, ?_, hnd, fun x => ?_⟩
 ·refine hr2.tmps.as (by rw [Ydl, Ycq, htm.1, hlen]) fun k x y hx hy => ?_;rw [Ydl, Ydd, Nat.zero_add] at hx
  split at hx
  ·rename_i hk;have hx0 := hx;have hget : (Ydl len s' J)[k]? = some x := by rw [Ydl, Ydd, if_pos hk, Nat.zero_add]; exact hx0
   simp only [Option.some.injEq] at hx;have hk2 : k < tm.length := by omega
   have hz := htm.2 k tm[k] (List.getElem?_eq_getElem hk2);rw [hy] at hz;simp only [Option.some.injEq] at hz;rcases hback.look k with ⟨h1, h2⟩ | ⟨u, v, h1, h2, h3, h4⟩
   ·rw [h2] at hx;rw [h1] at hz;dsimp only at hx hz;have hnh : tm[k].isHeld = false := by
     cases hd : tm[k].isHeld with
     | false => rfl
     | true => obtain ⟨q, hq⟩ := hheld k _ (List.getElem?_eq_getElem hk2) hd; rw [h1] at hq; cases hq
    cases hj : inL k J with
    | true =>
     rw [hj] at hx hz;subst hx; subst hz;exact .inl ⟨rfl, rfl, fun h => by cases h⟩
    | false =>
     rw [hj] at hx hz;subst hx; subst hz;refine .inl ⟨rfl, hnh, fun hrd => ?_⟩;have e1 := hr2.tmps.slot k _ hget rfl;have e2 := hr.tmps.slot k _ (List.getElem?_eq_getElem hk2) hrd;rw [e1, Yho (p := Yfv base) (fun i hi => Yc5 hi) _ (Yma hold _ (List.getElem_mem hk2))]
     show some (φ2 (oid k)).v = some (tm[k].conc φ)
     have e3 : φ2 (oid k) = Ydm φ B a (oid k) := he.base (1000 + k);rw [e3, Yoi];simp [Array.getD_eq_getD_getElem?, e2]
   ·rw [h2] at hx;rw [h1] at hz;dsimp only at hx hz;subst hx; subst hz;rcases h4 with ⟨h5, h6⟩ | ⟨u', v', rfl, rfl, h5⟩
    ·exact .inl ⟨Ysr h6, Ysr h5, fun _ => by rw [h3 φ φ2 a he]; exact hr2.tmps.slot k _ hget h6⟩
    ·exact .inr ⟨_, _, rfl, rfl, h5 φ φ2 a he⟩
  ·cases hx
 ·rw [Yn, Yo6 hrest, hH φ φ2 a he];have := hr2.st;refine this.perm ?_;rw [<- List.append_assoc];exact List.perm_append_comm.append_right R
 ·have e : Yfv base (3 * x + 1) = true := by
   unfold Yfv;rw [Y2.2 (by omega : (3 * x + 1) % 3 ≠ 0)]
  rw [Yc5 e];exact hr.base x
end
end Go.Proofs.Ytmogofidmchdoaa
namespace Go.Proofs.Ytmogofidmchdoaa
open Go.RowKit
attribute [local irreducible] Go.Oper.wp
inductive OK where
 | norm
 | exit (i : Nat)
 | ret
 | pan (v : Value)
structure Out where
 kind : OK
 T : List (Nat × Pt)
 H : List (Nat × PI)
 junk : List Nat
structure LC where
 len : Nat
 T : List (Nat × Pt)
 H : List (Nat × PI)
 W : List Nat
 outs : List Out
 spec : [InW] -> List Ed -> (Nat -> List Ed -> Prop) -> Prop
section
variable [W : InW]
def OK.ax : OK -> AX
 | .norm => .norm
 | .exit i => .exit i
 | .ret => .ret
 | .pan v => .pan (.v v)
def LoopC (P : Program) (a : Code) (lc : LC) : Prop :=
 ∀ s ys e1 e2, Ylb lc.T s e1 -> Ygm lc.H ys e2 -> ∀ K, lc.spec (e1 ++ e2) K -> ∃ j e o s' r ys', K j e /\ lc.outs[j]? = some o /\ insT o.T e = some (s', r) /\ insH o.H r = some (ys', []) /\
  BigT (fun Q ac w => InLoop P a Q ac w) (Ydl lc.len s lc.W) ys o.kind.ax (Ydl lc.len s' o.junk) ys'
def maxL : List Nat -> Nat -> Nat
 | [], m => m
 | i :: is, m => match Nat.ble i m with | true => maxL is m | false => maxL is i
def Ynd (tm : List AV) (hp : Heap) : List Nat := AV.leadL tm (Yyh hp (hp.map (·.1)))
def Yru (lc : LC) (tm : List AV) (hp : Heap) (K : KX) : Prop :=
 Yb (lenB tm lc.len) (Yxu lc.T lc.H tm hp fun s ys B rest es => Y1 (maxL (Ynd tm hp) 1024) fun base =>
  Yb (Ymb base tm && hOld base rest) (lc.spec es fun j e => match lc.outs[j]? with
   | none => Stuck 470
   | some o => outT B base o.T e fun s' r => outH B base o.H r fun hO r => (match r with
    | _ :: _ => Stuck 471
    | [] => Yb (Yin s' tm 0 && Yd5 ((rest ++ hO).map (·.1))) (Yje s' o.junk tm 0 fun tm' => appK rest hO fun hp' => K o.kind.ax tm' hp'))))
theorem Yqs {P : Program} {a : Code} {lc : LC} (hc : LoopC P a lc) : Yk2 P a (Yru lc) := by
 intro tm hp K h;obtain ⟨hlen, h⟩ := Ya h;have hlen := Y5 hlen;obtain ⟨s, ys, B, rest, e1, e2, h1, h2, h3, h4, h5, h6, h7, h8⟩ := Yq5 h;have h1 := Yi.1 h1;generalize maxL (Ynd tm hp) 1024 = base at h1;obtain ⟨hb, h1⟩ := Ya h1;rw [Bool.and_eq_true] at hb;obtain ⟨j, e, o, s', r, ys', k1, k2, k3, k4, k5⟩ := hc s ys e1 e2 h2 h3 _ h1;rw [k2] at k1;obtain ⟨sO, s2, r2, m1, m2, m3⟩ := Yol _ _ _ k1;rw [k3] at m2;cases m2;obtain ⟨hO, h2', r3, n1, n2, n3⟩ := Yjz _ _ _ m1;rw [k4] at n2;cases n2;dsimp only at n1;obtain ⟨hnd, n1⟩ := Ya n1;rw [Bool.and_eq_true] at hnd;have hhe : ∀ (k : Nat) (x : AV), tm[k]? = some x -> x.isHeld = true -> ∃ y, Ycc sO k = some y := fun k x hx hh => by
  have := Ygh hnd.1 k x hx hh;rwa [Nat.zero_add] at this
 obtain ⟨tm', p1, p2, p3⟩ := Yjd n1;have p4 := Yca.1 p1;refine ⟨o.kind.ax, tm', rest ++ hO, p4, fun φ0 φ w0 M R ac w hr Q kk => ?_⟩;have hin := h8 φ0 φ w0 M R ac w hr;rw [hlen] at hin;have hin2 : RepS (Yr6 (Ydm φ B ac)) (Ydm φ B ac) w0 M (Yc φ rest ++ R) (Ydl lc.len s lc.W) ys ac w := ⟨hin.tmps.forget, hin.st, hin.nd, hin.base⟩;refine k5 _ _ w0 M _ ac w hin2 Q fun φ2 x a' w' hx hr2 => ?_;have hx2 : ∀ φ, o.kind.ax.is φ x := fun φ => by
  cases hk : o.kind <;> rw [hk] at hx <;> exact hx
 exact kk _ x a' w' (hx2 _) (Ypy hlen m3 ⟨p2, fun k x hx => by have := p3 k x hx; rwa [Nat.zero_add] at this⟩ hhe hb.1 hb.2 n3 (Ybb hnd.2) hr hr2)
def Yqt (lc : LC) (tm : List AV) (hp : Heap) (K : KX) : Prop := Ykv lc.T tm hp fun hp => Yru lc tm hp K
theorem Ysx {P : Program} {a : Code} {lc : LC} (hc : LoopC P a lc) : Yk2 P a (Yqt lc) := by
 intro tm hp K h;obtain ⟨hp1, h1, h2⟩ := Ydk h;obtain ⟨x, tm', hp', h3, h4⟩ := Yqs hc tm hp1 K h1;exact ⟨x, tm', hp', h3, fun φ0 φ w0 M R ac w hr Q kk => h4 φ0 φ w0 M R ac w (h2 φ0 φ w0 M R tm ac w hr) Q kk⟩
def Yza : OK -> AX -> Bool
 | .norm, .norm => true
 | .exit i, .exit j => Nat.beq i j
 | .ret, .ret => true
 | .pan v, .pan (.v u) => Yb4 u v
 | _, _ => false
def Yo0 : List Out -> Nat -> AX -> List AV -> Heap -> (Nat -> List Ed -> Prop) -> Prop
 | [], _, _, _, _, _ => Stuck 472
 | o :: os, j, x, tm, hp, Q => match Yza o.kind x with
  | true => fitK o.T o.H o.junk tm hp fun e => Q j e
  | false => Yo0 os (j + 1) x tm hp Q
def Yrh (lc : LC) (Again : List Ed -> Prop) (Q : Nat -> List Ed -> Prop) (x : AX) (tm : List AV) (hp : Heap) : Prop :=
 Yb (lenB tm lc.len) (match x with
 | .norm => fitK lc.T lc.H lc.W tm hp Again
 | x => Yo0 lc.outs 0 x tm hp Q)
theorem Yj8 : ∀ {os : List Out} {j : Nat} {x : AX} {tm : List AV} {hp : Heap} {Q : Nat -> List Ed -> Prop}, Yo0 os j x tm hp Q -> ∃ (k : Nat) (o : Out) (s : List (Nat × AV)) (ys : Heap) (e1 e2 : List Ed), Q (j + k) (e1 ++ e2) /\ os[k]? = some o /\ o.kind.ax = x /\ insT o.T (e1 ++ e2) = some (s, e2) /\ insH o.H e2 = some (ys, []) /\
  ∀ (φ0 φ : Phi) (w0 : World) (M : List Nat) (R : RL) (a : Act) (w : World), RepS φ0 φ w0 M R tm hp a w -> ∃ φ2, RepS φ0 φ2 w0 M R (Ydl tm.length s o.junk) ys a w
 | [], _, _, _, _, _, h => h.elim
 | o :: os, j, x, tm, hp, Q, h => by
  unfold Yo0 at h
  split at h
  ·rename_i hk;obtain ⟨s, ys, e1, e2, h1, h2, h3, h4⟩ := Yo8 h;refine ⟨0, o, s, ys, e1, e2, h1, rfl, ?_, Yut _ _ _ _ h2, by have := Ykc _ _ _ [] h3; rwa [List.append_nil] at this, h4⟩;unfold Yza at hk
   split at hk <;> first | (rename_i h1; rw [h1]; rfl) | skip
   ·rename_i i j h1; rw [h1, Ye.1 hk]; rfl
   ·rename_i v u h1; rw [h1, Yc3 _ _ hk]; rfl
   ·cases hk
  ·obtain ⟨k, o', s, ys, e1, e2, h1, h2, h3⟩ := Yj8 h;exact ⟨k + 1, o', s, ys, e1, e2, by rw [show j + (k + 1) = j + 1 + k by omega]; exact h1, by simpa using h2, h3⟩
theorem LoopC.of {c : Cx} (hcL : HandOkL c) (hm : c.P.follows .mixedOrders = true) (n : Nat) {root : Code} (hroot : (c.P.funcs[c.fn]?).bind (·.body) = some root) {a : Code} (hsub : Sub root (.loop a)) {lc : LC} (meas : List Ed -> Nat)
  (hb : ∀ s ys e1 e2, Ylb lc.T s e1 -> Ygm lc.H ys e2 -> ∀ K, lc.spec (e1 ++ e2) K -> Yer c n a (Ydl lc.len s lc.W) ys (Yrh lc (fun e => meas e < meas (e1 ++ e2) /\ lc.spec e K) K)) : LoopC c.P a lc := by
 have key : ∀ m s ys e1 e2, meas (e1 ++ e2) = m -> Ylb lc.T s e1 -> Ygm lc.H ys e2 -> ∀ K, lc.spec (e1 ++ e2) K -> ∃ j e o s' r ys', K j e /\ lc.outs[j]? = some o /\ insT o.T e = some (s', r) /\ insH o.H r = some (ys', []) /\
   BigT (fun Q ac w => InLoop c.P a Q ac w) (Ydl lc.len s lc.W) ys o.kind.ax (Ydl lc.len s' o.junk) ys' := by
  intro m
  induction m using Nat.strongRecOn with
  | _ m ih =>
   intro s ys e1 e2 hme hT hH K hs;obtain ⟨x, tm1, hp1, h1, h2⟩ := Yf7 hcL hm n hroot a hsub.loop _ _ _ (hb s ys e1 e2 hT hH K hs);have out : Yo0 lc.outs 0 x tm1 hp1 K -> (∀ φ e, x.is φ e -> e ≠ .normal) -> tm1.length = lc.len -> ∃ j e o s' r ys', K j e /\ lc.outs[j]? = some o /\ insT o.T e = some (s', r) /\ insH o.H r = some (ys', []) /\
     BigT (fun Q ac w => InLoop c.P a Q ac w) (Ydl lc.len s lc.W) ys o.kind.ax (Ydl lc.len s' o.junk) ys' := fun h hne hlen => by
    obtain ⟨k, o, s', ys', f1, f2, g1, g2, g3, g4, g5, g6⟩ := Yj8 h;rw [Nat.zero_add] at g1;refine ⟨k, _, o, s', _, ys', g1, g2, g4, g5, fun φ0 φ w0 M R ac w hr Q kk => InLoop.round (h2 φ0 φ w0 M R ac w hr _ fun φ2 e a' w' hx hr2 => ?_)⟩;have he := hne φ2 e hx;obtain ⟨φ3, hr3⟩ := g6 φ0 φ2 w0 M R a' w' hr2;rw [hlen] at hr3;have hx3 : o.kind.ax.is φ3 e := by
     rw [g3];have : o.kind.ax.is φ2 e := by rw [g3]; exact hx
     rw [<- g3];cases hk : o.kind <;> rw [hk] at this <;> exact this
    cases e <;> first | exact absurd rfl he | exact kk φ3 _ a' w' hx3 hr3
   unfold Yrh at h1;obtain ⟨hlen, h1⟩ := Ya h1;have hlen := Y5 hlen
   split at h1
   ·obtain ⟨s2, ys2, f1, f2, g1, g2, g3, g4⟩ := Yo8 h1;obtain ⟨j, e, o, s', r, ys', k1, k2, k3, k4, k5⟩ := ih _ (hme ▸ g1.1) s2 ys2 f1 f2 rfl g2 g3 K g1.2;refine ⟨j, e, o, s', r, ys', k1, k2, k3, k4, fun φ0 φ w0 M R ac w hr Q kk => InLoop.round (h2 φ0 φ w0 M R ac w hr _ fun φ2 e2 a' w' hx hr2 => ?_)⟩;obtain ⟨φ3, hr3⟩ := g4 φ0 φ2 w0 M R a' w' hr2;rw [hlen] at hr3;cases hx;exact k5 φ0 φ3 w0 M R a' w' hr3 Q kk
   ·rename_i hnn;refine out h1 (fun φ e hx he => ?_) hlen;subst he;cases x <;> first | exact hnn rfl | cases hx | exact hx.elim | skip
 intro s ys e1 e2 hT hH K hs;exact key _ s ys e1 e2 rfl hT hH K hs
end
end Go.Proofs.Ytmogofidmchdoaa
namespace Go.Proofs.Ytmogofidmchdoaa
open Go.RowKit
attribute [local irreducible] Go.Oper.wp
theorem Sub.trans {a b c : Code} (h1 : Sub a b) (h2 : Sub b c) : Sub a c := by
 induction h2 with
 | refl => exact h1
 | seqL _ ih => exact ih.seqL
 | seqR _ ih => exact ih.seqR
 | condL _ ih => exact ih.condL
 | condR _ ih => exact ih.condR
 | block _ ih => exact ih.block
 | loop _ ih => exact ih.loop
 | scope _ ih => exact ih.scope
theorem Ybx : ∀ {body a : Code}, a ∈ Ys body -> Sub body (.loop a)
 | .seq x y, a, h => by
  simp only [Ys, List.mem_append] at h;rcases h with h | h
  ·exact Sub.trans (.seqL .refl) (Ybx h)
  ·exact Sub.trans (.seqR .refl) (Ybx h)
 | .cond _ x y, a, h => by
  simp only [Ys, List.mem_append] at h;rcases h with h | h
  ·exact Sub.trans (.condL .refl) (Ybx h)
  ·exact Sub.trans (.condR .refl) (Ybx h)
 | .block _ x, a, h => Sub.trans (.block .refl) (Ybx (by simpa [Ys] using h))
 | .loop x, a, h => by
  simp only [Ys, List.mem_cons] at h;rcases h with rfl | h
  ·exact .refl
  ·exact Sub.trans (.loop .refl) (Ybx h)
 | .scope x, a, h => Sub.trans (.scope .refl) (Ybx (by simpa [Ys] using h))
 | .region _ _ _, a, h => by simp [Ys] at h
 | .exit _, a, h => by simp [Ys] at h
 | .ret, a, h => by simp [Ys] at h
 | .skip, a, h => by simp [Ys] at h
def Yo4 (k : Nat) : List Code -> List Code
 | [] => []
 | a :: bs => match Nat.beq (Ye9 a) k with | true => a :: Yo4 k bs | false => Yo4 k bs
theorem Yka {k : Nat} : ∀ {bs : List Code} {a : Code}, a ∈ bs -> Ye9 a = k -> a ∈ Yo4 k bs
 | b :: bs, a, h, hk => by
  unfold Yo4;rcases List.mem_cons.1 h with rfl | h
  ·have e : Nat.beq (Ye9 a) k = true := by subst hk; exact Nat.beq_refl _
   rw [e]; simp
  ·split
   ·exact List.mem_cons_of_mem _ (Yka h hk)
   ·exact Yka h hk
theorem Yj9 {k : Nat} : ∀ {bs : List Code} {a : Code}, a ∈ Yo4 k bs -> a ∈ bs
 | b :: bs, a, h => by
  unfold Yo4 at h
  split at h
  ·rcases List.mem_cons.1 h with rfl | h
   ·simp
   ·exact List.mem_cons_of_mem _ (Yj9 h)
  ·exact List.mem_cons_of_mem _ (Yj9 h)
def Yiq (P : Program) (g : FuncId) : Code := ((P.funcs[g]?).bind (·.body)).getD .skip
def Yej (P : Program) (g : FuncId) (k : Nat) : List Code := Yo4 k (Ys (Yiq P g))
def Yl5 (P : Program) (g : FuncId) (k : Nat) : Code := (Yej P g k).headD .skip
theorem Yum {P : Program} {g : FuncId} {key : Nat} (h1 : (match Yej P g key with | [_] => true | _ => false) = true) : (∀ (body a : Code), (P.funcs[g]?).bind (·.body) = some body -> a ∈ Ys body -> Ye9 a = key -> a = Yl5 P g key) /\ Sub (Yiq P g) (.loop (Yl5 P g key)) := by
 have key1 : ∃ x, Yej P g key = [x] := by
  revert h1
  split
  ·rename_i x h; exact fun _ => ⟨x, h⟩
  ·exact fun h => by cases h
 obtain ⟨x, hx⟩ := key1;have hl : Yl5 P g key = x := by unfold Yl5; rw [hx]; rfl
 refine ⟨fun body a hb ha hk => ?_, ?_⟩
 ·have e : Yiq P g = body := by unfold Yiq; rw [hb]; rfl
  have h2 : a ∈ Yej P g key := Yka (by rw [e]; exact ha) hk;rw [hx] at h2;rw [hl];simpa using h2
 ·rw [hl];refine Ybx (Yj9 (k := key) ?_)
  show x ∈ Yej P g key
  rw [hx]; simp
theorem Yur {P : Program} {g : FuncId} {key : Nat} (h1 : (match Yej P g key with | [_] => true | _ => false) = true) : (P.funcs[g]?).bind (·.body) = some (Yiq P g) := by
 unfold Yiq;cases hb : (P.funcs[g]?).bind (·.body) with
 | some b => rfl
 | none =>
  unfold Yej Yiq at h1;rw [hb] at h1;simp [Ys, Yo4] at h1
theorem LE.okOf {P : Program} (tt : (W : InW) -> @Tr (@TI W)) (ht : ∀ W : InW, @TabOk W P (tt W)) (hm : P.follows .mixedOrders = true) (T : Tab P) (n m : Nat) {g : FuncId} {key : Nat} (h1 : (match Yej P g key with | [_] => true | _ => false) = true) (lc : LC) (meas : (W : InW) -> List (@Ed W) -> Nat)
  (hb : ∀ (W : InW) (s : List (Nat × @AV W)) (ys : @Heap W) (e1 e2 : List (@Ed W)), @Ylb W lc.T s e1 -> @Ygm W lc.H ys e2 -> ∀ K, @LC.spec lc W (e1 ++ e2) K -> @Yer W { @cxT W P (tt W) T n m with fn := g } n (Yl5 P g key) (@Ydl W lc.len s lc.W) ys (@Yrh W lc (fun e => meas W e < meas W (e1 ++ e2) /\ @LC.spec lc W e K) K)) :
  ∀ (W : InW) (body a : Code), (P.funcs[g]?).bind (·.body) = some body -> a ∈ Ys body -> Ye9 a = key -> @Yk2 W P a (@Yqt W lc) := by
 intro W body a hbd ha hk;obtain ⟨h2, h3⟩ := Yum h1;rw [h2 body a hbd ha hk];refine Ysx ?_;have hP := Yvk P (tt W) T n m;have hL := (Ypn (T := T) (ht W) hm n m).at g;have := LoopC.of (c := { @cxT W P (tt W) T n m with fn := g }) hL (by rw [show ({ @cxT W P (tt W) T n m with fn := g } : Cx).P = P from hP]; exact hm) n (root := Yiq P g) (by
  show ((cxT P (tt W) T n m).P.funcs[g]?).bind (·.body) = _
  rw [hP]; exact Yur h1) h3 (lc := lc) (meas W) (hb W)
 rw [show ({ @cxT W P (tt W) T n m with fn := g } : Cx).P = P from hP] at this;exact this
end Go.Proofs.Ytmogofidmchdoaa
namespace Go.Proofs.Ytmogofidmchdoaa
open Go.RowKit
attribute [local irreducible] Go.Oper.wp
section
variable [W : InW]
mutual
def AllP : Pt -> (AV -> List Ed -> Prop) -> Prop
 | .int k, M => ∀ n, M (.si k n) [.i n]
 | .bool, M => ∀ b, M (.sb b) [.b b]
 | .str, M => ∀ s, M (.ss s) [.s s]
 | .lit v, M => M (.v v) []
 | .ptr pid k, M => M (.ptr pid k) []
 | .row pid, M => M (.rw pid) []
 | .rs ts, M => ∀ r : Ro ts, M (.rs ts r) [.ro ts r]
 | .mp pid, M => M (.mp pid) []
 | .yl pid, M => M (.yl pid) []
 | .opq pid, M => M (.opq pid) []
 | .agg ps, M => AllL ps fun xs es => M (.agg xs) es
 | .tup ps, M => AllL ps fun xs es => M (.tup xs) es
 | .fn f a b, M => AllL a fun xs e1 => AllL b fun ys e2 => M (.fn f xs ys) (e1 ++ e2)
 | .ifc t p, M => AllP p fun y es => M (.ifc t y) es
 | .held p, M => AllP p fun y es => M (.held y) es
 | .sl pid a b c, M => M (.sl pid a b c) []
 | .slc pid a b c, M => M (.slc pid a b c) []
 | .rwp pid sz, M => ∀ l n : Nat, M (.rwp pid sz l n) [.i l, .i n]
 | .emp pid, M => M (.emp pid) []
def AllL : List Pt -> (List AV -> List Ed -> Prop) -> Prop
 | [], M => M [] []
 | p :: ps, M => AllP p fun x e1 => AllL ps fun xs e2 => M (x :: xs) (e1 ++ e2)
end
mutual
theorem Yhq : ∀ {p : Pt} {M : AV -> List Ed -> Prop} {x : AV} {es : List Ed}, AllP p M -> Ylc p x es -> M x es
 | .int k, M, _, _, h, ⟨n, rfl, rfl⟩ => h n
 | .bool, M, _, _, h, ⟨n, rfl, rfl⟩ => h n
 | .str, M, _, _, h, ⟨n, rfl, rfl⟩ => h n
 | .lit v, M, _, _, h, ⟨rfl, rfl⟩ => h
 | .ptr pid k, M, _, _, h, ⟨rfl, rfl⟩ => h
 | .row pid, M, _, _, h, ⟨rfl, rfl⟩ => h
 | .rs ts, M, _, _, h, ⟨r, rfl, rfl⟩ => h r
 | .mp pid, M, _, _, h, ⟨rfl, rfl⟩ => h
 | .yl pid, M, _, _, h, ⟨rfl, rfl⟩ => h
 | .opq pid, M, _, _, h, ⟨rfl, rfl⟩ => h
 | .agg ps, M, _, es, h, ⟨xs, rfl, hi⟩ => Ycb (M := fun xs es => M (.agg xs) es) h hi
 | .tup ps, M, _, es, h, ⟨xs, rfl, hi⟩ => Ycb (M := fun xs es => M (.tup xs) es) h hi
 | .fn f a b, M, _, _, h, ⟨xs, ys, e1, e2, rfl, rfl, h1, h2⟩ => Ycb (M := fun ys e2 => M (.fn f xs ys) (e1 ++ e2)) (Ycb (M := fun xs e1 => AllL b fun ys e2 => M (.fn f xs ys) (e1 ++ e2)) h h1) h2
 | .ifc t p, M, _, es, h, ⟨y, rfl, hi⟩ => Yhq (M := fun y es => M (.ifc t y) es) h hi
 | .held p, M, _, es, h, ⟨y, rfl, hi⟩ => Yhq (M := fun y es => M (.held y) es) h hi
 | .sl pid _ _ _, M, _, _, h, ⟨rfl, rfl⟩ => h
 | .slc pid _ _ _, M, _, _, h, ⟨rfl, rfl⟩ => h
 | .rwp pid _, M, _, _, h, ⟨l, n, rfl, rfl⟩ => h l n
 | .emp pid, M, _, _, h, ⟨rfl, rfl⟩ => h
theorem Ycb : ∀ {ps : List Pt} {M : List AV -> List Ed -> Prop} {xs : List AV} {es : List Ed}, AllL ps M -> Yiv ps xs es -> M xs es
 | [], M, _, _, h, ⟨rfl, rfl⟩ => h
 | p :: ps, M, _, _, h, ⟨x, xs, e1, e2, rfl, rfl, h1, h2⟩ => Ycb (M := fun xs e2 => M (x :: xs) (e1 ++ e2)) (Yhq (M := fun x e1 => AllL ps fun xs e2 => M (x :: xs) (e1 ++ e2)) h h1) h2
end
def AllI (p : PI) (M : It -> List Ed -> Prop) : Prop :=
 match p with
 | .blk T ps => AllL ps fun xs es => M (.blk T xs) es
 | .arr T ts => ∀ xs, M (.arr T ts xs) [.l xs]
 | .row T sz n ps => AllL ps fun xs es => M (.row T sz n xs) es
 | .obj x => M (.obj x) []
 | .mpI => ∀ xs, M (.obj (.mpI xs)) [.m xs]
 | .lp L ps => AllL ps fun xs es => M (.lp L xs) es
 | .dead => M .dead []
def AllH : List (Nat × PI) -> (Heap -> List Ed -> Prop) -> Prop
 | [], M => M [] []
 | p :: ps, M => AllI p.2 fun it e1 => AllH ps fun h e2 => M ((p.1, it) :: h) (e1 ++ e2)
def AllT : List (Nat × Pt) -> (List (Nat × AV) -> List Ed -> Prop) -> Prop
 | [], M => M [] []
 | p :: ps, M => AllP p.2 fun x e1 => AllT ps fun s e2 => M ((p.1, x) :: s) (e1 ++ e2)
theorem Yvs {p : PI} {M : It -> List Ed -> Prop} {it : It} {es : List Ed} (h : AllI p M) (hi : Yxf p it es) : M it es := by
 cases p with
 | blk T ps => obtain ⟨xs, rfl, hi⟩ := hi; exact Ycb (M := fun xs es => M (.blk T xs) es) h hi
 | arr T ts => obtain ⟨xs, rfl, rfl⟩ := hi; exact h xs
 | row T sz n ps => obtain ⟨xs, rfl, hi⟩ := hi; exact Ycb (M := fun xs es => M (.row T sz n xs) es) h hi
 | obj x => obtain ⟨rfl, rfl⟩ := hi; exact h
 | mpI => obtain ⟨xs, rfl, rfl⟩ := hi; exact h xs
 | lp L ps => obtain ⟨xs, rfl, hi⟩ := hi; exact Ycb (M := fun xs es => M (.lp L xs) es) h hi
 | dead => obtain ⟨rfl, rfl⟩ := hi; exact h
theorem Yky : ∀ {ps : List (Nat × PI)} {M : Heap -> List Ed -> Prop} {h : Heap} {es : List Ed}, AllH ps M -> Ygm ps h es -> M h es
 | [], M, _, _, h, ⟨rfl, rfl⟩ => h
 | p :: ps, M, _, _, h, ⟨x, xs, e1, e2, rfl, rfl, h1, h2⟩ => Yky (M := fun xs e2 => M ((p.1, x) :: xs) (e1 ++ e2)) (Yvs (M := fun x e1 => AllH ps fun xs e2 => M ((p.1, x) :: xs) (e1 ++ e2)) h h1) h2
theorem Ypu : ∀ {ps : List (Nat × Pt)} {M : List (Nat × AV) -> List Ed -> Prop} {h : List (Nat × AV)} {es : List Ed}, AllT ps M -> Ylb ps h es -> M h es
 | [], M, _, _, h, ⟨rfl, rfl⟩ => h
 | p :: ps, M, _, _, h, ⟨x, xs, e1, e2, rfl, rfl, h1, h2⟩ => Ypu (M := fun xs e2 => M ((p.1, x) :: xs) (e1 ++ e2)) (Yhq (M := fun x e1 => AllT ps fun xs e2 => M ((p.1, x) :: xs) (e1 ++ e2)) h h1) h2
def AllC (t : Ty) (M : AV -> Cl -> Prop) : Prop :=
 match t with
 | .int k => ∀ n, M (.si k n) (.i n)
 | .bool => ∀ b, M (.sb b) (.b b)
 | .str => ∀ s, M (.ss s) (.s s)
 | .sl ts => ∀ r : Ro ts, M (.rs ts r) (.l r.xs)
def Yxg : List Ty -> (List AV -> List Cl -> Prop) -> Prop
 | [], M => M [] []
 | t :: ts, M => AllC t fun x c => Yxg ts fun xs cs => M (x :: xs) (c :: cs)
def AllA (a : AT) (M : AV -> List Cl -> Prop) : Prop :=
 match a with
 | .one t => AllC t fun x c => M x [c]
 | .agg ts => Yxg ts fun xs cs => M (.agg xs) cs
def Yxh : List AT -> (List AV -> DS -> Prop) -> Prop
 | [], M => M [] []
 | a :: ats, M => AllA a fun x d => Yxh ats fun xs ds => M (x :: xs) (d :: ds)
theorem Ypv {t : Ty} {M : AV -> Cl -> Prop} {x : AV} {c : Cl} (h : AllC t M) (hc : Ypw t x c) : M x c := by
 cases t <;> (obtain ⟨_, rfl, rfl⟩ := hc; exact h _)
theorem Ymm : ∀ {ts : List Ty} {M : List AV -> List Cl -> Prop} {xs : List AV} {cs : List Cl}, Yxg ts M -> Yk3 ts xs cs -> M xs cs
 | [], M, _, _, h, ⟨rfl, rfl⟩ => h
 | t :: ts, M, _, _, h, ⟨x, xs, c, cs, rfl, rfl, h1, h2⟩ => Ymm (M := fun xs cs => M (x :: xs) (c :: cs)) (Ypv (M := fun x c => Yxg ts fun xs cs => M (x :: xs) (c :: cs)) h h1) h2
theorem Yvt {a : AT} {M : AV -> List Cl -> Prop} {x : AV} {d : List Cl} (h : AllA a M) (ha : Yyy a x d) : M x d := by
 cases a with
 | one t => obtain ⟨c, rfl, hc⟩ := ha; exact Ypv (M := fun x c => M x [c]) h hc
 | agg ts => obtain ⟨xs, rfl, hc⟩ := ha; exact Ymm (M := fun xs cs => M (.agg xs) cs) h hc
theorem Ymn : ∀ {ats : List AT} {M : List AV -> DS -> Prop} {xs : List AV} {ds : DS}, Yxh ats M -> Ymo ats xs ds -> M xs ds
 | [], M, _, _, h, ⟨rfl, rfl⟩ => h
 | a :: ats, M, _, _, h, ⟨x, xs, d, ds, rfl, rfl, h1, h2⟩ => Ymn (M := fun xs ds => M (x :: xs) (d :: ds)) (Yvt (M := fun x d => Yxh ats fun xs ds => M (x :: xs) (d :: ds)) h h1) h2
end
theorem PureOk.of' {P : Program} (tt : (W : InW) -> @Tr (@TI W)) (ht : ∀ W : InW, @TabOk W P (tt W)) (hm : P.follows .mixedOrders = true) (T : Tab P) (n m : Nat) {g : FuncId} {ats : List AT} {rs : RTs} {pre : DS -> Prop} {res : DS -> DS}
  (h : ∀ (W : InW), @Yxh W ats fun args ds => pre ds -> @Yte W (@cxT W P (tt W) T n m) n g args [] 0 (@Ywt W rs fun o => o = res ds) fun _ _ _ _ => Stuck 421) : PureOk P g ats rs pre res :=
 PureOk.of tt ht hm T n m fun W args ds ha hp => @Ymn W _ _ _ _ (h W) ha hp
theorem LE.okOf' {P : Program} (tt : (W : InW) -> @Tr (@TI W)) (ht : ∀ W : InW, @TabOk W P (tt W)) (hm : P.follows .mixedOrders = true) (T : Tab P) (n m : Nat) {g : FuncId} {key : Nat} (h1 : (match Yej P g key with | [_] => true | _ => false) = true) (lc : LC) (meas : (W : InW) -> List (@Ed W) -> Nat)
  (hb : ∀ (W : InW), @AllT W lc.T fun s e1 => @AllH W lc.H fun ys e2 => ∀ K, @LC.spec lc W (e1 ++ e2) K -> @Yer W { @cxT W P (tt W) T n m with fn := g } n (Yl5 P g key) (@Ydl W lc.len s lc.W) ys (@Yrh W lc (fun e => meas W e < meas W (e1 ++ e2) /\ @LC.spec lc W e K) K)) :
  ∀ (W : InW) (body a : Code), (P.funcs[g]?).bind (·.body) = some body -> a ∈ Ys body -> Ye9 a = key -> @Yk2 W P a (@Yqt W lc) :=
 LE.okOf tt ht hm T n m h1 lc meas fun W s ys e1 e2 hT hH => @Yky W _ _ _ _ (@Ypu W _ _ _ _ (hb W) hT) hH
end Go.Proofs.Ytmogofidmchdoaa
namespace Go.Proofs.Ytmogofidmchdoaa
open Go.RowKit
attribute [local irreducible] Go.Oper.wp
section
variable [W : InW]
mutual
def Ys0 : Pt -> AV -> List (Nat × Nat) -> (List (Nat × Nat) -> Bool) -> Bool
 | .int k, x, B, K => (match x with | .si k' _ => decide (k' = k) && K B | .v (.int k' _) => decide (k' = k) && K B | _ => false)
 | .bool, x, B, K => (match x with | .sb _ => K B | .v (.bool _) => K B | _ => false)
 | .str, x, B, K => (match x with | .ss _ => K B | .v (.string _) => K B | _ => false)
 | .lit v, x, B, K => (match x with | .v u => (match Yb4 u v with | true => K B | false => false) | _ => false)
 | .ptr p k, x, B, K => (match x with | .ptr i k' => (match Nat.beq k' k with | true => K ((p, i) :: B) | false => false) | _ => false)
 | .row p, x, B, K => (match x with | .rw i => K ((p, i) :: B) | .v (.slice none 0 0) => K B | .sl i 0 0 _ => K ((p, i) :: B) | _ => false)
 | .rs _, x, B, K => (match x with | .rs _ _ => K B | .v (.slice none 0 0) => K B | _ => false)
 | .mp p, x, B, K => (match x with | .mp i => K ((p, i) :: B) | _ => false)
 | .yl p, x, B, K => (match x with | .yl i => K ((p, i) :: B) | _ => false)
 | .opq _, _, B, K => K B
 | .agg ps, x, B, K => (match x with | .agg xs => Yk9 ps xs B K | .v (.agg cs) => Yk9 ps (cs.toList.map .v) B K | _ => false)
 | .tup ps, x, B, K => (match x with | .tup xs => Yk9 ps xs B K | _ => false)
 | .fn f a b, x, B, K => (match x with | .fn f' xs ys => (match Yrf f' f with | true => Yk9 a xs B fun B => Yk9 b ys B K | false => false) | _ => false)
 | .ifc t p, x, B, K => (match x with | .ifc t' y => (match Nat.beq t' t with | true => Ys0 p y B K | false => false) | .v (.iface t' y) => (match Nat.beq t' t with | true => Ys0 p (.v y) B K | false => false) | _ => false)
 | .held _, _, _, _ => false
 | .sl p a b c, x, B, K => (match x with | .sl i a' b' c' => (match Nat.beq a' a && Nat.beq b' b && Nat.beq c' c with | true => K ((p, i) :: B) | false => false) | _ => false)
 | .slc p a b c, x, B, K => (match x with | .slc i a' b' c' => (match Nat.beq a' a && Nat.beq b' b && Nat.beq c' c with | true => K ((p, i) :: B) | false => false) | _ => false)
 | .rwp p sz, x, B, K => (match x with | .rwp i sz' _ _ => (match Nat.beq sz' sz with | true => K ((p, i) :: B) | false => false) | _ => false)
 | .emp p, x, B, K => (match x with | .emp i => K ((p, i) :: B) | _ => false)
def Yk9 : List Pt -> List AV -> List (Nat × Nat) -> (List (Nat × Nat) -> Bool) -> Bool
 | [], xs, B, K => (match xs with | [] => K B | _ :: _ => false)
 | p :: ps, xs, B, K => (match xs with | [] => false | x :: xs => Ys0 p x B fun B => Yk9 ps xs B K)
end
def idAt : List (Nat × Nat) -> Nat -> Option Nat
 | [], _ => none
 | q :: B, p => match Nat.beq q.1 p with | true => some q.2 | false => idAt B p
def likeI (p : PI) (it : It) (B : List (Nat × Nat)) (K : List (Nat × Nat) -> Bool) : Bool :=
 match p with
 | .blk T ps => (match it with | .blk T' xs => (match Nat.beq T' T with | true => Yk9 ps xs B K | false => false) | _ => false)
 | .arr T ts => (match it with | .arr T' _ _ => (match Nat.beq T' T with | true => K B | false => false) | .bk T' _ _ _ => (match Nat.beq T' T with | true => K B | false => false) | .row T' _ _ _ => (match Nat.beq T' T with | true => K B | false => false) | _ => false)
 | .row T sz n ps => (match it with | .row T' sz' n' xs => (match Nat.beq T' T && Nat.beq sz' sz && Nat.beq n' n with | true => Yk9 ps xs B K | false => false) | _ => false)
 | .obj x => (match sameI it (.obj x) with | true => K B | false => false)
 | .mpI => (match it with | .obj (.mpI _) => K B | .obj (.mpV [] 0) => K B | _ => false)
 | .lp _ ps => (match it with | .lp _ xs => Yk9 ps xs B K | _ => false)
 | .dead => K B
def Ys1 : List (Nat × PI) -> Heap -> List (Nat × Nat) -> Bool
 | [], _, _ => true
 | (pid, p) :: ps, hp, B => match p.isDead with
  | true => Ys1 ps hp B
  | false => match idAt B pid with
  | none => Ys1 ps hp B
  | some i => match look hp i with
   | none => false
   | some it => likeI p it B fun B => Ys1 ps hp B
def Yx2 : List (Nat × PI) -> List (Nat × Nat)
 | [] => []
 | p :: h => match Nat.beq (p.1 % 3) 1 with | true => (p.1, p.1) :: Yx2 h | false => Yx2 h
def nthW : List AV -> Nat -> AV
 | [], _ => .junk
 | x :: xs, n => match n with | 0 => x | n + 1 => nthW xs n
def Yup : List (Nat × Pt) -> List AV -> List (Nat × Nat) -> (List (Nat × Nat) -> Bool) -> Bool
 | [], _, B, K => K B
 | p :: ps, tm, B, K => match p.2 with
  | .held q => (match nthW tm p.1 with | .held y => Ys0 q y B fun B => Yup ps tm B K | _ => false)
  | q => Ys0 q (nthW tm p.1) B fun B => Yup ps tm B K
def likeW (T : List (Nat × Pt)) (H : List (Nat × PI)) (B : List (Nat × Nat)) (tm : List AV) (hp : Heap) : Bool := Yup T tm B fun B => Ys1 H hp B
def likeO (p : Pt) (H : List (Nat × PI)) (x : AV) (hp : Heap) : Bool := Ys0 p x (Yx2 H) fun B => Ys1 H hp B
end
end Go.Proofs.Ytmogofidmchdoaa
namespace Go.Proofs.Ytmogofidmchdoaa
open Go.RowKit
attribute [local irreducible] Go.Oper.wp
section
variable [W : InW]
def endC (c : Cx) (n : Nat) (fn : Func) (tm : List AV) (hp : Heap) (ps : PS) (kR kP : AV -> Heap -> Prop) : Prop :=
 revK (Ybl tm) [] fun fs => Yht c n tm fs ps hp fun ps hp => match ps with
  | .run => Ygv c.tt tm hp fn.results.toList fun vs => kR (outA vs) hp
  | .live v => kP (.v v) hp
  | .done _ => Stuck 80
def Ytb (c : Cx) (n : Nat) (g : FuncId) (args : List AV) (hp : Heap) (kR kP : AV -> Heap -> Prop) : Prop :=
 match c.P.funcs[g]? with
 | none => Stuck 51
 | some fn => match fn.body with
  | none => Stuck 52
  | some cd => Yb (Ydx args) (padK args fn.ntmps fun tm0 =>
   Yer { c with fn := g } n cd tm0 hp fun x tm hpF => match x with
    | .norm => endC c n fn tm hpF .run kR kP
    | .ret => endC c n fn tm hpF .run kR kP
    | .pan (.v v) => endC c n fn tm hpF (.live v) kR kP
    | _ => Stuck 53)
theorem Yn7 {args : List AV} (h : Ydx args = true) (n : Nat) : Ybl (args ++ List.replicate n (.v undef)) = [] /\ ∀ (t : Nat) (v : AV), (args ++ List.replicate n (.v undef))[t]? = some v -> v.isHeld = false := by
 obtain ⟨a, b⟩ := Ye6 h;refine ⟨by rw [Yh2, a, Yfd]; rfl, fun t v hv => ?_⟩;rw [List.getElem?_append] at hv
 split at hv
 ·exact b t v hv
 ·rw [List.getElem?_replicate] at hv
  split at hv
  ·cases hv; rfl
  ·cases hv
theorem Yu0 {args : List AV} {hs : Heap} (hnoh : Ydx args = true) (hnd : (keys hs).Nodup) (m : Nat) (φ : Phi) (w0 : World) (M : List Nat) (R : RL) (w : World) (hS : St w0 M (Yc φ hs ++ R) w) :
  RepS (Yr6 φ) φ w0 M R (args ++ List.replicate (m - args.length) (.v undef)) hs
   { tmps := (AV.concL φ args).toArray ++ Array.replicate (m - (AV.concL φ args).toArray.size) undef, defers := [] } w := by
 have hl : (AV.concL φ args).length = args.length := Yd _ _;have hst : ∀ (t : Nat) (v : AV), (args ++ List.replicate (m - args.length) (.v undef))[t]? = some v -> v.isHeld = false := (Yn7 hnoh _).2;refine ⟨⟨fun t v hv _ => ?_, fun t v hv hh => ?_, fun t v hv hj => ?_, ?_, ?_⟩, hS, hnd, fun x => rfl⟩
 ·have := (List.getElem?_eq_some_iff.1 hv).1;simpa [hl] using this
 ·rw [hst t v hv] at hh; cases hh
 ·rw [Array.getElem?_append, List.getElem?_append] at *;simp only [List.size_toArray, hl] at hv ⊢
  split
  ·rename_i hlt;rw [if_pos hlt] at hv;have := Yb9 φ args t;rw [hv] at this;simpa using this
  ·rename_i hge;rw [if_neg hge] at hv;rw [List.getElem?_replicate] at hv
   split at hv
   ·rename_i hlt;cases hv;rw [Array.getElem?_replicate, if_pos hlt];rfl
   ·cases hv
 ·rw [(Yn7 hnoh _).1]; rfl
 ·simp [hl]
def BigF (P : Program) (g : FuncId) (xs : List AV) (ys : Heap) (pan : Bool) (v : AV) (ys' : Heap) : Prop :=
 ∀ (φ : Phi) (w0 : World) (M : List Nat) (R : RL) (w : World), (keys ys).Nodup -> St w0 M (Yc φ ys ++ R) w ->
  Calls P g (AV.concL φ xs).toArray w fun e w' => ∃ φ2 : Phi, (∀ x, φ2 (3 * x + 1) = φ (3 * x + 1)) /\ e = Ypt pan (v.conc φ2) /\ (keys ys').Nodup /\ St w0 M (Yc φ2 ys' ++ R) w'
theorem Yw8 {c : Cx} (hcL : HandOkL c) (hm : c.P.follows .mixedOrders = true) {n : Nat} {g : FuncId} {args : List AV} {hp : Heap} {kR kP : AV -> Heap -> Prop} (h : Ytb c n g args hp kR kP) :
  ∃ pan v hpF, (match pan with | true => kP v hpF | false => kR v hpF) /\ BigF c.P g args hp pan v hpF := by
 have hc := hcL.toHandOkR;unfold Ytb at h
 split at h
 ·exact h.elim
 ·rename_i fn hf
  split at h
  ·exact h.elim
  ·rename_i cd hb;obtain ⟨hnoh, h1⟩ := Ya h;have h2 := Yjy h1;obtain ⟨x, tm', hpF, h3, h4⟩ := Yf7 (hcL.at g) hm n (root := cd) (by show (c.P.funcs[g]?).bind (·.body) = some cd; rw [hf]; exact hb) cd .refl _ _ _ h2;have fin : ∀ (ps : PS), (∀ (φ : Phi) (e : Exit), x.is φ e -> ∀ (P : Program) (R : Ending -> World -> Prop) (a : Act) (w : World), Yd2 P fn a.tmps R a.defers ps.mode w -> Ykq P fn R e a w) ->
     endC c n fn tm' hpF ps kR kP -> ∃ pan v hpF, (match pan with | true => kP v hpF | false => kR v hpF) /\ BigF c.P g args hp pan v hpF := by
    intro ps hexit hend;have hrev := Ym4.1 hend;rw [List.append_nil] at hrev;obtain ⟨ps', hp', h5, h6⟩ := Ydp hc hm _ _ _ _ (fun f hf' => Yd8 (by simpa using hf')) hrev;have go : ∀ (v : AV) (pan : Bool),
      (∀ (φ0 φ : Phi) (w0 : World) (M : List Nat) (R : RL) (a : Act) (w : World) (Rp : Ending -> World -> Prop), RepS φ0 φ w0 M R tm' hp' a w -> Rp (Ypt pan (v.conc φ)) w -> Leaves c.P fn a.tmps Rp [] ps'.mode w) ->
      BigF c.P g args hp pan v hp' := by
     intro v pan hpost φ w0 M R w hnd hS;refine Yec hf hb ?_;refine h4 _ _ w0 M R _ w (Yu0 hnoh hnd fn.ntmps φ w0 M R w hS) _ fun φ' e a' w' hx hr => ?_;refine hexit φ' e hx c.P _ a' w' ?_;rw [hr.tmps.df, <- List.map_reverse];refine h6 _ φ' w0 M R a' w' hr fn _ fun φ1 w1 hr1 => ?_;refine hpost _ φ1 w0 M R a' w1 _ hr1 ?_;exact ⟨φ1, fun x => hr1.base x, rfl, hr1.nd, hr1.st⟩
    cases ps' with
    | run =>
     obtain ⟨vs, h7, h8, h9⟩ := Yds hc.tab h5;exact ⟨false, outA vs, hp', h7, go _ false fun φ0 φ w0 M R a w Rp hr hR => ⟨_, Yjq h8 (h9 φ0 φ w0 M R a w hr), hR⟩⟩
    | live v => exact ⟨true, .v v, hp', h5, go (.v v) true fun φ0 φ w0 M R a w Rp hr hR => hR⟩
    | done v => exact h5.elim
   cases x with
   | norm => exact fin .run (fun φ e he P R a w hl => by cases he; exact hl) h3
   | ret => exact fin .run (fun φ e he P R a w hl => by cases he; exact hl) h3
   | pan v =>
    cases v <;> first | exact h3.elim | skip
    rename_i v;exact fin (.live v) (fun φ e he P R a w hl => by cases he; exact hl) h3
   | exit i => exact h3.elim
structure CO where
 pan : Bool
 val : Pt
 H : List (Nat × PI)
 same : Bool
end
structure CC where
 g : FuncId
 args : List Pt
 H : List (Nat × PI)
 outs : List CO
 spec : [InW] -> List Ed -> (Nat -> List Ed -> Prop) -> Prop
section
variable [W : InW]
def CallC (P : Program) (cc : CC) : Prop :=
 ∀ xs ys e1 e2, Yiv cc.args xs e1 -> Ygm cc.H ys e2 -> ∀ K, cc.spec (e1 ++ e2) K -> ∃ j e o v r ys', K j e /\ cc.outs[j]? = some o /\ insP o.val e = some (v, r) /\ insH o.H r = some (ys', []) /\ BigF P cc.g xs ys o.pan v (match o.same with | true => ys | false => ys')
mutual
def Yzh : Pt -> AV -> Bool
 | .lit v, x => (match x with | .v u => Yb4 u v | _ => false)
 | .ptr _ _, x => (match x with | .ptr _ _ => true | _ => false)
 | .tup ps, x => (match x with | .tup xs => Yzi ps xs | _ => false)
 | _, _ => true
def Yzi : List Pt -> List AV -> Bool
 | [], _ => true
 | p :: ps, xs => (match xs with | [] => false | x :: xs => Yzh p x && Yzi ps xs)
end
def fitC (H0 : List (Nat × PI)) (e0 : List Ed) (o : CO) (v : AV) (hpF : Heap) (Q : List Ed -> Prop) : Prop :=
 match o.same with
 | true => Ybk o.val v (Yoc H0) fun y B e1 => Ydu H0 B hpF fun ys B _ e2 => Yb (Yod B && Yd5 (ys.map (·.1))) (Yb o.H.isEmpty (e2 = e0 /\ Q e1))
 | false => Ybk o.val v (Yoc o.H) fun y B e1 => Ydu o.H B hpF fun ys B _ e2 => Yb (Yod B && Yd5 (ys.map (·.1))) (Q (e1 ++ e2))
theorem Yuw {H : List (Nat × PI)} {pan : Bool} {p : Pt} {v : AV} {hpF : Heap} {B0 : Bd} {Q : AV -> Heap -> List Ed -> List Ed -> Prop}
  (h : Ybk p v B0 fun y B e1 => Ydu H B hpF fun ys B _ e2 => Yb (Yod B && Yd5 (ys.map (·.1))) (Q y ys e1 e2)) : ∃ y ys e1 e2, Q y ys e1 e2 /\ Ylc p y e1 /\ Ygm H ys e2 /\
  ∀ (P : Program) (g : FuncId) (xs : List AV) (zs : Heap), BigF P g xs zs pan v hpF -> BigF P g xs zs pan y ys := by
 obtain ⟨y, B1, e1, h1, h2, h3, h4, _, _⟩ := Ych _ _ _ _ h;obtain ⟨ys, B2, rest, e2, k1, k2, k3, k3s, k4⟩ := Yei _ _ _ _ h1;obtain ⟨hb, hk⟩ := Ya k1;rw [Bool.and_eq_true] at hb;refine ⟨y, ys, e1, e2, hk, h2, k2, fun P g xs zs hbig φ w0 M R w hnd hS => ?_⟩;refine (hbig φ w0 M R w hnd hS).mono fun e w' ⟨φ2, f1, f2, f3, f4⟩ => ⟨hB φ2 B2, fun x => by rw [Yq3 hb.1]; exact f1 x, ?_, Ybb hb.2, ?_⟩
 ·rw [f2, h4 B2 k3 φ2]
 ·have := k4 B2 (.refl _) φ2 w0 M [] R w' (by simpa using f4);simp only [List.nil_append] at this;exact this.sub ((List.Sublist.refl _).append (List.sublist_append_right _ _))
theorem Yuy {H0 : List (Nat × PI)} {zs : Heap} {e0 : List Ed} (h0 : Ygm H0 zs e0) {o : CO} {v : AV} {hpF : Heap} {Q : List Ed -> Prop} (h : fitC H0 e0 o v hpF Q) : ∃ y ys e, Q e /\ (∃ r, insP o.val e = some (y, r) /\ insH o.H r = some (ys, [])) /\
  ∀ (P : Program) (g : FuncId) (xs : List AV), BigF P g xs zs o.pan v hpF -> BigF P g xs zs o.pan y (match o.same with | true => zs | false => ys) := by
 unfold fitC at h
 split at h
 ·rename_i hs;obtain ⟨y, ys, e1, e2, hk, h2, h3, h4⟩ := Yuw (pan := o.pan) (Q := fun y ys e1 e2 => Yb o.H.isEmpty (e2 = e0 /\ Q e1)) h;obtain ⟨hO, he, hq⟩ := Ya hk
  replace hO := List.isEmpty_iff.1 hO
  subst he;have e := Ykc _ _ _ [] h3;rw [Ykc _ _ _ [] h0] at e;cases e;exact ⟨y, [], e1, hq, ⟨[], by have := Yh0 _ _ _ [] h2; rwa [List.append_nil] at this, by rw [hO]; rfl⟩, fun P g xs hb => h4 P g xs _ hb⟩
 ·rename_i hs;obtain ⟨y, ys, e1, e2, hq, h2, h3, h4⟩ := Yuw (pan := o.pan) (Q := fun y ys e1 e2 => Q (e1 ++ e2)) h;exact ⟨y, ys, e1 ++ e2, hq, ⟨e2, Yh0 _ _ _ _ h2, by have := Ykc _ _ _ [] h3; rwa [List.append_nil] at this⟩, fun P g xs hb => h4 P g xs _ hb⟩
def outC (H0 : List (Nat × PI)) (e0 : List Ed) : List CO -> Nat -> Bool -> AV -> Heap -> (Nat -> List Ed -> Prop) -> Prop
 | [], _, _, _, _, _ => Stuck 482
 | o :: os, j, pan, v, hpF, Q => match (o.pan == pan) && (Yzh o.val v && (match os with | [] => true | _ => likeO o.val o.H v hpF)) with
  | true => fitC H0 e0 o v hpF fun e => Q j e
  | false => outC H0 e0 os (j + 1) pan v hpF Q
theorem Yom {H0 : List (Nat × PI)} {zs : Heap} {e0 : List Ed} (h0 : Ygm H0 zs e0) {pan : Bool} {v : AV} {hpF : Heap} {Q : Nat -> List Ed -> Prop} : ∀ {os : List CO} {j : Nat}, outC H0 e0 os j pan v hpF Q -> ∃ k o y ys e, Q (j + k) e /\ os[k]? = some o /\ o.pan = pan /\ (∃ r, insP o.val e = some (y, r) /\ insH o.H r = some (ys, [])) /\
  ∀ (P : Program) (g : FuncId) (xs : List AV), BigF P g xs zs pan v hpF -> BigF P g xs zs o.pan y (match o.same with | true => zs | false => ys)
 | [], _, h => h.elim
 | o :: os, j, h => by
  unfold outC at h
  split at h
  ·rename_i hb;rw [Bool.and_eq_true] at hb;have e : o.pan = pan := by simpa using hb.1
   clear hb;obtain ⟨y, ys, e', h1, h2, h3⟩ := Yuy h0 h;exact ⟨0, o, y, ys, e', h1, rfl, e, h2, fun P g xs hb => h3 P g xs (by rw [e]; exact hb)⟩
  ·obtain ⟨k, o', y, ys, e, h1, h2, h3⟩ := Yom h0 h;exact ⟨k + 1, o', y, ys, e, by rw [show j + (k + 1) = j + 1 + k by omega]; exact h1, by simpa using h2, h3⟩
theorem CallC.of {c : Cx} (hcL : HandOkL c) (hm : c.P.follows .mixedOrders = true) (n : Nat) {cc : CC}
  (hb : AllL cc.args fun xs e1 => AllH cc.H fun ys e2 => ∀ K, cc.spec (e1 ++ e2) K -> Ytb c n cc.g xs ys (fun v hpF => outC cc.H e2 cc.outs 0 false v hpF K) (fun v hpF => outC cc.H e2 cc.outs 0 true v hpF K)) : CallC c.P cc := by
 intro xs ys e1 e2 h1 h2 K hs;have h := Yky (M := fun ys e2 => ∀ K, cc.spec (e1 ++ e2) K -> Ytb c n cc.g xs ys (fun v hpF => outC cc.H e2 cc.outs 0 false v hpF K) (fun v hpF => outC cc.H e2 cc.outs 0 true v hpF K)) (Ycb (M := fun xs e1 => AllH cc.H fun ys e2 => ∀ K, cc.spec (e1 ++ e2) K -> Ytb c n cc.g xs ys (fun v hpF => outC cc.H e2 cc.outs 0 false v hpF K) (fun v hpF => outC cc.H e2 cc.outs 0 true v hpF K)) hb h1) h2 K hs;obtain ⟨pan, v, hpF, h3, h4⟩ := Yw8 hcL hm h;have h5 : outC cc.H e2 cc.outs 0 pan v hpF K := by cases pan <;> exact h3
 obtain ⟨k, o, y, ys', e, k1, k2, k3, ⟨r, k4, k5⟩, k6⟩ := Yom h2 h5;rw [Nat.zero_add] at k1;exact ⟨k, e, o, y, r, ys', k1, k2, k4, k5, k6 _ _ _ h4⟩
end
end Go.Proofs.Ytmogofidmchdoaa
namespace Go.Proofs.Ytmogofidmchdoaa
open Go.RowKit
attribute [local irreducible] Go.Oper.wp
section
variable [W : InW]
def Yt3 (rest : Heap) : Heap -> (Heap -> Prop) -> Prop
 | [], K => K []
 | p :: h, K => match look rest p.1 with
  | some _ => Yt3 rest h K
  | none => Yt3 rest h fun r => K (p :: r)
theorem Yhw {rest : Heap} : ∀ {hp : Heap} {K : Heap -> Prop}, Yt3 rest hp K -> ∃ hs, K hs /\ hs.Sublist hp
 | [], K, h => ⟨[], h, .slnil⟩
 | p :: hp, K, h => by
  unfold Yt3 at h
  split at h
  ·obtain ⟨hs, h1, h2⟩ := Yhw h;exact ⟨hs, h1, h2.cons p⟩
  ·obtain ⟨hs, h1, h2⟩ := Yhw h;exact ⟨_, h1, h2.cons_cons p⟩
theorem Yx8 {hs hp : Heap} (h : hs.Sublist hp) (hn : (keys hp).Nodup) : PartOf hs hp :=
 ⟨(h.map _).nodup hn, fun p hm => Ybq hn (h.mem hm)⟩
def usK (hO : Heap) : Heap -> (Heap -> Prop) -> Prop
 | [], K => K []
 | p :: hs, K => match look hO p.1 with
  | some y => usK hO hs fun r => K ((p.1, y) :: r)
  | none => usK hO hs fun r => K ((p.1, .dead) :: r)
def newK (hs : Heap) : Heap -> (Heap -> Prop) -> Prop
 | [], K => K []
 | p :: h, K => match look hs p.1 with
  | some _ => newK hs h K
  | none => newK hs h fun r => K (p :: r)
def usOf (hO hs : Heap) : Heap := hs.map fun p => (p.1, match look hO p.1 with | some y => y | none => .dead)
def You (hs hO : Heap) : Heap := hO.filter fun p => (look hs p.1).isNone
theorem Yth {hO : Heap} : ∀ {hs : Heap} {K : Heap -> Prop}, usK hO hs K ↔ K (usOf hO hs)
 | [], K => Iff.rfl
 | p :: hs, K => by
  unfold usK;cases hl : look hO p.1 <;> simp only [Yth (hs := hs), usOf, List.map_cons, hl]
theorem Yrq {hs : Heap} : ∀ {h : Heap} {K : Heap -> Prop}, newK hs h K ↔ K (You hs h)
 | [], K => Iff.rfl
 | p :: h, K => by
  unfold newK;cases hl : look hs p.1 <;> simp [Yrq (h := h), You, hl]
theorem Yhd (hO hs : Heap) : keys (usOf hO hs) = keys hs := by simp [usOf, keys, Function.comp_def]
theorem Yox {hO : Heap} : ∀ {hs : Heap} {i : Nat}, look (usOf hO hs) i = (look hs i).map fun _ => match look hO i with | some y => y | none => .dead
 | [], i => rfl
 | p :: hs, i => by
  simp only [usOf, List.map_cons];rw [Yr, Yr]
  by_cases e : p.1 = i
  ·simp [e]
  ·rw [if_neg e, if_neg e]; exact Yox
theorem Ysc : ∀ (us hs : Heap), keys us = keys hs -> (keys hs).Nodup -> Yh hs us = us := by
 have key : ∀ (us pre hs : Heap), keys us = keys hs -> (keys (pre ++ hs)).Nodup -> Yh (pre ++ hs) us = pre ++ us := by
  intro us
  induction us with
  | nil =>
   intro pre hs h1 h2;cases hs with
   | nil => rfl
   | cons _ _ => simp [keys] at h1
  | cons p us ih =>
   intro pre hs h1 h2;cases hs with
   | nil => simp [keys] at h1
   | cons q hs =>
    simp only [keys, List.map_cons, List.cons.injEq] at h1;obtain ⟨i, y⟩ := p;obtain ⟨i', x⟩ := q;obtain ⟨rfl, h1⟩ := h1;have hpre : i ∉ keys pre := fun hm => by
     rw [Ybz, List.nodup_append] at h2;exact h2.2.2 _ hm _ (by simp [keys]) rfl
    rw [Yh, Yp0 hpre];have := ih (pre ++ [(i, y)]) hs h1 (by
     simpa [keys] using h2)
    simpa using this
 intro us hs h1 h2;simpa using key us [] hs h1 (by simpa using h2)
theorem St.deads {φ : Phi} {w0 w : World} {M : List Nat} {R : RL} : ∀ {ds : Heap}, (∀ p ∈ ds, p.2 = .dead) -> St w0 M R w -> St w0 M (Yc φ ds ++ R) w
 | [], _, h => h
 | (i, x) :: ds, hd, h => by
  have h1 := St.deads (φ := φ) (ds := ds) (fun p hp => hd p (List.mem_cons_of_mem _ hp)) h;have e : x = .dead := hd (i, x) List.mem_cons_self;subst e;simp only [Yc, List.map_cons, It.conc, List.cons_append] at h1 ⊢;exact h1.add (Ext.refl _) (r := .row (.slice none 0 0) 0 0 0 []) ⟨by simp, .inl ⟨rfl, rfl⟩⟩ (by simp [Res.foot, Value.ownBlock])
def Yg2 (ks : List Nat) (φ φ' : Phi) : Phi := fun i => if i ∈ ks then φ' i else φ i
theorem Yii (ks : List Nat) (φ φ' : Phi) : Agree ks φ (Yg2 ks φ φ') := fun i hi => by simp [Yg2, hi]
def mayB (base : Nat) (ks : List Nat) (i : Nat) : Bool := match Yfv base i with | true => true | false => ks.contains i
theorem Yjv {base : Nat} {ks : List Nat} {φ φ2 : Phi} (hk : ∀ k ∈ ks, Yfv base k = false) {i : Nat} (h : mayB base ks i = true) : Yg2 ks φ (Ybt φ φ2 base) i = Ybt φ φ2 base i := by
 unfold mayB at h;unfold Yg2
 split at h
 ·rename_i ho;rw [if_neg (fun hm => by rw [hk i hm] at ho; cases ho), Yc5 ho]
 ·rw [if_pos (List.contains_iff_mem.1 h)]
def Yr5 (base : Nat) : Heap -> Bool
 | [] => true
 | p :: h => !(Yfv base p.1) && Yr5 base h
theorem Ykx {base : Nat} : ∀ {h : Heap}, Yr5 base h = true -> ∀ k ∈ keys h, Yfv base k = false
 | [], _, k, hk => by simp [keys] at hk
 | p :: h, hh, k, hk => by
  simp only [Yr5, Bool.and_eq_true, Bool.not_eq_true'] at hh;simp only [keys, List.map_cons, List.mem_cons] at hk;rcases hk with rfl | hk
  ·exact hh.1
  ·exact Ykx hh.2 k hk
def mayH (base : Nat) (ks : List Nat) : Heap -> Bool
 | [] => true
 | p :: h => mayB base ks p.1 && p.2.ids (mayB base ks) && mayH base ks h
theorem Yov {base : Nat} {ks : List Nat} {φ φ' : Phi} (h : ∀ i, mayB base ks i = true -> φ' i = φ i) : ∀ {hs : Heap}, mayH base ks hs = true -> Yc φ' hs = Yc φ hs
 | [], _ => rfl
 | p :: hs, hh => by
  simp only [mayH, Bool.and_eq_true] at hh;have := Yov h hh.2;simp only [Yc, List.map_cons, Yq0 h hh.1.1 p.2 hh.1.2] at this ⊢;rw [this]
def Yya (i : Nat) : Bool := Nat.beq (i % 3) 1
def ownH : Heap -> Bool
 | [] => true
 | p :: h => Yya p.1 && p.2.ids Yya && ownH h
theorem Yok {φ φ' : Phi} (h : ∀ x, φ' (3 * x + 1) = φ (3 * x + 1)) : ∀ hs : Heap, ownH hs = true -> Yc φ' hs = Yc φ hs
 | [], _ => rfl
 | p :: hs, hh => by
  simp only [ownH, Bool.and_eq_true] at hh;have := Yok h hs hh.2;have hl : ∀ i, Yya i = true -> φ' i = φ i := fun i hi => by
   have e : i = 3 * (i / 3) + 1 := by have := Ye.1 hi; omega
   rw [e]; exact h _
  simp only [Yc, List.map_cons, Yq0 hl hh.1.1 p.2 hh.1.2] at this ⊢;rw [this]
def lowL : List AV -> Bool
 | [] => true
 | x :: xs => x.ids Yb5 && lowL xs
theorem Yj3 : ∀ {xs : List AV}, lowL xs = true -> AV.idsL Yb5 xs = true
 | [], _ => rfl
 | x :: xs, h => by
  simp only [lowL, Bool.and_eq_true] at h;unfold AV.idsL;rw [h.1];exact Yj3 h.2
def nilK (h : Heap) (K : Prop) : Prop := match h with | [] => K | _ :: _ => Stuck 483
def endE (es : List Ed) (K : Prop) : Prop := match es with | [] => K | _ :: _ => Stuck 481
theorem Yue {h : Heap} {K : Prop} (hh : nilK h K) : h = [] /\ K := by cases h <;> first | exact ⟨rfl, hh⟩ | exact hh.elim
theorem Ype {h : List Ed} {K : Prop} (hh : endE h K) : h = [] /\ K := by cases h <;> first | exact ⟨rfl, hh⟩ | exact hh.elim
def Yzo (cc : CC) (args : List AV) (hp : Heap) (k kp : KE) : Prop :=
 Yb (Yd5 (hp.map (·.1))) (Ydt cc.args args [] fun _ B _ => Ydu cc.H B hp fun _ _ rest _ => Yt3 rest hp fun hs =>
  Ydt cc.args args [] fun xs B e1 => Ydu cc.H B hs fun ys B rest e2 => nilK rest (Y1 (maxL (Ynd args hp) 1024) fun base =>
   Yb (Ymb base args && hOld base hs && lowL xs && lowH ys && Yd5 (ys.map (·.1))) (cc.spec (e1 ++ e2) fun j e => match cc.outs[j]? with
    | none => Stuck 480
    | some o => outP B base o.val e fun v r => (match o.same with
     | true => endE r (Yb (v.ids (mayB base []) && ownH ys) (match o.pan with | false => k v hs [] [] | true => kp v hs [] []))
     | false => outH B base o.H r fun hO r => endE r (usK hO hs fun us => newK hs hO fun nw =>
      Yb (Yd5 (hO.map (·.1)) && Yr5 base nw && v.ids (mayB base (nw.map (·.1))) && mayH base (nw.map (·.1)) hO) (match o.pan with | false => k v hs us nw | true => kp v hs us nw))))))
theorem Yra {P : Program} {cc : CC} (hc : CallC P cc) {args : List AV} {hp : Heap} {k kp : KE} (h : Yzo cc args hp k kp) :
  (∃ val hs us nw, k val hs us nw /\ PartOf hs hp /\ (∀ i ∈ keys us, i ∈ keys hs) /\ Yfx P cc.g args hs false val us nw) \/
  (∃ val hs us nw, kp val hs us nw /\ PartOf hs hp /\ (∀ i ∈ keys us, i ∈ keys hs) /\ Yfx P cc.g args hs true val us nw) := by
 obtain ⟨hnd, h⟩ := Ya h;obtain ⟨_, _, _, h, _⟩ := Ybc _ _ _ _ h;obtain ⟨_, _, rest0, _, h, _⟩ := Yei _ _ _ _ h;obtain ⟨hs, h, hsub⟩ := Yhw h;have hpart := Yx8 hsub (Ybb hnd);obtain ⟨xs, B1, e1, h, m1, m2, m3⟩ := Ybc _ _ _ _ h;obtain ⟨ys, B, rest, e2, h, n1, n2, n3, n4'⟩ := Yci _ _ _ _ h;have n4 := fun B2 hB2 φ => (n4' B2 hB2 φ).1;obtain ⟨hnil, hz⟩ := Yue h;subst hnil;have hz2 := Yi.1 hz;clear h hz;generalize maxL (Ynd args hp) 1024 = base at hz2;obtain ⟨hb, hz3⟩ := Ya hz2;simp only [Bool.and_eq_true] at hb;obtain ⟨⟨⟨⟨b1, b2⟩, b3⟩, b4⟩, b5⟩ := hb;obtain ⟨j, e, o, v', r, ys', k1, k2, k3, k4, k5⟩ := hc xs ys e1 e2 m1 n1 _ hz3;rw [k2] at k1;obtain ⟨v, v2, r2, p1, p2, p3, _⟩ := Ye2 _ _ _ k1;rw [k3] at p2;cases p2
 split at p1
 ·rename_i hsm;obtain ⟨hr, p1⟩ := Ype p1;obtain ⟨c3', p1⟩ := Ya p1;obtain ⟨c3, cO⟩ : _ /\ _ := by simpa only [Bool.and_eq_true] using c3'
  rw [hsm] at k5;have hA : Yfx P cc.g args hs o.pan v [] [] := by
   intro φ w0 M R w hnew hS;have hS1 := n4 B (.refl _) φ w0 M [] R w (by simpa using hS);simp only [List.nil_append, Yc, List.map_nil] at hS1;have hS2 : St w0 M (Yc (Ydm φ B { tmps := #[], defers := [] }) ys ++ R) w := by rw [Yuk ys b4]; exact hS1
   have hx : AV.concL (Ydm φ B { tmps := #[], defers := [] }) xs = AV.concL φ args := by
    rw [Ybw xs (Yj3 b3), m3 B n2 φ]
   have hcall := k5 (Ydm φ B { tmps := #[], defers := [] }) w0 M R w (Ybb b5) hS2;rw [hx] at hcall;refine hcall.mono fun en w' ⟨φ2, f1, f2, f3, f4⟩ => ?_;have hE : Ends B φ φ2 { tmps := #[], defers := [] } := ⟨f1⟩;refine ⟨Yg2 [] φ (Ybt φ φ2 base), Yii _ _ _, ?_, ?_⟩
   ·rw [f2, <- p3 φ φ2 _ hE];rw [Yho (p := mayB base []) (fun i hi => Yjv (ks := []) (fun k hk => by cases hk) hi) v c3]
   ·have e0 : Yc φ2 ys = Yc (hB φ B) ys := by rw [Yok f1 ys cO, Yuk ys b4]
    dsimp only at f4;rw [e0] at f4;obtain ⟨D, hD⟩ := (n4' B (.refl _) φ).2;have f5 : St w0 M ((Yc (hB φ B) ys ++ Yc φ []) ++ R) w' := by simpa [Yc] using f4
    have f6 := (f5.perm (hD.append_right R)).sub (L' := Yc φ hs ++ R) (by
     rw [List.append_assoc]; exact List.sublist_append_right _ _)
    have e1 : Yg2 [] φ (Ybt φ φ2 base) = φ := by funext i; simp [Yg2]
    rw [e1];simpa [Yh] using f6
  cases hp : o.pan with
  | false => rw [hp] at p1 hA; exact .inl ⟨_, _, _, _, p1, hpart, (fun i hi => by cases hi), hA⟩
  | true => rw [hp] at p1 hA; exact .inr ⟨_, _, _, _, p1, hpart, (fun i hi => by cases hi), hA⟩
 rename_i hsm;rw [hsm] at k5;obtain ⟨hO, ys2, r3, q1, q2, q3⟩ := Yjz _ _ _ p1;rw [k4] at q2;cases q2;obtain ⟨_, q1⟩ := Ype q1;have q1 := Yrq.1 (Yth.1 q1);obtain ⟨hb2, q1⟩ := Ya q1;simp only [Bool.and_eq_true] at hb2;obtain ⟨⟨⟨c1, c2⟩, c3⟩, c4⟩ := hb2;have hall := Ykx c2;have hus : ∀ i ∈ keys (usOf hO hs), i ∈ keys hs := fun i hi => by rwa [Yhd] at hi
 have hA : Yfx P cc.g args hs o.pan v (usOf hO hs) (You hs hO) := by
  intro φ w0 M R w hnew hS;have hS1 := n4 B (.refl _) φ w0 M [] R w (by simpa using hS);simp only [List.nil_append, Yc, List.map_nil] at hS1;have hS2 : St w0 M (Yc (Ydm φ B { tmps := #[], defers := [] }) ys ++ R) w := by rw [Yuk ys b4]; exact hS1
  have hx : AV.concL (Ydm φ B { tmps := #[], defers := [] }) xs = AV.concL φ args := by
   rw [Ybw xs (Yj3 b3), m3 B n2 φ]
  have hcall := k5 (Ydm φ B { tmps := #[], defers := [] }) w0 M R w (Ybb b5) hS2;rw [hx] at hcall;refine hcall.mono fun en w' ⟨φ2, f1, f2, f3, f4⟩ => ?_;have hE : Ends B φ φ2 { tmps := #[], defers := [] } := ⟨f1⟩;refine ⟨Yg2 (keys (You hs hO)) φ (Ybt φ φ2 base), Yii _ _ _, ?_, ?_⟩
  ·rw [f2, <- p3 φ φ2 _ hE];rw [Yho (p := mayB base (keys (You hs hO))) (fun i hi => Yjv hall hi) v c3]
  ·rw [Ysc _ _ (Yhd hO hs) hpart.nd];have e1 : St w0 M (Yc (Ybt φ φ2 base) hO ++ R) w' := by rw [q3 φ φ2 _ hE]; exact f4
   rw [<- Yov (fun i hi => Yjv (φ := φ) (φ2 := φ2) hall hi) c4] at e1;generalize Yg2 (keys (You hs hO)) φ (Ybt φ φ2 base) = φ' at e1 ⊢;have hOnd : (keys hO).Nodup := Ybb c1;have hperm : ((usOf hO hs) ++ You hs hO).Perm (((usOf hO hs).filter fun p => (look hO p.1).isNone) ++ hO) := by
    refine Yez ?_ ?_ ?_
    ·rw [Ybz, Yhd];refine List.nodup_append.2 ⟨hpart.nd, (List.filter_sublist.map _).nodup hOnd, fun a ha b hb e => ?_⟩;subst e;obtain ⟨x, hx⟩ := Yha.2 ha;obtain ⟨q, hq, rfl⟩ := List.mem_map.1 hb;have := (List.mem_filter.1 hq).2;rw [hx] at this;cases this
    ·rw [Ybz];refine List.nodup_append.2 ⟨(List.filter_sublist.map _).nodup (by show (keys (usOf hO hs)).Nodup; rw [Yhd]; exact hpart.nd), hOnd, fun a ha b hb e => ?_⟩;subst e;obtain ⟨x, hx⟩ := Yha.2 hb;obtain ⟨q, hq, rfl⟩ := List.mem_map.1 ha;have := (List.mem_filter.1 hq).2;rw [hx] at this;cases this
    ·intro i;have hf : ∀ (f : Nat -> Bool) (h : Heap), look (h.filter fun p => f p.1) i = if f i then look h i else none := by
      intro f h
      induction h with
      | nil => simp [look]
      | cons p h ih =>
       rw [List.filter_cons]
       by_cases e : p.1 = i
       ·subst e;cases hfi : f p.1 <;> simp [hfi, Yr] <;> simp_all
       ·cases hfp : f p.1 <;> simp [Yr, e, ih]
     rw [Yhb, Yhb];have a1 := hf (fun i => (look hs i).isNone) hO;have a2 := hf (fun i => (look hO i).isNone) (usOf hO hs);unfold You;rw [a1, a2, Yox];cases look hs i <;> cases look hO i <;> simp
   have hd : ∀ p ∈ ((usOf hO hs).filter fun p => (look hO p.1).isNone), p.2 = .dead := by
    intro p hp;obtain ⟨h1, h2⟩ := List.mem_filter.1 hp;obtain ⟨q, hq, rfl⟩ := List.mem_map.1 h1;dsimp only at h2 ⊢;cases hl : look hO q.1 with
    | none => rfl
    | some y => rw [hl] at h2; cases h2
   have e2 := St.deads (φ := φ') hd e1;refine e2.perm ?_;rw [<- List.append_assoc, <- Yn];exact ((Yu hperm).symm.append_right R)
 cases hp : o.pan with
 | false => rw [hp] at q1 hA; exact .inl ⟨_, _, _, _, q1, hpart, hus, hA⟩
 | true => rw [hp] at q1 hA; exact .inr ⟨_, _, _, _, q1, hpart, hus, hA⟩
def likeC (cc : CC) (args : List AV) (hp : Heap) : Bool := Yk9 cc.args args [] fun B => Ys1 cc.H hp B
end
def ceOf {P : Program} (cc : CC) (h : ∀ W : InW, @CallC W P cc) : CE P := ⟨cc.g, fun W => @likeC W cc, fun W args hp k kp => @Yzo W cc args hp k kp, fun W args hp k kp => @Yra W P cc (h W) args hp k kp⟩
theorem CC.okOf {P : Program} (tt : (W : InW) -> @Tr (@TI W)) (ht : ∀ W : InW, @TabOk W P (tt W)) (hm : P.follows .mixedOrders = true) (T : Tab P) (n m : Nat) (cc : CC)
  (hb : ∀ (W : InW), @AllL W cc.args fun xs e1 => @AllH W cc.H fun ys e2 => ∀ K, @CC.spec cc W (e1 ++ e2) K -> @Ytb W (@cxT W P (tt W) T n m) n cc.g xs ys (fun v hpF => @outC W cc.H e2 cc.outs 0 false v hpF K) (fun v hpF => @outC W cc.H e2 cc.outs 0 true v hpF K)) : ∀ W : InW, @CallC W P cc := by
 intro W;have hP := Yvk P (tt W) T n m;have := CallC.of (c := @cxT W P (tt W) T n m) (Ypn (T := T) (ht W) hm n m) (by rw [hP]; exact hm) n (cc := cc) (hb W);rwa [hP] at this
end Go.Proofs.Ytmogofidmchdoaa
