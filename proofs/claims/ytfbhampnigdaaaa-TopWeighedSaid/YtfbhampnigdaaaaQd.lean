/-
  A machine over abstract states, proved sound: the help of the proof of a law.
-/
import Derived.Test.YtfbhampnigdaaaaQc
import Derived.Carry
import Derived.OpenShut
import Derived.ChangeCalls
import Derived.ProofKit
set_option linter.unusedVariables false
set_option linter.unusedSectionVars false
set_option linter.unusedSimpArgs false
namespace Go.Proofs.Ytfbhampnigdaaaa
open Go.RowKit
variable [InW]
attribute [local irreducible] Go.Oper.wp
inductive AT where
 | one (t : Ty)
 | agg (ts : List Ty)
abbrev DS := List (List Cl)
def Yti (t : Ty) (x : AV) (c : Cl) : Prop :=
 match t with
 | .int k => ∃ n, x = .si k n /\ c = .i n
 | .bool => ∃ b, x = .sb b /\ c = .b b
 | .str => ∃ s, x = .ss s /\ c = .s s
 | .sl ts => ∃ r : Ro ts, x = .rs ts r /\ c = .l r.xs
def Yna : List Ty -> List AV -> List Cl -> Prop
 | [], xs, cs => xs = [] /\ cs = []
 | t :: ts, xs, cs => ∃ x xs' c cs', xs = x :: xs' /\ cs = c :: cs' /\ Yti t x c /\ Yna ts xs' cs'
def Y44 (a : AT) (x : AV) (d : List Cl) : Prop :=
 match a with
 | .one t => ∃ c, d = [c] /\ Yti t x c
 | .agg ts => ∃ xs, x = .agg xs /\ Yna ts xs d
def Ypg : List AT -> List AV -> DS -> Prop
 | [], xs, ds => xs = [] /\ ds = []
 | a :: ats, xs, ds => ∃ x xs' d ds', xs = x :: xs' /\ ds = d :: ds' /\ Y44 a x d /\ Ypg ats xs' ds'
def ArgRd (a : AT) (v : Value) (d : List Cl) : Prop :=
 match a with
 | .one t => ∃ c, d = [c] /\ RdV t v c /\ Ymu t c
 | .agg ts => ∃ us : List Value, v = .agg us.toArray /\ us.length = ts.length /\ d.length = ts.length /\ ∀ (k : Nat) (t : Ty) (u : Value) (c : Cl), ts[k]? = some t -> us[k]? = some u -> d[k]? = some c -> RdV t u c /\ Ymu t c
theorem Ytc {t : Ty} {v : Value} {c : Cl} (h : RdV t v c) (hz : Ymu t c) : ∃ x : AV, Yti t x c /\ ∀ φ, x.conc φ = v := by
 cases t with
 | int k => obtain ⟨n, rfl⟩ := hz; exact ⟨.si k n, ⟨n, rfl, rfl⟩, fun φ => h.isInt.symm⟩
 | bool => obtain ⟨b, rfl⟩ := hz; exact ⟨.sb b, ⟨b, rfl, rfl⟩, fun φ => h.isBool.symm⟩
 | str => obtain ⟨s, rfl⟩ := hz; exact ⟨.ss s, ⟨s, rfl, rfl⟩, fun φ => h.isStr.symm⟩
 | sl ts => obtain ⟨xs, rfl⟩ := hz; exact ⟨.rs ts ⟨(v, xs), h⟩, ⟨_, rfl, rfl⟩, fun φ => rfl⟩
theorem Yo9 : ∀ {ts : List Ty} {us : List Value} {d : List Cl}, us.length = ts.length -> d.length = ts.length -> (∀ (k : Nat) (t : Ty) (u : Value) (c : Cl), ts[k]? = some t -> us[k]? = some u -> d[k]? = some c -> RdV t u c /\ Ymu t c) -> ∃ xs : List AV, Yna ts xs d /\ ∀ φ, AV.concL φ xs = us
 | [], us, d, h1, h2, _ => by
  have e1 : us = [] := List.length_eq_zero_iff.1 h1;have e2 : d = [] := List.length_eq_zero_iff.1 h2;subst e1; subst e2;exact ⟨[], ⟨rfl, rfl⟩, fun φ => rfl⟩
 | t :: ts, u :: us, c :: d, h1, h2, h => by
  obtain ⟨x, hx, hxc⟩ := Ytc (h 0 t u c rfl rfl rfl).1 (h 0 t u c rfl rfl rfl).2;obtain ⟨xs, hxs, hxsc⟩ := Yo9 (by simpa using h1) (by simpa using h2) fun k t u c a b e => h (k + 1) t u c (by simpa using a) (by simpa using b) (by simpa using e);exact ⟨x :: xs, ⟨_, _, _, _, rfl, rfl, hx, hxs⟩, fun φ => by simp [AV.concL, hxc φ, hxsc φ]⟩
 | t :: ts, [], d, h1, _, _ => by simp at h1
 | t :: ts, u :: us, [], _, h2, _ => by simp at h2
theorem Y27 {a : AT} {v : Value} {d : List Cl} (h : ArgRd a v d) : ∃ x : AV, Y44 a x d /\ ∀ φ, x.conc φ = v := by
 cases a with
 | one t =>
  obtain ⟨c, rfl, h1, h2⟩ := h;obtain ⟨x, hx, hc⟩ := Ytc h1 h2;exact ⟨x, ⟨c, rfl, hx⟩, hc⟩
 | agg ts =>
  obtain ⟨us, rfl, h1, h2, h3⟩ := h;obtain ⟨xs, hx, hc⟩ := Yo9 h1 h2 h3;exact ⟨.agg xs, ⟨xs, rfl, hx⟩, fun φ => by simp [AV.conc, hc φ]⟩
def Ywi : List AT -> List Value -> DS -> Prop
 | [], vs, ds => vs = [] /\ ds = []
 | a :: ats, vs, ds => ∃ v vs' d ds', vs = v :: vs' /\ ds = d :: ds' /\ ArgRd a v d /\ Ywi ats vs' ds'
theorem Ym2 : ∀ {ats : List AT} {vs : List Value} {ds : DS}, Ywi ats vs ds -> ∃ xs : List AV, Ypg ats xs ds /\ ∀ φ, AV.concL φ xs = vs
 | [], _, _, ⟨rfl, rfl⟩ => ⟨[], ⟨rfl, rfl⟩, fun φ => rfl⟩
 | a :: ats, _, _, ⟨v, vs, d, ds, rfl, rfl, h1, h2⟩ => by
  obtain ⟨x, hx, hc⟩ := Y27 h1;obtain ⟨xs, hxs, hcs⟩ := Ym2 h2;exact ⟨x :: xs, ⟨_, _, _, _, rfl, rfl, hx, hxs⟩, fun φ => by simp [AV.concL, hc φ, hcs φ]⟩
theorem Ypa {t : Ty} {x : AV} {c : Cl} (h : Yti t x c) (i : Nat) : x.has i = false := by
 cases t <;> (obtain ⟨_, rfl, _⟩ := h; rfl)
theorem Yms : ∀ {ts : List Ty} {xs : List AV} {cs : List Cl}, Yna ts xs cs -> ∀ i, AV.hasL i xs = false
 | [], _, _, ⟨rfl, rfl⟩, i => rfl
 | _ :: _, _, _, ⟨x, xs, c, cs, rfl, rfl, h1, h2⟩, i => by simp [AV.hasL, Ypa h1 i, Yms h2 i]
theorem Yjo : ∀ {ats : List AT} {xs : List AV} (ds : DS), Ypg ats xs ds -> ∀ i, AV.hasL i xs = false
 | [], _, _, ⟨rfl, rfl⟩, i => rfl
 | a :: ats, _, _, ⟨x, xs, d, ds, rfl, rfl, h1, h2⟩, i => by
  have hx : x.has i = false := by
   cases a with
   | one t => obtain ⟨c, _, h⟩ := h1; exact Ypa h i
   | agg ts => obtain ⟨ys, rfl, h⟩ := h1; simpa [AV.has] using Yms h i
  simp [AV.hasL, hx, Yjo ds h2 i]
inductive RTy where
 | int (k : IntKind)
 | bool
 | str
 | row (T : Nat) (ts : List Ty)
 | nst (T : Nat) (ts : List Ty)
 | fro (ts : List Ty)
abbrev RTs := List (Bool × List RTy)
def RTy.av (d j : Nat) (t : RTy) (c : Cl) : AV := match t with | .int k => .si k c.int | .bool => .sb c.bool | .str => .ss c.str | .row _ _ => .rw (Yb2 d j) | .nst _ _ => .rw (Yb2 d j) | .fro _ => .opq (Yb2 d j)
def RTy.hp (d j : Nat) (t : RTy) (c : Cl) : Heap := match t with | .row T ts => [(Yb2 d j, .arr T ts c.lst)] | .nst T ts => [(Yb2 d j, .nst T ts c.lst)] | .fro ts => [(Yb2 d j, .fro ts c.lst)] | _ => []
def Yda (d : Nat) : Nat -> List RTy -> List Cl -> List AV
 | _, [], _ => []
 | j, t :: ts, cs => t.av d j (cs.headD .z) :: Yda d (j + 1) ts cs.tail
def Ybi (d : Nat) : Nat -> List RTy -> List Cl -> Heap
 | _, [], _ => []
 | j, t :: ts, cs => t.hp d j (cs.headD .z) ++ Ybi d (j + 1) ts cs.tail
def Yza : List AV -> AV
 | [x] => x
 | _ => .junk
def Ylr (d : Nat) : Nat -> RTs -> DS -> List AV
 | _, [], _ => []
 | j, (g, ts) :: rs, ds => (match g with | true => .agg (Yda d j ts (ds.headD [])) | false => Yza (Yda d j ts (ds.headD []))) :: Ylr d (j + ts.length) rs ds.tail
def Ydi (d : Nat) : Nat -> RTs -> DS -> Heap
 | _, [], _ => []
 | j, (_, ts) :: rs, ds => Ybi d j ts (ds.headD []) ++ Ydi d (j + ts.length) rs ds.tail
def Yyx (d : Nat) (rs : RTs) (ds : DS) : AV := outA (Ylr d 0 rs ds)
end Go.Proofs.Ytfbhampnigdaaaa
namespace Go.Proofs.Ytfbhampnigdaaaa
open Go.RowKit
attribute [local irreducible] Go.Oper.wp
inductive Pre (p : Prop) (A : Prop) : Prop where
 | mk (h : p) (a : A)
theorem Pre_iff {p A : Prop} : Pre p A ↔ p /\ A := ⟨fun ⟨a, b⟩ => ⟨a, b⟩, fun ⟨a, b⟩ => ⟨a, b⟩⟩
def PureOk (P : Program) (g : FuncId) (ats : List AT) (rs : RTs) (pre : DS -> Prop) (res : DS -> DS) : Prop :=
 ∀ (W : InW) (args : List (@AV W)) (ds : DS), @Ypg W ats args ds -> pre ds -> ∀ d, d < 1024 -> @ACall W P g args [] false (@Yyx W d rs (res ds)) [] (@Ydi W d 0 rs (res ds))
structure PC (P : Program) where
 g : FuncId
 ats : List AT
 rs : RTs
 pre : DS -> Prop
 res : DS -> DS
 ok : PureOk P g ats rs pre res
section
variable [W : InW]
end
end Go.Proofs.Ytfbhampnigdaaaa
namespace Go.Proofs.Ytfbhampnigdaaaa
open Go.RowKit
attribute [local irreducible] Go.Oper.wp
section
variable [W : InW]
theorem ArgRd.grow {w : World} {F F' : Nat -> Prop} {a : AT} {v : Value} {d : List Cl} (h : @ArgRd (atF w F) a v d) (hF : ∀ b, F b -> F' b) : @ArgRd (atF w F') a v d := by
 cases a with
 | one t =>
  obtain ⟨c, h1, h2, h3⟩ := h;exact ⟨c, h1, RdV.grow h2 (fun b h1 h2 => ⟨h1, hF b h2⟩) fun _ _ _ => rfl, h3⟩
 | agg ts =>
  obtain ⟨us, h1, h2, h3, h4⟩ := h;exact ⟨us, h1, h2, h3, fun k t u c a b e => ⟨RdV.grow (h4 k t u c a b e).1 (fun b h1 h2 => ⟨h1, hF b h2⟩) fun _ _ _ => rfl, (h4 k t u c a b e).2⟩⟩
def Yim : List Ty -> List AV -> Heap -> Heap -> (Heap -> List Cl -> Prop) -> Prop
 | [], [], hp, hs, K => K hs []
 | t :: ts, x :: xs, hp, hs, K => Ys2 4 t x hp hs fun hs c => Yim ts xs hp hs fun hs cs => K hs (c :: cs)
 | _, _, _, _, _ => Stuck 407
def Yu1 (a : AT) (x : AV) (hp hs : Heap) (K : Heap -> List Cl -> Prop) : Prop :=
 match a with
 | .one t => Ys2 4 t x hp hs fun hs c => K hs [c]
 | .agg ts => (match x with | .agg xs => Yim ts xs hp hs K | .v (.agg cs) => Yqc cs.toList fun xs => Yim ts xs hp hs K | _ => Stuck 408)
def Yqo : List AT -> List AV -> Heap -> Heap -> (Heap -> DS -> Prop) -> Prop
 | [], [], hp, hs, K => K hs []
 | a :: ats, x :: xs, hp, hs, K => Yu1 a x hp hs fun hs d => Yqo ats xs hp hs fun hs ds => K hs (d :: ds)
 | _, _, _, _, _ => Stuck 409
def At' (hs : Heap) (φ : Phi) (w0 : World) (M : List Nat) (L : RL) (w : World) : Prop := St w0 M L w /\ ∀ p ∈ hs, p.2.conc φ p.1 ∈ L
theorem At'.mono {hs hs' : Heap} {φ : Phi} {w0 w : World} {M : List Nat} {L : RL} (h : At' hs' φ w0 M L w) (hh : ∀ p ∈ hs, p ∈ hs') : At' hs φ w0 M L w := ⟨h.1, fun p hp => h.2 p (hh p hp)⟩
theorem Yel : ∀ {ts : List Ty} {xs : List AV} {hp hs : Heap} {K : Heap -> List Cl -> Prop}, Yim ts xs hp hs K -> PartOf hs hp -> ∃ hs' cs, K hs' cs /\ PartOf hs' hp /\ (∀ p ∈ hs, p ∈ hs') /\ xs.length = ts.length /\ cs.length = ts.length /\
  ∀ (φ : Phi) (w0 : World) (M : List Nat) (L : RL) (w : World), At' hs' φ w0 M L w -> ∀ (k : Nat) (t : Ty) (u : Value) (c : Cl), ts[k]? = some t -> (AV.concL φ xs)[k]? = some u -> cs[k]? = some c -> @RdV (atF w (InB φ hs')) t u c /\ Ymu t c
 | [], [], hp, hs, K, h, hpart => ⟨hs, [], h, hpart, fun p hp => hp, rfl, rfl, fun φ w0 M L w _ k t u c e => by simp at e⟩
 | t :: ts, x :: xs, hp, hs, K, h, hpart => by
  obtain ⟨hs1, c, h1, h2, h3, h4, h5⟩ := Ydv 4 _ _ _ _ _ h hpart;obtain ⟨hs2, cs, k1, k2, k3, k4, k5, k6⟩ := Yel h1 h2;refine ⟨hs2, c :: cs, k1, k2, fun p hp => k3 p (h3 p hp), by simp [k4], by simp [k5], fun φ w0 M L w hA k t' u c' e1 e2 e3 => ?_⟩;cases k with
  | zero =>
   simp only [List.getElem?_cons_zero, Option.some.injEq, AV.concL] at e1 e2 e3;subst e1; subst e2; subst e3;exact ⟨h5.mono k3 φ w0 M L w hA.1 fun p hp => hA.2 p hp, h4⟩
  | succ k => exact k6 φ w0 M L w hA k t' u c' (by simpa using e1) (by simpa [AV.concL] using e2) (by simpa using e3)
 | [], _ :: _, _, _, _, h, _ => h.elim
 | _ :: _, [], _, _, _, h, _ => h.elim
theorem Ys3 {a : AT} {x : AV} {hp hs : Heap} {K : Heap -> List Cl -> Prop} (h : Yu1 a x hp hs K) (hpart : PartOf hs hp) : ∃ hs' d, K hs' d /\ PartOf hs' hp /\ (∀ p ∈ hs, p ∈ hs') /\
  ∀ (φ : Phi) (w0 : World) (M : List Nat) (L : RL) (w : World), At' hs' φ w0 M L w -> @ArgRd (atF w (InB φ hs')) a (x.conc φ) d := by
 unfold Yu1 at h
 split at h
 ·obtain ⟨hs1, c, h1, h2, h3, h4, h5⟩ := Ydv 4 _ _ _ _ _ h hpart;exact ⟨hs1, _, h1, h2, h3, fun φ w0 M L w hA => ⟨c, rfl, h5 φ w0 M L w hA.1 hA.2, h4⟩⟩
 ·split at h
  ·obtain ⟨hs2, cs, k1, k2, k3, k4, k5, k6⟩ := Yel h hpart;exact ⟨hs2, cs, k1, k2, k3, fun φ w0 M L w hA => ⟨_, rfl, by rw [Yg, k4], k5, k6 φ w0 M L w hA⟩⟩
  ·obtain ⟨hs2, cs, k1, k2, k3, k4, k5, k6⟩ := Yel (Yd1.1 h) hpart;refine ⟨hs2, cs, k1, k2, k3, fun φ w0 M L w hA => ⟨_, ?_, by rw [Yg, k4], k5, k6 φ w0 M L w hA⟩⟩;simp [AV.conc, Yt, Function.comp_def]
  ·exact h.elim
theorem Yin : ∀ {ats : List AT} {xs : List AV} {hp hs : Heap} {K : Heap -> DS -> Prop}, Yqo ats xs hp hs K -> PartOf hs hp -> ∃ hs' ds, K hs' ds /\ PartOf hs' hp /\ (∀ p ∈ hs, p ∈ hs') /\
  ∀ (φ : Phi) (w0 : World) (M : List Nat) (L : RL) (w : World), At' hs' φ w0 M L w -> @Ywi (atF w (InB φ hs')) ats (AV.concL φ xs) ds
 | [], [], hp, hs, K, h, hpart => ⟨hs, [], h, hpart, fun p hp => hp, fun φ w0 M L w _ => ⟨rfl, rfl⟩⟩
 | a :: ats, x :: xs, hp, hs, K, h, hpart => by
  obtain ⟨hs1, d, h1, h2, h3, h4⟩ := Ys3 h hpart;obtain ⟨hs2, ds, k1, k2, k3, k4⟩ := Yin h1 h2;exact ⟨hs2, d :: ds, k1, k2, fun p hp => k3 p (h3 p hp), fun φ w0 M L w hA => ⟨_, _, _, _, rfl, rfl, (h4 φ w0 M L w (hA.mono k3)).grow (fun b hb => hb.mono k3), k4 φ w0 M L w hA⟩⟩
 | [], _ :: _, _, _, _, h, _ => h.elim
 | _ :: _, [], _, _, _, h, _ => h.elim
end
theorem Yua (W1 W2 : InW) (φ : Phi) (d : Nat) : ∀ (rs : RTs) (j : Nat) (ds : DS), @AV.concL W1 φ (@Ylr W1 d j rs ds) = @AV.concL W2 φ (@Ylr W2 d j rs ds) := by
 have cells : ∀ (ts : List RTy) (j : Nat) (cs : List Cl), @AV.concL W1 φ (@Yda W1 d j ts cs) = @AV.concL W2 φ (@Yda W2 d j ts cs) := by
  intro ts
  induction ts with
  | nil => intro j cs; rfl
  | cons t ts ih =>
   intro j cs;simp only [Yda, AV.concL, ih (j + 1) cs.tail];cases t <;> rfl
 have one : ∀ (ts : List RTy) (j : Nat) (cs : List Cl), @AV.conc W1 φ (@Yza W1 (@Yda W1 d j ts cs)) = @AV.conc W2 φ (@Yza W2 (@Yda W2 d j ts cs)) := by
  intro ts j cs;have := cells ts j cs
  match ts with
  | [] => rfl
  | [t] => cases t <;> rfl
  | _ :: _ :: _ => rfl
 intro rs
 induction rs with
 | nil => intro j ds; rfl
 | cons r rs ih =>
  intro j ds;obtain ⟨g, ts⟩ := r;simp only [Ylr, AV.concL, ih (j + ts.length) ds.tail, List.cons.injEq, and_true];cases g with
  | true => simp only [AV.conc, cells ts j (ds.headD [])]
  | false => exact one ts j (ds.headD [])
theorem Yy7 (W1 W2 : InW) (φ : Phi) (xs : List (@AV W1)) (ys : List (@AV W2)) (h : @AV.concL W1 φ xs = @AV.concL W2 φ ys) : @AV.conc W1 φ (@outA W1 xs) = @AV.conc W2 φ (@outA W2 ys) := by
 match xs, ys with
 | [], [] => rfl
 | [x], [y] =>
  show @AV.conc W1 φ x = @AV.conc W2 φ y
  simpa [AV.concL] using h
 | _ :: _ :: _, _ :: _ :: _ => simp only [outA, AV.conc, h]
 | [], _ :: _ => simp [AV.concL] at h
 | _ :: _, [] => simp [AV.concL] at h
 | [_], _ :: _ :: _ => simp [AV.concL] at h
 | _ :: _ :: _, [_] => simp [AV.concL] at h
theorem Yw5 (W1 W2 : InW) (φ : Phi) (d : Nat) : ∀ (rs : RTs) (j : Nat) (ds : DS), @Yb W1 φ (@Ydi W1 d j rs ds) = @Yb W2 φ (@Ydi W2 d j rs ds) := by
 have cells : ∀ (ts : List RTy) (j : Nat) (cs : List Cl), @Yb W1 φ (@Ybi W1 d j ts cs) = @Yb W2 φ (@Ybi W2 d j ts cs) := by
  intro ts
  induction ts with
  | nil => intro j cs; rfl
  | cons t ts ih =>
   intro j cs;simp only [Ybi, Yp, ih (j + 1) cs.tail];cases t <;> rfl
 intro rs
 induction rs with
 | nil => intro j ds; rfl
 | cons r rs ih =>
  intro j ds;obtain ⟨g, ts⟩ := r;simp only [Ydi, Yp, ih (j + ts.length) ds.tail, cells ts j (ds.headD [])]
theorem Yw4 (W1 W2 : InW) (d : Nat) : ∀ (rs : RTs) (j : Nat) (ds : DS), @keys W1 (@Ydi W1 d j rs ds) = @keys W2 (@Ydi W2 d j rs ds) := by
 have cells : ∀ (ts : List RTy) (j : Nat) (cs : List Cl), @keys W1 (@Ybi W1 d j ts cs) = @keys W2 (@Ybi W2 d j ts cs) := by
  intro ts
  induction ts with
  | nil => intro j cs; rfl
  | cons t ts ih =>
   intro j cs;simp only [Ybi, Ybk, ih (j + 1) cs.tail];cases t <;> rfl
 intro rs
 induction rs with
 | nil => intro j ds; rfl
 | cons r rs ih =>
  intro j ds;obtain ⟨g, ts⟩ := r;simp only [Ydi, Ybk, ih (j + ts.length) ds.tail, cells ts j (ds.headD [])]
section
variable [W : InW]
def Y4b : List RTy -> Bool
 | [] => false
 | .nst _ _ :: _ => true
 | .fro _ :: _ => true
 | _ :: ts => Y4b ts
def Yzm : RTs -> Bool
 | [] => false
 | r :: rs => match Y4b r.2 with | true => true | false => Yzm rs
def Yvz (b : Bool) (hs : Heap) : Heap := match b with | true => Yd2 hs | false => []
def Yuc {P : Program} (pc : PC P) (args : List AV) (hp : Heap) (d : Nat) (k : KE) : Prop :=
 Yc (Nat.blt d 1024) (Yqo pc.ats args hp [] fun hs ds => Pre (pc.pre ds) (k (Yyx d pc.rs (pc.res ds)) hs (Yvz (Yzm pc.rs) hs) (Ydi d 0 pc.rs (pc.res ds))))
theorem Yzl {φ : Phi} {d : Nat} : ∀ {rs : RTs} {j : Nat} {ds : DS}, Yzm rs = false -> ∀ r ∈ Yb φ (Ydi d j rs ds), ∀ b, ¬ r.frz b := by
 have cells : ∀ {ts : List RTy} {j : Nat} {cs : List Cl}, Y4b ts = false -> ∀ r ∈ Yb φ (Ybi d j ts cs), ∀ b, ¬ r.frz b := by
  intro ts
  induction ts with
  | nil => intro j cs _ r hr; simp [Ybi, Yb] at hr
  | cons t ts ih =>
   intro j cs h r hr b;simp only [Ybi, Yp, List.mem_append] at hr;rcases hr with hr | hr
   ·cases t with
    | row T us =>
     simp only [RTy.hp, Yb, List.map_cons, List.map_nil, List.mem_singleton] at hr;subst hr;exact fun h => h
    | nst T us => cases h
    | fro us => cases h
    | _ => simp [RTy.hp, Yb] at hr
   ·exact ih (by cases t <;> first | exact h | cases h) r hr b
 intro rs
 induction rs with
 | nil => intro j ds _ r hr; simp [Ydi, Yb] at hr
 | cons q rs ih =>
  intro j ds h r hr b;obtain ⟨g, ts⟩ := q;unfold Yzm at h
  split at h
  ·cases h
  ·rename_i hq;simp only [Ydi, Yp, List.mem_append] at hr;rcases hr with hr | hr
   ·exact cells hq r hr b
   ·exact ih h r hr b
theorem Yuq {hs : Heap} : ∀ i ∈ keys (Yd2 hs), i ∈ keys hs := fun i hi => by
 obtain ⟨p, hp, rfl⟩ := List.mem_map.1 hi;exact (Yc7 p hp).2
theorem Yxa {P : Program} {pc : PC P} {args : List AV} {hp : Heap} {d : Nat} {k : KE} (h : Yuc pc args hp d k) :
  ∃ val hs us nw, k val hs us nw /\ PartOf hs hp /\ (∀ i ∈ keys us, i ∈ keys hs) /\ ACall P pc.g args hs false val us nw := by
 obtain ⟨hd, h⟩ := Ya h;obtain ⟨hs, ds, h1, h2, _, h4⟩ := Yin h (PartOf.nil hp);obtain ⟨hpre, hk⟩ := h1;have hsub : ∀ i ∈ keys (Yvz (Yzm pc.rs) hs), i ∈ keys hs := fun i hi => by
  unfold Yvz at hi
  split at hi
  ·exact Yuq i hi
  ·simp [keys] at hi
 refine ⟨_, _, _, _, hk, h2, hsub, fun φ w0 M R w hnew hS => ?_⟩;have hA : At' hs φ w0 M (Yb φ hs ++ R) w := ⟨hS, fun p hp => List.mem_append_left _ (List.mem_map.2 ⟨p, hp, rfl⟩)⟩;obtain ⟨xs, hx, hxc⟩ := @Ym2 (atF w (InB φ hs)) _ _ _ (h4 φ w0 M _ w hA);have hc := pc.ok (atF w (InB φ hs)) xs ds hx hpre d (by simpa [Nat.blt_eq] using hd);have hkeys := Yw4 W (atF w (InB φ hs)) d pc.rs 0 (pc.res ds);have hxs : ∀ i, @AV.hasL (atF w (InB φ hs)) i xs = false := fun i => @Yjo (atF w (InB φ hs)) _ _ ds hx i;have := hc φ w [] [] w (fun i hi => ⟨hxs i, rfl⟩) (by simpa [Yb] using hS.nowF (InB φ hs));rw [hxc φ] at this;refine this.mono fun e w' ⟨φ', hag, he, hS'⟩ => ⟨φ', by rw [hkeys]; exact hag, ?_, ?_⟩
 ·rw [he];unfold Yyx;rw [Yy7 W (atF w (InB φ hs)) φ' _ _ (Yua W (atF w (InB φ hs)) φ' d pc.rs 0 _)]
 ·have hagW : Agree (keys (Ydi d 0 pc.rs (pc.res ds))) φ φ' := by rw [hkeys]; exact hag
  have hfree : ∀ i ∈ keys (Ydi d 0 pc.rs (pc.res ds)), hasH i hs = false := fun i hi => (hnew i (by first | exact hi | (rw [hkeys]; exact hi) | (rw [<- hkeys]; exact hi))).2;have hres : @St (atF w (InB φ hs)) w [] (Yb φ' (Ydi d 0 pc.rs (pc.res ds))) w' := by
   have h5 : @St (atF w (InB φ hs)) w [] (@Yb (atF w (InB φ hs)) φ' (@Ydi (atF w (InB φ hs)) d 0 pc.rs (pc.res ds))) w' := by simpa [Yh] using hS'
   rw [<- Yw5 W (atF w (InB φ hs))] at h5;exact h5
  unfold Yvz
  split
  ·have hdead : ∀ p ∈ Yd2 hs, p.2 = .dead := fun p hp => (Yc7 p hp).1;have hg := hS.give (X := [.abs [] (fun b => b < w.heap.size /\ SetF φ hs (keys (Yd2 hs)) b) fun _ => True]) (us := Yd2 hs) (A := []) h2.nd hdead
    (by intro x hx; rw [List.mem_singleton] at hx; subst hx; exact ⟨fun b hb => (hb.resolve_left (by simp)).1, by simp, fun _ _ => trivial⟩) (by simp)
    (by intro x hx b hb; rw [List.mem_singleton] at hx; subst hx; simp [Res.foot] at hb)
    (by intro x hx b hb; rw [List.mem_singleton] at hx; subst hx; exact hb.2)
   have h6 := St.back hg hres fun r hr b _ hb => .inr (.inl ⟨_, List.mem_singleton.2 rfl, .inr ⟨hb.1, hb.2.set⟩⟩);have e1 : Yb φ' (Yh hs (Yd2 hs)) = Yb φ (Yh hs (Yd2 hs)) := by
    rw [Ye1 h2.nd hdead];exact Ysn hagW hfree
   rw [Yp, e1];refine h6.perm ?_;rw [<- List.append_assoc];exact List.perm_append_comm.append_right R
  ·rename_i hnb;have h6 := St.back (L1 := []) (L := Yb φ hs ++ R) (by simpa using hS) hres fun r hr b hz => absurd hz (Yzl hnb r hr b);have e1 : Yb φ hs = Yb φ' hs := (Ybx hagW hfree).symm;rw [e1] at h6;simp only [Yh];rw [Yp];refine h6.perm ?_;rw [<- List.append_assoc];exact List.perm_append_comm.append_right R
end
end Go.Proofs.Ytfbhampnigdaaaa
namespace Go.Proofs.Ytfbhampnigdaaaa
open Go.RowKit
attribute [local irreducible] Go.Oper.wp
section
variable [W : InW]
def delK : Heap -> Nat -> (Heap -> Prop) -> Prop
 | [], _, _ => Stuck 411
 | p :: h, i, K => match Nat.beq p.1 i with | true => K h | false => delK h i fun r => K (p :: r)
theorem Ygb {i : Nat} {x : It} : ∀ {h : Heap} {K : Heap -> Prop}, delK h i K -> look h i = some x -> ∃ h', K h' /\ h.Perm ((i, x) :: h')
 | [], _, h, _ => h.elim
 | p :: h, K, hk, hl => by
  unfold delK at hk;rw [Yr] at hl;cases hb : Nat.beq p.1 i with
  | true =>
   rw [hb] at hk;have e := Yd.1 hb;rw [if_pos e] at hl;cases hl;exact ⟨h, hk, by subst e; exact List.Perm.refl _⟩
  | false =>
   rw [hb] at hk;rw [if_neg (Y2.1 hb)] at hl;obtain ⟨h', h1, h2⟩ := Ygb hk hl;exact ⟨_, h1, (h2.cons p).trans (List.Perm.swap _ _ _)⟩
theorem Yjm {i : Nat} {x : It} : ∀ {h : Heap} {K : Heap -> Prop}, delK h i K -> look h i = some x -> ∃ h', K h' /\ h.Perm ((i, x) :: h') /\ h'.Sublist h
 | [], _, h, _ => h.elim
 | p :: h, K, hk, hl => by
  unfold delK at hk;rw [Yr] at hl;cases hb : Nat.beq p.1 i with
  | true =>
   rw [hb] at hk;have e := Yd.1 hb;rw [if_pos e] at hl;cases hl;exact ⟨h, hk, by subst e; exact List.Perm.refl _, List.sublist_cons_self _ _⟩
  | false =>
   rw [hb] at hk;rw [if_neg (Y2.1 hb)] at hl;obtain ⟨h', h1, h2, h3⟩ := Yjm hk hl;exact ⟨_, h1, (h2.cons p).trans (List.Perm.swap _ _ _), h3.cons_cons p⟩
theorem Ys1 {i : Nat} {x : It} : ∀ {h : Heap} {K : Heap -> Prop}, delK h i K -> look h i = some x -> ∃ h', K h' /\ h.Perm ((i, x) :: h') /\ ∀ k, k ≠ i -> look h' k = look h k
 | [], _, h, _ => h.elim
 | p :: h, K, hk, hl => by
  unfold delK at hk;rw [Yr] at hl;cases hb : Nat.beq p.1 i with
  | true =>
   rw [hb] at hk;have e := Yd.1 hb;rw [if_pos e] at hl;cases hl;exact ⟨h, hk, by subst e; exact List.Perm.refl _, fun k hk => by rw [Yr, if_neg (fun e2 => hk (by rw [<- e2, e]))]⟩
  | false =>
   rw [hb] at hk;rw [if_neg (Y2.1 hb)] at hl;obtain ⟨h', h1, h2, h3⟩ := Ys1 hk hl;exact ⟨_, h1, (h2.cons p).trans (List.Perm.swap _ _ _), fun k hk => by rw [Yr, Yr, h3 k hk]⟩
theorem Yoj {a h n r : RL} : (a ++ ((h ++ n) ++ r)).Perm (h ++ (a ++ (n ++ r))) := by
 simp only [<- List.append_assoc];exact (List.perm_append_comm.append_right n).append_right r
theorem Yp8 {x : Res} {a r : RL} : ([x] ++ (a ++ r)).Perm (a ++ ([x] ++ r)) := by simpa using List.perm_middle.symm
def Y2r : Heap -> Heap -> (Heap -> Prop) -> Prop
 | nw, [], K => K nw
 | nw, p :: hs, K => delK nw p.1 fun nw => Y2r nw hs K
theorem Yjl : ∀ {hs nw : Heap} {K : Heap -> Prop}, PartOf hs nw -> Y2r nw hs K -> ∃ nw', K nw' /\ nw.Perm (hs ++ nw')
 | [], nw, K, _, h => ⟨nw, h, List.Perm.refl _⟩
 | p :: hs, nw, K, hp, h => by
  obtain ⟨nw1, h1, h2, h3⟩ := Ys1 h (hp.all p List.mem_cons_self);have hnd := hp.nd;simp only [keys, List.map_cons, List.nodup_cons] at hnd;obtain ⟨nw2, h4, h5⟩ := Yjl ⟨hnd.2, fun q hq => by
   rw [h3 q.1 (fun e => hnd.1 (by rw [<- e]; exact List.mem_map_of_mem hq))];exact hp.all q (List.mem_cons_of_mem _ hq)⟩ h1
  exact ⟨nw2, h4, h2.trans (h5.cons p)⟩
def RTy.isRow : RTy -> Bool
 | .row _ _ => true
 | .nst _ _ => true
 | .fro _ => true
 | _ => false
def rcK (t : RTy) (x : AV) (nw : Heap) (K : Cl -> Heap -> Prop) : Prop :=
 match t with
 | .int k => clK (.int k) x fun c => K c nw
 | .bool => clK .bool x fun c => K c nw
 | .str => clK .str x fun c => K c nw
 | .row T ts => (match x with
  | .v (.slice none 0 0) => K (.l []) nw
  | .rw id => Yv nw id fun it => (match it with
   | .arr T' ts' xs => Yc (Nat.beq T' T && Yb4.sameTs ts' ts && Nat.ble 1 ts.length) (delK nw id fun nw => K (.l xs) nw)
   | _ => Stuck 412)
  | .rwp id sz l n => Yv nw id fun it => (match it with
   | .arr T' ts' xs => Yc (Nat.beq T' T && Yb4.sameTs ts' ts && Nat.ble 1 ts.length && Nat.beq l 0) (Need (decide (n <= xs.length)) (delK nw id fun nw => K (.l (xs.take n)) nw))
   | _ => Stuck 415)
  | .sl id 0 0 n => Yv nw id fun it => (match it with
   | .row T' sz n' cs => Yc (Nat.beq T' T && Nat.beq sz ts.length && Nat.beq n' n) (Yru ts n cs fun ys => delK nw id fun nw => K (.l ys) nw)
   | _ => Stuck 413)
  | _ => Stuck 414)
 | .fro ts => Ys2 4 (.sl ts) x nw [] fun hs c => Y2r nw hs fun nw => K c nw
 | .nst T ts => (match x with
  | .v (.slice none 0 0) => K (.l []) nw
  | .rw id => Yv nw id fun it => (match it with
   | .nst T' ts' xs => Yc (Nat.beq T' T && Ybv 9 (.sl ts') (.sl ts)) (delK nw id fun nw => K (.l xs) nw)
   | _ => Stuck 412)
  | .sl id 0 0 n => Yv nw id fun it => (match it with
   | .row T' sz n' cs => Yc (Nat.beq T' T && Nat.beq sz ts.length && Nat.beq n' n && Nat.ble 1 ts.length) (Y1x (Ys2 4) ts n cs nw [] fun hs ys => Yc (Ych.disjB hs [(id, .row T' sz n' cs)]) (Y2r nw ((id, .row T' sz n' cs) :: hs) fun nw => K (.l ys) nw))
   | _ => Stuck 413)
  | _ => Stuck 414)
theorem Yw1 {w : World} {T sz m n c : Nat} {A : Option Addr} {vs us : List Value} (h : w.ownsRow 0 T sz (.slice A m c) m vs) (hn : n <= m) (hu : us = vs.take (n * sz)) : w.ownsRow 0 T sz (.slice A n c) n us := by
 have hl := h.1;have hm : n * sz <= m * sz := Nat.mul_le_mul_right _ hn;refine ⟨by rw [hu, List.length_take, hl]; omega, ?_⟩;rcases h.2 with ⟨h0, h1⟩ | ⟨g, cap, cur, hv, h1, h2, h3, h4, h5, h6⟩
 ·injection h0 with h7 h8 h9
  exact .inl ⟨by rw [h7, h9, show n = 0 by omega], by omega⟩
 ·injection hv with h7 h8 h9
  refine .inr ⟨g, cap, cur, by rw [h7, h9], h1, h2, by omega, h4, h5, ?_⟩;rw [hu, <- h6, List.take_take, Nat.min_eq_left hm]
theorem Y10 {d j : Nat} {t : RTy} {x : AV} {nw : Heap} {K : Cl -> Heap -> Prop} (h : rcK t x nw K) : ∃ c nw', K c nw' /\
  ∀ (φ : Phi) (w0 : World) (M : List Nat) (A R : RL) (w : World), St w0 M (A ++ (Yb φ nw ++ R)) w -> ∃ hd : Hd, ∀ φ' : Phi, (t.isRow = true -> φ' (Yb2 d j) = hd) -> (t.av d j c).conc φ' = x.conc φ /\ St w0 M (A ++ (Yb φ' (t.hp d j c) ++ (Yb φ nw' ++ R))) w := by
 unfold rcK at h;have plain : ∀ (ty : Ty) (c : Cl), (∀ φ, x.conc φ = ty.val c) -> (∀ φ' : Phi, (t.av d j c).conc φ' = ty.val c) -> t.hp d j c = [] -> ∀ (φ : Phi) (w0 : World) (M : List Nat) (A R : RL) (w : World), St w0 M (A ++ (Yb φ nw ++ R)) w -> ∃ hd : Hd, ∀ φ' : Phi, (t.isRow = true -> φ' (Yb2 d j) = hd) -> (t.av d j c).conc φ' = x.conc φ /\ St w0 M (A ++ (Yb φ' (t.hp d j c) ++ (Yb φ nw ++ R))) w :=
  fun ty c h1 h2 h3 φ w0 M A R w hS => ⟨⟨0, true, 0, none, 0, undef, fun _ => False⟩, fun φ' _ => ⟨by rw [h1 φ, h2 φ'], by rw [h3]; exact hS⟩⟩
 have perm3 : ∀ {r : Res} {A L R : RL} {w0 w : World} {M : List Nat}, St w0 M (A ++ ((r :: L) ++ R)) w -> St w0 M (A ++ ([r] ++ (L ++ R))) w := fun h => by simpa using h
 split at h
 ·obtain ⟨c, h1, h2, _⟩ := Ykp h;exact ⟨c, nw, h1, plain _ c h2 (fun φ' => rfl) rfl⟩
 ·obtain ⟨c, h1, h2, _⟩ := Ykp h;exact ⟨c, nw, h1, plain _ c h2 (fun φ' => rfl) rfl⟩
 ·obtain ⟨c, h1, h2, _⟩ := Ykp h;exact ⟨c, nw, h1, plain _ c h2 (fun φ' => rfl) rfl⟩
 ·rename_i T ts
  split at h
  ·refine ⟨_, nw, h, fun φ w0 M A R w hS => ⟨⟨0, true, 0, none, 0, undef, fun _ => False⟩, fun φ' he' => ?_⟩⟩;have he := he' rfl;refine ⟨by simp only [RTy.av, AV.conc, he]; rfl, ?_⟩;have h1 := hS.add (Ext.refl _) (r := .row (.slice none 0 0) T ts.length 0 []) ⟨by simp, .inl ⟨rfl, rfl⟩⟩ (by simp [Res.foot, Value.ownBlock]);simp only [RTy.hp, Yb, List.map_cons, List.map_nil, It.conc, he];exact h1.perm (by simp only [if_true, Cl.lst, Yj, List.cons_append, List.nil_append]; exact List.perm_middle.symm)
  ·rename_i id;obtain ⟨it, hl, h0⟩ := Yf h
   split at h0
   ·rename_i T' ts' xs;obtain ⟨h1, h2⟩ := Ya h0;simp only [Bool.and_eq_true, Yd, Nat.ble_eq] at h1;obtain ⟨⟨rfl, h12⟩, h13⟩ := h1;obtain ⟨rfl, _⟩ := Y6 h12;obtain ⟨nw', h3, h4⟩ := Ygb h2 hl;refine ⟨_, nw', h3, fun φ w0 M A R w hS => ⟨φ id, fun φ' he' => ?_⟩⟩;have he := he' rfl;refine ⟨by simp only [RTy.av, AV.conc, he], ?_⟩;have h5 : St w0 M (A ++ (Yb φ ((id, .arr T' ts' xs) :: nw') ++ R)) w := hS.perm ((((Yu h4).append_right R)).append_left A);simp only [RTy.hp, Yb, List.map_cons, List.map_nil, It.conc, he, Cl.lst];exact perm3 h5
   ·exact h0.elim
  ·rename_i id sz l n;obtain ⟨it, hl, h0⟩ := Yf h
   split at h0
   ·rename_i T' ts' xs;obtain ⟨h1, h2⟩ := Ya h0;simp only [Bool.and_eq_true, Yd, Nat.ble_eq] at h1;obtain ⟨⟨⟨rfl, h12⟩, h13⟩, rfl⟩ := h1;obtain ⟨rfl, _⟩ := Y6 h12;obtain ⟨h21, h22⟩ := h2;have h21 := of_decide_eq_true h21;obtain ⟨nw', h3, h4⟩ := Ygb h22 hl;refine ⟨_, nw', h3, fun φ w0 M A R w hS => ⟨{ φ id with fn := n }, fun φ' he' => ?_⟩⟩;have he := he' rfl;refine ⟨by rw [Yfr]; simp only [RTy.av, AV.conc, he], ?_⟩;have h5 : St w0 M (A ++ (Yb φ ((id, .arr T' ts' xs) :: nw') ++ R)) w := hS.perm ((((Yu h4).append_right R)).append_left A);have h6 : St w0 M ([(It.arr T' ts' xs).conc φ id] ++ (A ++ (Yb φ nw' ++ R))) w := h5.perm (by
     simp only [Yb, List.map_cons, List.cons_append, List.singleton_append];exact List.perm_middle)
    have h7 := h6.repack (L2 := [.row (.slice (if (φ id).nil then none else some ⟨(φ id).b, 0, none⟩) n (φ id).c) T' ts'.length n (Yj ts' (xs.take n))]) ?_ ?_ ?_ (by simp)
    ·simp only [RTy.hp, Yb, List.map_cons, List.map_nil, It.conc, he, Cl.lst];exact h7.perm Yp8
    ·intro r hr';rw [List.mem_singleton] at hr';subst hr';have hrow : w.ownsRow 0 T' ts'.length (.slice (if (φ id).nil then none else some ⟨(φ id).b, 0, none⟩) (φ id).fn (φ id).c) (φ id).fn (Yj ts' xs) := h6.row Look.head;have hfn := Y3t (by omega) h6;exact Yw1 hrow (by omega) (by rw [Yeu _ _ _ h21])
    ·intro r hr' b hb;rw [List.mem_singleton] at hr';subst hr';exact ⟨_, List.mem_singleton.2 rfl, by cases hnil : (φ id).nil <;> simp [It.conc, Res.foot, Value.ownBlock, hnil] at hb ⊢ <;> exact hb⟩
    ·intro r hr' b hb;rw [List.mem_singleton] at hr';subst hr';exact hb.elim
   ·exact h0.elim
  ·rename_i id n;obtain ⟨it, hl, h0⟩ := Yf h
   split at h0
   ·rename_i T' sz n' cs;obtain ⟨h1, h2⟩ := Ya h0;simp only [Bool.and_eq_true, Yd] at h1;obtain ⟨⟨rfl, rfl⟩, rfl⟩ := h1;obtain ⟨ys, h3, h4, h5, _⟩ := Yc5 h2;obtain ⟨nw', h6, h7⟩ := Ygb h3 hl;refine ⟨_, nw', h6, fun φ w0 M A R w hS => ⟨{ φ id with fn := n' }, fun φ' he' => ?_⟩⟩;have he := he' rfl;refine ⟨by simp [RTy.av, AV.conc, he], ?_⟩;have h8 : St w0 M (A ++ (Yb φ ((id, .row T' ts.length n' cs) :: nw') ++ R)) w := hS.perm ((((Yu h7).append_right R)).append_left A);simp only [RTy.hp, Yb, List.map_cons, List.map_nil, It.conc, he, Cl.lst] at h8 ⊢;rw [<- h5 φ];exact perm3 h8
   ·exact h0.elim
  ·exact h.elim
 ·rename_i ts;obtain ⟨hs, c, h1, h2, _, hcan, h3⟩ := Ydv 4 _ _ _ _ _ h (.nil _);obtain ⟨ys, rfl⟩ := hcan;obtain ⟨nw', h4, h5⟩ := Yjl h2 h1;refine ⟨_, nw', h4, fun φ w0 M A R w hS => ⟨⟨0, false, 0, none, 0, x.conc φ, fun b => b < w.heap.size /\ InB φ hs b⟩, fun φ' he' => ?_⟩⟩;have he := he' rfl;refine ⟨by simp only [RTy.av, AV.conc, he], ?_⟩;have h6 : St w0 M (Yb φ hs ++ (A ++ (Yb φ nw' ++ R))) w := hS.perm (by
   refine (((Yu h5).append_right R).append_left A).trans ?_;rw [Yp];exact Yoj)
  have hr := h3 φ w0 M _ w h6 Yde;have h7 := h6.repack (L2 := [Res.fro (x.conc φ) ts ys fun b => b < w.heap.size /\ InB φ hs b]) ?_ ?_ ?_ (by simp)
  ·have e : Yb φ' ((RTy.fro ts).hp d j (.l ys)) = [Res.fro (x.conc φ) ts ys fun b => b < w.heap.size /\ InB φ hs b] := by simp only [RTy.hp, Yb, List.map_cons, List.map_nil, It.conc, he, Cl.lst]
   rw [e];exact h7.perm Yp8
  ·intro r hr';rw [List.mem_singleton] at hr';subst hr';exact Ymk (fun b hb => hb.1) (RdV.grow hr (fun b h1 h2 => ⟨h1, h1, h2⟩) fun _ _ _ => rfl)
  ·intro r hr' b hb;rw [List.mem_singleton] at hr';subst hr';simp [Res.fro, Res.foot] at hb
  ·intro r hr' b hb;rw [List.mem_singleton] at hr';subst hr';rcases hb.2 with h8 | ⟨p, hp, h8⟩
   ·exact .inl h8
   ·exact .inr ⟨_, List.mem_map.2 ⟨p, hp, rfl⟩, h8⟩
 ·rename_i T ts
  split at h
  ·refine ⟨_, nw, h, fun φ w0 M A R w hS => ⟨⟨0, true, 0, none, 0, undef, fun _ => False⟩, fun φ' he' => ?_⟩⟩;have he := he' rfl;refine ⟨by simp only [RTy.av, AV.conc, he]; rfl, ?_⟩;have h1 := hS.add (Ext.refl _) (r := Res.nst (.slice none 0 0) T ts 0 [] fun _ => False) (Yh5 (fun b hb => hb.elim) (fun b hb hz => hz) ⟨rfl, [], ⟨by simp, .inl ⟨rfl, rfl⟩⟩, fun i k t hi => by simp at hi⟩) (by simp [Res.nst, Res.foot, Value.ownBlock]) (fun b hb => hb.elim);simp only [RTy.hp, Yb, List.map_cons, List.map_nil, It.conc, he];exact h1.perm (by simp only [if_true, Cl.lst, List.cons_append, List.nil_append]; exact List.perm_middle.symm)
  ·rename_i id;obtain ⟨it, hl, h0⟩ := Yf h
   split at h0
   ·rename_i T' ts' xs;obtain ⟨h1, h2⟩ := Ya h0;simp only [Bool.and_eq_true, Yd] at h1;obtain ⟨rfl, h12⟩ := h1;have e := Y3 _ _ _ h12;simp only [Ty.sl.injEq] at e;subst e;obtain ⟨nw', h3, h4⟩ := Ygb h2 hl;refine ⟨_, nw', h3, fun φ w0 M A R w hS => ⟨φ id, fun φ' he' => ?_⟩⟩;have he := he' rfl;refine ⟨by simp only [RTy.av, AV.conc, he], ?_⟩;have h5 : St w0 M (A ++ (Yb φ ((id, .nst T' ts' xs) :: nw') ++ R)) w := hS.perm ((((Yu h4).append_right R)).append_left A);simp only [RTy.hp, Yb, List.map_cons, List.map_nil, It.conc, he, Cl.lst];exact perm3 h5
   ·exact h0.elim
  ·rename_i id n;obtain ⟨it, hl, h0⟩ := Yf h
   split at h0
   ·rename_i T' sz n' cs;obtain ⟨h1, h2⟩ := Ya h0;simp only [Bool.and_eq_true, Yd, Nat.ble_eq] at h1;obtain ⟨⟨⟨rfl, rfl⟩, rfl⟩, h14⟩ := h1;obtain ⟨hs, ys, h3, h4, _, h5, h6⟩ := Yi2 (Ydv 4) h2 (.nil _);obtain ⟨h7, h8⟩ := Ya h3;have hpart := h4.cons hl (Yce h7);obtain ⟨nw', h9, h10⟩ := Yjl hpart h8;refine ⟨_, nw', h9, fun φ w0 M A R w hS => ⟨{ φ id with fn := n', F := fun b => b < w.heap.size /\ InB φ hs b }, fun φ' he' => ?_⟩⟩;have he := he' rfl;refine ⟨by simp [RTy.av, AV.conc, he], ?_⟩;have h11 : St w0 M (Yb φ ((id, It.row T' ts.length n' cs) :: hs) ++ (A ++ (Yb φ nw' ++ R))) w := hS.perm (by
     refine (((Yu h10).append_right R).append_left A).trans ?_;rw [Yp];exact Yoj)
    have hrow : w.ownsRow 0 T' ts.length (.slice (if (φ id).nil then none else some ⟨(φ id).b, 0, none⟩) n' (φ id).c) n' (AV.concL φ cs) := h11.look Look.head;have hin : ∀ p ∈ hs, p.2.conc φ p.1 ∈ Yb φ ((id, It.row T' ts.length n' cs) :: hs) ++ (A ++ (Yb φ nw' ++ R)) := fun p hp => Yde p (List.mem_cons_of_mem _ hp);have hrd : RowsRd w (fun b => b < w.heap.size /\ InB φ hs b) ts (AV.concL φ cs) ys := fun i k t hi ht => by
     obtain ⟨y, y1, y2⟩ := h6 i k t (by omega) ht;exact ⟨_, by rw [Ycb, y1]; rfl, RdV.grow (y2 φ w0 M _ w h11 hin) (fun b h1 h2 => ⟨h1, h1, h2⟩) fun _ _ _ => rfl⟩
    have h7' := h11.repack (L2 := [Res.nst (.slice (if (φ id).nil then none else some ⟨(φ id).b, 0, none⟩) n' (φ id).c) T' ts n' ys fun b => b < w.heap.size /\ InB φ hs b]) ?_ ?_ ?_ (by simp)
    ·have e : Yb φ' ((RTy.nst T' ts).hp d j (.l ys)) = [Res.nst (.slice (if (φ id).nil then none else some ⟨(φ id).b, 0, none⟩) n' (φ id).c) T' ts n' ys fun b => b < w.heap.size /\ InB φ hs b] := by simp only [RTy.hp, Yb, List.map_cons, List.map_nil, It.conc, he, Cl.lst]
     rw [e];exact h7'.perm Yp8
    ·intro r hr';rw [List.mem_singleton] at hr';subst hr';refine Yh5 (fun b hb => hb.1) (fun b hb hz => ?_) ⟨h5, _, hrow, hrd⟩;have hsep := (List.pairwise_append.1 h11.sep).1;rcases hz.2 with h12 | ⟨p, hp, h12⟩
     ·exact h11.farF (x := (It.row T' ts.length n' cs).conc φ id) (Yde (hs := (id, It.row T' ts.length n' cs) :: hs) _ List.mem_cons_self) hb h12
     ·exact ((List.pairwise_cons.1 (show ((It.row T' ts.length n' cs).conc φ id :: Yb φ hs).Pairwise apart from hsep)).1 _ (List.mem_map.2 ⟨p, hp, rfl⟩)).1 b hb h12
    ·intro r hr' b hb;rw [List.mem_singleton] at hr';subst hr';exact ⟨(It.row T' ts.length n' cs).conc φ id, List.mem_cons_self, hb⟩
    ·intro r hr' b hb;rw [List.mem_singleton] at hr';subst hr';rcases hb.2 with h8 | ⟨p, hp, h8⟩
     ·exact .inl h8
     ·exact .inr ⟨_, List.mem_cons_of_mem _ (List.mem_map.2 ⟨p, hp, rfl⟩), h8⟩
   ·exact h0.elim
  ·exact h.elim
def rcsK : List RTy -> List AV -> Heap -> (List Cl -> Heap -> Prop) -> Prop
 | [], [], nw, K => K [] nw
 | t :: ts, x :: xs, nw, K => rcK t x nw fun c nw => rcsK ts xs nw fun cs nw => K (c :: cs) nw
 | _, _, _, _ => Stuck 415
def Hds (φ' : Phi) (d : Nat) : Nat -> List RTy -> List Hd -> Prop
 | _, [], _ => True
 | j, t :: ts, hds => (t.isRow = true -> some (φ' (Yb2 d j)) = hds.head?) /\ Hds φ' d (j + 1) ts hds.tail
theorem Hds.app {φ' : Phi} {d : Nat} {b : List RTy} {hb : List Hd} : ∀ {j : Nat} {a : List RTy} {ha : List Hd}, ha.length = a.length -> Hds φ' d j (a ++ b) (ha ++ hb) -> Hds φ' d j a ha /\ Hds φ' d (j + a.length) b hb
 | j, [], [], _, h => ⟨trivial, h⟩
 | j, t :: a, hd :: ha, hl, h => by
  obtain ⟨h1, h2⟩ := h;obtain ⟨h3, h4⟩ := Hds.app (j := j + 1) (a := a) (ha := ha) (by simpa using hl) h2;exact ⟨⟨h1, h3⟩, by rw [List.length_cons, show j + (a.length + 1) = j + 1 + a.length by omega]; exact h4⟩
 | j, [], _ :: _, hl, _ => by simp at hl
 | j, _ :: _, [], hl, _ => by simp at hl
def Yes (φ : Phi) (d : Nat) : Nat -> List RTy -> List Hd -> Phi
 | _, [], _ => φ
 | j, t :: ts, hds => fun i => if t.isRow = true /\ i = Yb2 d j then (match hds.head? with | some hd => hd | none => φ i) else Yes φ d (j + 1) ts hds.tail i
theorem Yzj {d j k : Nat} (hd : d < 1024) (h : Yb2 d j = Yb2 d k) : j = k := by unfold Yb2 at h; omega
theorem Yie {φ : Phi} {d : Nat} (hd : d < 1024) : ∀ {ts : List RTy} {j : Nat} {hds : List Hd}, hds.length = ts.length -> Hds (Yes φ d j ts hds) d j ts hds
 | [], _, _, _ => trivial
 | t :: ts, j, [], hl => by simp at hl
 | t :: ts, j, x :: hds, hl => by
  refine ⟨fun ht => by simp [Yes, ht], ?_⟩;have key : ∀ {φ1 φ2 : Phi} {us : List RTy} {m : Nat} {hs : List Hd}, (∀ k, m <= k -> φ1 (Yb2 d k) = φ2 (Yb2 d k)) -> Hds φ2 d m us hs -> Hds φ1 d m us hs := by
   intro φ1 φ2 us
   induction us with
   | nil => intro m hs _ _; trivial
   | cons u us ih => intro m hs he hh; exact ⟨fun hu => by rw [he m (Nat.le_refl _)]; exact hh.1 hu, ih (fun k hk => he k (by omega)) hh.2⟩
  refine key (fun k hk => ?_) (Yie (φ := φ) hd (j := j + 1) (hds := hds) (by simpa using hl))
  show (if t.isRow = true /\ Yb2 d k = Yb2 d j then _ else _) = _
  rw [if_neg (fun hh => by have := Yzj hd hh.2; omega)];rfl
theorem Yhz {d : Nat} : ∀ {ts : List RTy} {xs : List AV} {j : Nat} {nw : Heap} {K : List Cl -> Heap -> Prop}, rcsK ts xs nw K -> ∃ cs nw', K cs nw' /\
  ∀ (φ : Phi) (w0 : World) (M : List Nat) (A R : RL) (w : World), St w0 M (A ++ (Yb φ nw ++ R)) w -> ∃ hds : List Hd, hds.length = ts.length /\ ∀ φ' : Phi, Hds φ' d j ts hds -> AV.concL φ' (Yda d j ts cs) = AV.concL φ xs /\ St w0 M (A ++ (Yb φ' (Ybi d j ts cs) ++ (Yb φ nw' ++ R))) w
 | [], [], j, nw, K, h => ⟨[], nw, h, fun φ w0 M A R w hS => ⟨[], rfl, fun φ' _ => ⟨rfl, by simpa [Ybi, Yb] using hS⟩⟩⟩
 | t :: ts, x :: xs, j, nw, K, h => by
  obtain ⟨c, nw1, h1, h2⟩ := Y10 (d := d) (j := j) h;obtain ⟨cs, nw2, h3, h4⟩ := Yhz (d := d) (j := j + 1) h1;refine ⟨c :: cs, nw2, h3, fun φ w0 M A R w hS => ?_⟩;obtain ⟨hd, k1⟩ := h2 φ w0 M A R w hS;have k1' := (k1 (fun i => if i = Yb2 d j then hd else φ i) (by simp)).2;obtain ⟨hds, k2, k3⟩ := h4 φ w0 M (A ++ Yb (fun i => if i = Yb2 d j then hd else φ i) (t.hp d j c)) R w (by rw [List.append_assoc]; exact k1');refine ⟨hd :: hds, by simp [k2], fun φ' hφ => ?_⟩;obtain ⟨a1, a2⟩ := k3 φ' hφ.2;have hh : t.isRow = true -> φ' (Yb2 d j) = hd := fun ht => Option.some.inj (hφ.1 ht);obtain ⟨b1, _⟩ := k1 φ' hh;have e : Yb (fun i => if i = Yb2 d j then hd else φ i) (t.hp d j c) = Yb φ' (t.hp d j c) := by
   cases t with
   | nst T ts => have := hh rfl; simp [RTy.hp, Yb, It.conc, this]
   | fro ts => have := hh rfl; simp [RTy.hp, Yb, It.conc, this]
   | row T ts => have := hh rfl; simp [RTy.hp, Yb, It.conc, this]
   | _ => rfl
  rw [e, List.append_assoc] at a2;refine ⟨by simp only [Yda, AV.concL, List.headD_cons, List.tail_cons, a1, b1], ?_⟩;simp only [Ybi, List.headD_cons, List.tail_cons, Yp, List.append_assoc] at a2 ⊢;exact a2
 | [], _ :: _, _, _, _, h => h.elim
 | _ :: _, [], _, _, _, h => h.elim
def Y1y (g : Bool) (ts : List RTy) (x : AV) (nw : Heap) (K : List Cl -> Heap -> Prop) : Prop :=
 match g with
 | false => rcsK ts [x] nw K
 | true => (match x with | .agg xs => rcsK ts xs nw K | .v (.agg cs) => Yqc cs.toList fun xs => rcsK ts xs nw K | _ => Stuck 416)
def Yrv : RTs -> List AV -> Heap -> (DS -> Heap -> Prop) -> Prop
 | [], [], nw, K => K [] nw
 | (g, ts) :: rs, x :: xs, nw, K => Y1y g ts x nw fun d nw => Yrv rs xs nw fun ds nw => K (d :: ds) nw
 | _, _, _, _ => Stuck 417
def Yji : RTs -> List RTy
 | [] => []
 | (_, ts) :: rs => ts ++ Yji rs
theorem Yw2 {d j : Nat} {g : Bool} {ts : List RTy} {x : AV} {nw : Heap} {K : List Cl -> Heap -> Prop} (h : Y1y g ts x nw K) : ∃ cs nw', K cs nw' /\
  ∀ (φ : Phi) (w0 : World) (M : List Nat) (A R : RL) (w : World), St w0 M (A ++ (Yb φ nw ++ R)) w -> ∃ hds : List Hd, hds.length = ts.length /\ ∀ φ' : Phi, Hds φ' d j ts hds ->
   (match g with | true => AV.agg (Yda d j ts cs) | false => Yza (Yda d j ts cs)).conc φ' = x.conc φ /\ St w0 M (A ++ (Yb φ' (Ybi d j ts cs) ++ (Yb φ nw' ++ R))) w := by
 unfold Y1y at h;cases g with
 | false =>
  obtain ⟨cs, nw', h1, h2⟩ := Yhz (d := d) (j := j) h;refine ⟨cs, nw', h1, fun φ w0 M A R w hS => ?_⟩;obtain ⟨hds, h3, h4⟩ := h2 φ w0 M A R w hS;refine ⟨hds, h3, fun φ' hφ => ?_⟩;obtain ⟨a1, a2⟩ := h4 φ' hφ;refine ⟨?_, a2⟩
  match hc : Yda d j ts cs with
  | [y] => rw [hc] at a1; simpa [AV.concL, Yza] using a1
  | [] => rw [hc] at a1; simp [AV.concL] at a1
  | _ :: _ :: _ => rw [hc] at a1; simp [AV.concL] at a1
 | true =>
  dsimp only at h
  split at h
  ·obtain ⟨cs, nw', h1, h2⟩ := Yhz (d := d) (j := j) h;refine ⟨cs, nw', h1, fun φ w0 M A R w hS => ?_⟩;obtain ⟨hds, h3, h4⟩ := h2 φ w0 M A R w hS;exact ⟨hds, h3, fun φ' hφ => ⟨by simp only [AV.conc, (h4 φ' hφ).1], (h4 φ' hφ).2⟩⟩
  ·obtain ⟨cs, nw', h1, h2⟩ := Yhz (d := d) (j := j) (Yd1.1 h);refine ⟨cs, nw', h1, fun φ w0 M A R w hS => ?_⟩;obtain ⟨hds, h3, h4⟩ := h2 φ w0 M A R w hS;exact ⟨hds, h3, fun φ' hφ => ⟨by simp [AV.conc, (h4 φ' hφ).1, Yt, Function.comp_def], (h4 φ' hφ).2⟩⟩
  ·exact h.elim
theorem Ylo {d : Nat} (hd1 : d < 1024) : ∀ {rs : RTs} {xs : List AV} {j : Nat} {nw : Heap} {K : DS -> Heap -> Prop}, Yrv rs xs nw K -> ∃ ds nw', K ds nw' /\
  ∀ (φ : Phi) (w0 : World) (M : List Nat) (A R : RL) (w : World), St w0 M (A ++ (Yb φ nw ++ R)) w -> ∃ hds : List Hd, hds.length = (Yji rs).length /\ ∀ φ' : Phi, Hds φ' d j (Yji rs) hds -> AV.concL φ' (Ylr d j rs ds) = AV.concL φ xs /\ St w0 M (A ++ (Yb φ' (Ydi d j rs ds) ++ (Yb φ nw' ++ R))) w
 | [], [], j, nw, K, h => ⟨[], nw, h, fun φ w0 M A R w hS => ⟨[], rfl, fun φ' _ => ⟨rfl, by simpa [Ydi, Yb] using hS⟩⟩⟩
 | (g, ts) :: rs, x :: xs, j, nw, K, h => by
  obtain ⟨c, nw1, h1, h2⟩ := Yw2 (d := d) (j := j) h;obtain ⟨cs, nw2, h3, h4⟩ := Ylo hd1 (j := j + ts.length) h1;refine ⟨c :: cs, nw2, h3, fun φ w0 M A R w hS => ?_⟩;obtain ⟨hds, k0, k1⟩ := h2 φ w0 M A R w hS;have k1' := (k1 (Yes φ d j ts hds) (Yie hd1 k0)).2;obtain ⟨hds2, m0, m1⟩ := h4 φ w0 M (A ++ Yb (Yes φ d j ts hds) (Ybi d j ts c)) R w (by rw [List.append_assoc]; exact k1');refine ⟨hds ++ hds2, by simp [k0, m0, Yji], fun φ' hφ => ?_⟩;obtain ⟨hl, hr⟩ := Hds.app (a := ts) (b := Yji rs) k0 hφ;obtain ⟨a1, a2⟩ := m1 φ' hr;obtain ⟨b1, b2⟩ := k1 φ' hl;have e : Yb (Yes φ d j ts hds) (Ybi d j ts c) = Yb φ' (Ybi d j ts c) := by
   have key : ∀ (φ1 : Phi) (ts : List RTy) (j : Nat) (hds : List Hd) (c : List Cl), hds.length = ts.length -> Hds φ1 d j ts hds -> Hds φ' d j ts hds -> Yb φ1 (Ybi d j ts c) = Yb φ' (Ybi d j ts c) := by
    intro φ1 ts
    induction ts with
    | nil => intro j hds c _ _ _; rfl
    | cons t ts ih =>
     intro j hds c hl h1 h2;cases hds with
     | nil => simp at hl
     | cons hd hds =>
      simp only [Ybi, Yp, ih (j + 1) hds c.tail (by simpa using hl) h1.2 h2.2]
      congr 1
      cases t with
      | nst T ts =>
       have e1 : φ1 (Yb2 d j) = hd := Option.some.inj (h1.1 rfl);have e2 : φ' (Yb2 d j) = hd := Option.some.inj (h2.1 rfl);simp [RTy.hp, Yb, It.conc, e1, e2]
      | fro ts =>
       have e1 : φ1 (Yb2 d j) = hd := Option.some.inj (h1.1 rfl);have e2 : φ' (Yb2 d j) = hd := Option.some.inj (h2.1 rfl);simp [RTy.hp, Yb, It.conc, e1, e2]
      | row T ts =>
       have e1 : φ1 (Yb2 d j) = hd := Option.some.inj (h1.1 rfl);have e2 : φ' (Yb2 d j) = hd := Option.some.inj (h2.1 rfl);simp [RTy.hp, Yb, It.conc, e1, e2]
      | _ => rfl
   exact key _ ts j hds c k0 (Yie hd1 k0) hl
  rw [e, List.append_assoc] at a2;refine ⟨?_, ?_⟩
  ·simp only [Ylr, AV.concL, List.headD_cons, List.tail_cons, a1];cases g <;> simp_all
  ·simp only [Ydi, List.headD_cons, List.tail_cons, Yp, List.append_assoc] at a2 ⊢;exact a2
 | [], _ :: _, _, _, _, h => h.elim
 | _ :: _, [], _, _, _, h => h.elim
theorem Ysm {φ : Phi} {d : Nat} (hd1 : d < 1024) (rs : RTs) (ds : DS) : ∀ (hds : List Hd), Agree (keys (Ydi d 0 rs ds)) φ (Yes φ d 0 (Yji rs) hds) := by
 have cells : ∀ (ts : List RTy) (j : Nat) (cs : List Cl) (us : List RTy) (hds : List Hd) (i : Nat), i ∉ keys (Ybi d j ts cs) -> Yes φ d (j + ts.length) us (hds.drop ts.length) i = φ i -> Yes φ d j (ts ++ us) hds i = φ i := by
  intro ts
  induction ts with
  | nil => intro j cs us hds i _ h; simpa using h
  | cons t ts ih =>
   intro j cs us hds i hi h;simp only [Ybi, Ybk, List.mem_append, not_or] at hi;simp only [List.cons_append, Yes];rw [if_neg]
   ·refine ih (j + 1) cs.tail us hds.tail i hi.2 ?_;rw [show j + 1 + ts.length = j + (t :: ts).length by simp; omega];simpa [List.drop_tail] using h
   ·rintro ⟨h1, h2⟩;cases t <;> simp [RTy.isRow] at h1
    all_goals exact hi.1 (by simp [RTy.hp, keys, h2])
 have all : ∀ (rs : RTs) (j : Nat) (ds : DS) (hds : List Hd) (i : Nat), i ∉ keys (Ydi d j rs ds) -> Yes φ d j (Yji rs) hds i = φ i := by
  intro rs
  induction rs with
  | nil => intro j ds hds i _; rfl
  | cons r rs ih =>
   intro j ds hds i hi;obtain ⟨g, ts⟩ := r;simp only [Ydi, Ybk, List.mem_append, not_or] at hi;exact cells ts j _ _ hds i hi.1 (ih _ _ _ i hi.2)
 exact fun hds i hi => all rs 0 ds hds i hi
theorem Yy6 {φ φ' : Phi} {xs ys : List AV} (h : AV.concL φ xs = AV.concL φ' ys) : (outA xs).conc φ = (outA ys).conc φ' := by
 match xs, ys with
 | [], [] => rfl
 | [x], [y] =>
  show x.conc φ = y.conc φ'
  simpa [AV.concL] using h
 | _ :: _ :: _, _ :: _ :: _ => simp only [outA, AV.conc, h]
 | [], _ :: _ => simp [AV.concL] at h
 | _ :: _, [] => simp [AV.concL] at h
 | [_], _ :: _ :: _ => simp [AV.concL] at h
 | _ :: _ :: _, [_] => simp [AV.concL] at h
def Y2i (rs : RTs) (Q : DS -> Prop) (val : AV) (_hs us nw : Heap) : Prop :=
 match us with
 | [] => (match rs with
  | [(g, ts)] => Y1y g ts val nw fun d _ => Q [d]
  | _ => (match val with | .tup vs => (match vs with | [_] => Stuck 420 | vs => Yrv rs vs nw fun ds _ => Q ds) | _ => Stuck 418))
 | _ :: _ => Stuck 419
theorem Yxq {d : Nat} (hd1 : d < 1024) {rs : RTs} {Q : DS -> Prop} {val : AV} {hs us nw : Heap} (h : Y2i rs Q val hs us nw) : us = [] /\ ∃ ds, Q ds /\
  ∀ (φ : Phi) (w0 : World) (M : List Nat) (R : RL) (w : World), St w0 M (Yb φ nw ++ R) w -> ∃ hds : List Hd, hds.length = (Yji rs).length /\ ∀ φ' : Phi, Hds φ' d 0 (Yji rs) hds -> (Yyx d rs ds).conc φ' = val.conc φ /\ St w0 M (Yb φ' (Ydi d 0 rs ds) ++ R) w := by
 have fin : ∀ {vs : List AV}, (∀ φ, (outA vs).conc φ = val.conc φ) -> (Yrv rs vs nw fun ds _ => Q ds) -> ∃ ds, Q ds /\
  ∀ (φ : Phi) (w0 : World) (M : List Nat) (R : RL) (w : World), St w0 M (Yb φ nw ++ R) w -> ∃ hds : List Hd, hds.length = (Yji rs).length /\ ∀ φ' : Phi, Hds φ' d 0 (Yji rs) hds -> (Yyx d rs ds).conc φ' = val.conc φ /\ St w0 M (Yb φ' (Ydi d 0 rs ds) ++ R) w := by
  intro vs hv h;obtain ⟨ds, nw', h1, h2⟩ := Ylo hd1 (j := 0) h;refine ⟨ds, h1, fun φ w0 M R w hS => ?_⟩;obtain ⟨hds, h3, h4⟩ := h2 φ w0 M [] R w (by simpa using hS);refine ⟨hds, h3, fun φ' hφ => ?_⟩;obtain ⟨a1, a2⟩ := h4 φ' hφ;refine ⟨by rw [<- hv φ]; exact Yy6 a1, ?_⟩;simp only [List.nil_append] at a2;refine a2.sub ?_;exact (List.Sublist.refl _).append (List.sublist_append_right _ _)
 unfold Y2i at h
 split at h
 ·refine ⟨rfl, ?_⟩
  split at h
  ·rename_i g ts;exact fin (vs := [val]) (fun φ => rfl) (by unfold Yrv; exact h)
  ·split at h
   ·split at h
    ·exact h.elim
    ·rename_i vs _ hne;refine fin (vs := vs) (fun φ => ?_) h
     match vs with
     | [] => rfl
     | [v] => exact (hne v rfl).elim
     | _ :: _ :: _ => rfl
   ·exact h.elim
 ·exact h.elim
end
end Go.Proofs.Ytfbhampnigdaaaa
namespace Go.Proofs.Ytfbhampnigdaaaa
open Go.RowKit
attribute [local irreducible] Go.Oper.wp
abbrev Y43 (W : InW) := List (@AV W) -> @Heap W -> (@AX W -> List (@AV W) -> @Heap W -> Prop) -> Prop
structure LE (P : Program) where
 g : FuncId
 key : Nat
 f : (W : InW) -> Y43 W
 ok : ∀ (W : InW) (body a : Code), (P.funcs[g]?).bind (·.body) = some body -> a ∈ Y1 body -> Yf2 a = key -> @Ym8 W P a (f W)
structure CE (P : Program) where
 g : FuncId
 test : (W : InW) -> List (@AV W) -> @Heap W -> Bool
 f : (W : InW) -> List (@AV W) -> @Heap W -> @KE W -> @KE W -> Prop
 ok : ∀ (W : InW) (args : List (@AV W)) (hp : @Heap W) (k kp : @KE W), f W args hp k kp ->
  (∃ val hs us nw, k val hs us nw /\ @PartOf W hs hp /\ (∀ i ∈ @keys W us, i ∈ @keys W hs) /\ @ACall W P g args hs false val us nw) \/
  (∃ val hs us nw, kp val hs us nw /\ @PartOf W hs hp /\ (∀ i ∈ @keys W us, i ∈ @keys W hs) /\ @ACall W P g args hs true val us nw)
structure Tab (P : Program) where
 pcs : List (PC P)
 les : List (LE P)
 ces : List (CE P)
def Yo5 {P : Program} (W : InW) (g : FuncId) (args : List (@AV W)) (hp : @Heap W) : List (CE P) -> Option (CE P)
 | [] => none
 | e :: es => match Nat.beq e.g g with
  | false => Yo5 W g args hp es
  | true => match e.test W args hp with | true => some e | false => Yo5 W g args hp es
theorem Yql {P : Program} {W : InW} {g : FuncId} {args : List (@AV W)} {hp : @Heap W} : ∀ {es : List (CE P)} {e : CE P}, Yo5 W g args hp es = some e -> e.g = g
 | [], _, h => by cases h
 | q :: es, e, h => by
  unfold Yo5 at h
  split at h
  ·exact Yql h
  ·rename_i hb
   split at h
   ·cases h; exact Nat.eq_of_beq_eq_true hb
   ·exact Yql h
def Ysv {P : Program} : List (PC P) -> FuncId -> Option (PC P)
 | [], _ => none
 | p :: ps, g => match Nat.beq p.g g with | true => some p | false => Ysv ps g
def Ysw {P : Program} (W : InW) : List (LE P) -> FuncId -> Nat -> Option (Y43 W)
 | [], _, _ => none
 | e :: es, g, k => match Nat.beq e.g g && Nat.beq e.key k with | true => some (e.f W) | false => Ysw W es g k
theorem Yv8 {P : Program} : ∀ {ps : List (PC P)} {g : FuncId} {p : PC P}, Ysv ps g = some p -> p.g = g
 | [], _, _, h => by cases h
 | q :: ps, g, p, h => by
  unfold Ysv at h
  split at h
  ·rename_i hb; cases h; exact Nat.eq_of_beq_eq_true hb
  ·exact Yv8 h
theorem Yml {P : Program} [W : InW] : ∀ {es : List (LE P)} {g : FuncId} {k : Nat} {f : Y43 W}, @Ysw P W es g k = some f -> ∀ (body a : Code), (P.funcs[g]?).bind (·.body) = some body -> a ∈ Y1 body -> Yf2 a = k -> @Ym8 W P a f
 | [], _, _, _, h => by cases h
 | e :: es, g, k, f, h => by
  unfold Ysw at h
  split at h
  ·rename_i hb;rw [Bool.and_eq_true] at hb;cases h;intro body a h1 h2 h3;have e1 := Yd.1 hb.1;have e2 := Yd.1 hb.2;exact e.ok W body a (by rw [e1]; exact h1) h2 (by rw [e2]; exact h3)
  ·exact Yml h
section
variable [W : InW]
def cxT (P : Program) (tt : Tr TI) (T : Tab P) (n m : Nat) : Cx :=
 Nat.rec (motive := fun _ => Cx) { P, tt, sy := false, callH := fun _ _ _ _ _ _ => Stuck 54, symH := fun _ _ _ _ => Stuck 55, roundH := fun _ _ _ _ _ _ => Stuck 54, loopsOf := Ysw W T.les }
  (fun _ c => { P, tt, sy := false, callH := fun g args hp d k kp => match Ysv T.pcs g with | some p => Yuc p args hp d k | none => (match Yo5 W g args hp T.ces with | some e => e.f W args hp k kp | none => Yx2 c n g args hp d k kp), symH := fun _ _ _ _ => Stuck 55, roundH := Yyw c n, loopsOf := Ysw W T.les }) m
theorem Y01 (P : Program) (tt : Tr TI) (T : Tab P) (n : Nat) : ∀ m, (cxT P tt T n m).P = P
 | 0 => rfl
 | _ + 1 => rfl
theorem Yta {P : Program} {tt : Tr TI} {T : Tab P} (ht : TabOk P tt) (hm : P.follows .mixedOrders = true) (n : Nat) : ∀ m, HandOkL (cxT P tt T n m)
 | 0 => ⟨⟨⟨ht, fun _ _ _ _ _ _ h => h.elim, fun _ _ _ _ h => h.elim⟩, fun _ _ _ _ _ _ h => h.elim⟩, fun _ _ _ _ _ h => Yml h _ _⟩
 | m + 1 => by
  have hP := Y01 P tt T n m;refine ⟨⟨⟨ht, fun g args hp d k kp h => ?_, fun _ _ _ _ h => h.elim⟩, fun L i args hp d k h => ?_⟩, fun _ _ _ _ _ h => Yml h _ _⟩
  ·have h' : (match Ysv T.pcs g with | some p => Yuc p args hp d k | none => (match Yo5 W g args hp T.ces with | some e => e.f W args hp k kp | none => Yx2 (cxT P tt T n m) n g args hp d k kp)) := h
   split at h'
   ·rename_i p hp';obtain ⟨val, hs, us, nw, h1, h2, h3, h4⟩ := Yxa h';rw [Yv8 hp'] at h4;exact .inl ⟨val, hs, us, nw, h1, h2, h3, h4⟩
   ·split at h'
    ·rename_i e he;have := e.ok W args hp k kp h';rw [Yql he] at this;exact this
    ·have := Ypb (Yta ht hm n m) (by rw [hP]; exact hm) h';unfold Yu9 at this;rw [hP] at this;exact this
  ·have := Yt9 (Yta ht hm n m).toHandOkR (by rw [hP]; exact hm) (show Yyw (cxT P tt T n m) n L i args hp d k from h);rw [hP] at this;exact this
end
theorem PureOk.of {P : Program} (tt : (W : InW) -> @Tr (@TI W)) (ht : ∀ W : InW, @TabOk W P (tt W)) (hm : P.follows .mixedOrders = true) (T : Tab P) (n m : Nat) {g : FuncId} {ats : List AT} {rs : RTs} {pre : DS -> Prop} {res : DS -> DS}
  (h : ∀ (W : InW) (args : List (@AV W)) (ds : DS), @Ypg W ats args ds -> pre ds -> @Yx2 W (@cxT W P (tt W) T n m) n g args [] 0 (@Y2i W rs fun o => o = res ds) fun _ _ _ _ => Stuck 421) : PureOk P g ats rs pre res := by
 intro W args ds ha hpre d hd;have h0 := h W args ds ha hpre;have := Ypb (Yta (T := T) (ht W) hm n m) (by rw [Y01]; exact hm) h0;rcases this with ⟨val, hs, us, nw, h1, h2, h3, h4⟩ | ⟨_, _, _, _, h1, _⟩
 ·rw [Y01] at h4;obtain ⟨rfl, o, rfl, h5⟩ := Yxq hd h1;have hs0 : hs = [] := by
   cases hs with
   | nil => rfl
   | cons p hs => have := h2.all p List.mem_cons_self; simp [look] at this
  subst hs0;intro φ w0 M R w hnew hS;refine (h4 φ w0 M R w (fun i _ => ⟨Yjo ds ha i, rfl⟩) hS).mono fun e w' ⟨φ1, hag, he, hS'⟩ => ?_;obtain ⟨hds, h6, h7⟩ := h5 φ1 w0 M R w' (by simpa [Yh] using hS');obtain ⟨a1, a2⟩ := h7 (Yes φ d 0 (Yji rs) hds) (Yie hd h6);exact ⟨Yes φ d 0 (Yji rs) hds, Ysm hd rs (res ds) hds, by rw [he, a1], by simpa [Yh] using a2⟩
 ·exact h1.elim
end Go.Proofs.Ytfbhampnigdaaaa
namespace Go.Proofs.Ytfbhampnigdaaaa
open Go.RowKit
variable [InW]
attribute [local irreducible] Go.Oper.wp
inductive Pt where
 | int (k : IntKind)
 | bool
 | str
 | lit (v : Value)
 | ptr (pid k : Nat)
 | row (pid : Nat)
 | rs (ts : List Ty)
 | mp (pid : Nat)
 | yl (pid : Nat)
 | opq (pid : Nat)
 | agg (ps : List Pt)
 | tup (ps : List Pt)
 | fn (f : Fn) (a b : List Pt)
 | ifc (t : TypeId) (p : Pt)
 | held (p : Pt)
 | sl (pid off lo n : Nat)
 | slc (pid off n c : Nat)
 | rwp (pid sz : Nat)
 | emp (pid : Nat)
inductive PreL (L' L : LI) (A : Prop) : Prop where
 | mk (h : L' = L) (a : A)
inductive Ed where
 | i (n : Int)
 | b (b : Bool)
 | s (s : ByteArray)
 | l (xs : Dt)
 | ro (ts : List Ty) (r : Ro ts)
 | m (es : List (Int × Int))
mutual
def Ynq : Pt -> AV -> List Ed -> Prop
 | .int k, x, es => ∃ n, x = .si k n /\ es = [.i n]
 | .bool, x, es => ∃ b, x = .sb b /\ es = [.b b]
 | .str, x, es => ∃ s, x = .ss s /\ es = [.s s]
 | .lit v, x, es => x = .v v /\ es = []
 | .ptr pid k, x, es => x = .ptr pid k /\ es = []
 | .row pid, x, es => x = .rw pid /\ es = []
 | .rs ts, x, es => ∃ r : Ro ts, x = .rs ts r /\ es = [.ro ts r]
 | .mp pid, x, es => x = .mp pid /\ es = []
 | .yl pid, x, es => x = .yl pid /\ es = []
 | .opq pid, x, es => x = .opq pid /\ es = []
 | .agg ps, x, es => ∃ xs, x = .agg xs /\ Ykb ps xs es
 | .tup ps, x, es => ∃ xs, x = .tup xs /\ Ykb ps xs es
 | .fn f a b, x, es => ∃ xs ys e1 e2, x = .fn f xs ys /\ es = e1 ++ e2 /\ Ykb a xs e1 /\ Ykb b ys e2
 | .ifc t p, x, es => ∃ y, x = .ifc t y /\ Ynq p y es
 | .held p, x, es => ∃ y, x = .held y /\ Ynq p y es
 | .sl pid a b c, x, es => x = .sl pid a b c /\ es = []
 | .slc pid a b c, x, es => x = .slc pid a b c /\ es = []
 | .rwp pid sz, x, es => ∃ l n : Nat, x = .rwp pid sz l n /\ es = [.i l, .i n]
 | .emp pid, x, es => x = .emp pid /\ es = []
def Ykb : List Pt -> List AV -> List Ed -> Prop
 | [], xs, es => xs = [] /\ es = []
 | p :: ps, xs, es => ∃ x xs' e1 e2, xs = x :: xs' /\ es = e1 ++ e2 /\ Ynq p x e1 /\ Ykb ps xs' e2
end
inductive Src' where
 | id (i : Nat)
 | nil
 | conv (i n : Nat)
 | val (x : AV)
abbrev Bd := List (Nat × Src')
def Yf0 : Bd -> Nat -> Option Src'
 | [], _ => none
 | p :: b, i => match Nat.beq p.1 i with | true => some p.2 | false => Yf0 b i
def hdOf (φ : Phi) : Src' -> Hd
 | .id i => φ i
 | .nil => ⟨0, true, 0, none, 0, undef, fun _ => False⟩
 | .conv i n => { φ i with fn := n, F := fun _ => False }
 | .val x => ⟨0, false, 0, none, 0, x.conc φ, InW.F⟩
def hB (φ : Phi) (B : Bd) : Phi := fun i => match Yf0 B i with | some s => hdOf φ s | none => φ i
def ExtB (B B' : Bd) : Prop := ∀ i s, Yf0 B i = some s -> Yf0 B' i = some s
theorem ExtB.refl (B : Bd) : ExtB B B := fun _ _ h => h
theorem ExtB.trans {a b c : Bd} (h : ExtB a b) (k : ExtB b c) : ExtB a c := fun i s hi => k i s (h i s hi)
theorem Ycz {φ : Phi} {B : Bd} {i : Nat} {s : Src'} (h : Yf0 B i = some s) : hB φ B i = hdOf φ s := by simp [hB, h]
def Yhm (B : Bd) (pid : Nat) (s : Src') (K : Bd -> Prop) : Prop :=
 match Yf0 B pid with
 | none => K ((pid, s) :: B)
 | some s' => (match s', s with | .id i, .id j => Yc (Nat.beq i j) (K B) | _, _ => Stuck 430)
theorem Ybl {B : Bd} {pid : Nat} {s : Src'} {K : Bd -> Prop} (h : Yhm B pid s K) : ∃ B', K B' /\ ExtB B B' /\ Yf0 B' pid = some s := by
 unfold Yhm at h
 split at h
 ·rename_i hn;refine ⟨_, h, fun i s' hi => ?_, by simp [Yf0, Nat.beq_refl]⟩;unfold Yf0;cases hb : Nat.beq pid i with
  | true => rw [<- Yd.1 hb, hn] at hi; cases hi
  | false => exact hi
 ·rename_i s' hs
  split at h
  ·obtain ⟨h1, h2⟩ := Ya h;obtain rfl := Yd.1 h1;exact ⟨B, h2, .refl _, hs⟩
  ·exact h.elim
def rsK (ts ts' : List Ty) (r : Ro ts') (K : Ro ts -> Prop) : Prop := if h : Ybv 9 (.sl ts') (.sl ts) = true then K (Ty.sl.inj (Y3 9 _ _ h) ▸ r) else Stuck 448
mutual
def Ybs : Pt -> AV -> Bd -> (AV -> Bd -> List Ed -> Prop) -> Prop
 | .int k, x, B, K => (match x with | .si k' n => Yc (decide (k' = k)) (K (.si k n) B [.i n]) | .v (.int k' n) => Yc (decide (k' = k)) (K (.si k n) B [.i n]) | _ => Stuck 431)
 | .bool, x, B, K => (match x with | .sb b => K (.sb b) B [.b b] | .v (.bool b) => K (.sb b) B [.b b] | _ => Stuck 432)
 | .str, x, B, K => (match x with | .ss s => K (.ss s) B [.s s] | .v (.string s) => K (.ss s) B [.s s] | _ => Stuck 433)
 | .lit v, x, B, K => (match x with | .v u => Yc (Ycr u v) (K (.v v) B []) | _ => Stuck 434)
 | .ptr pid k, x, B, K => (match x with | .ptr i k' => Yc (Nat.beq k' k) (Yhm B pid (.id i) fun B => K (.ptr pid k) B []) | _ => Stuck 435)
 | .row pid, x, B, K => (match x with
  | .rw i => Yhm B pid (.id i) fun B => K (.rw pid) B []
  | .v (.slice none 0 0) => Yhm B pid .nil fun B => K (.rw pid) B []
  | .sl i 0 0 n => Yhm B pid (.conv i n) fun B => K (.rw pid) B []
  | _ => Stuck 436)
 | .rs ts, x, B, K => (match x with
  | .rs ts' r => rsK ts ts' r fun r => K (.rs ts r) B [.ro ts r]
  | .v (.slice none 0 0) => K (.rs ts (Ro.nil ts)) B [.ro ts (Ro.nil ts)]
  | _ => Stuck 437)
 | .mp pid, x, B, K => (match x with | .mp i => Yhm B pid (.id i) fun B => K (.mp pid) B [] | _ => Stuck 438)
 | .yl pid, x, B, K => (match x with | .yl i => Yhm B pid (.id i) fun B => K (.yl pid) B [] | _ => Stuck 439)
 | .opq pid, x, B, K => (match x with
  | .opq i => Yhm B pid (.id i) fun B => K (.opq pid) B []
  | .junk => Stuck 440
  | .held _ => Stuck 440
  | x => Yhm B pid (.val x) fun B => K (.opq pid) B [])
 | .agg ps, x, B, K => (match x with | .agg xs => Yeh ps xs B fun ys B es => K (.agg ys) B es | .v (.agg cs) => Yqc cs.toList fun xs => Yeh ps xs B fun ys B es => K (.agg ys) B es | _ => Stuck 441)
 | .tup ps, x, B, K => (match x with | .tup xs => Yeh ps xs B fun ys B es => K (.tup ys) B es | _ => Stuck 442)
 | .fn f a b, x, B, K => (match x with | .fn f' xs ys => Yc (decide (f' = f)) (Yeh a xs B fun xs B e1 => Yeh b ys B fun ys B e2 => K (.fn f xs ys) B (e1 ++ e2)) | _ => Stuck 443)
 | .ifc t p, x, B, K => (match x with | .ifc t' y => Yc (Nat.beq t' t) (Ybs p y B fun y B es => K (.ifc t y) B es) | .v (.iface t' y) => Yc (Nat.beq t' t) (Ybs p (.v y) B fun y B es => K (.ifc t y) B es) | _ => Stuck 444)
 | .held _, _, _, _ => Stuck 445
 | .sl pid a b c, x, B, K => (match x with | .sl i a' b' c' => Yc (Nat.beq a' a && Nat.beq b' b && Nat.beq c' c) (Yhm B pid (.id i) fun B => K (.sl pid a b c) B []) | _ => Stuck 473)
 | .slc pid a b c, x, B, K => (match x with | .slc i a' b' c' => Yc (Nat.beq a' a && Nat.beq b' b && Nat.beq c' c) (Yhm B pid (.id i) fun B => K (.slc pid a b c) B []) | _ => Stuck 474)
 | .rwp pid sz, x, B, K => (match x with | .rwp i sz' l n => Yc (Nat.beq sz' sz) (Yhm B pid (.id i) fun B => K (.rwp pid sz l n) B [.i l, .i n]) | _ => Stuck 484)
 | .emp pid, x, B, K => (match x with | .emp i => Yhm B pid (.id i) fun B => K (.emp pid) B [] | _ => Stuck 475)
def Yeh : List Pt -> List AV -> Bd -> (List AV -> Bd -> List Ed -> Prop) -> Prop
 | [], xs, B, K => (match xs with | [] => K [] B [] | _ :: _ => Stuck 446)
 | p :: ps, xs, B, K => (match xs with | [] => Stuck 447 | x :: xs => Ybs p x B fun y B e1 => Yeh ps xs B fun ys B e2 => K (y :: ys) B (e1 ++ e2))
end
theorem Y1w {ts ts' : List Ty} {r : Ro ts'} {K : Ro ts -> Prop} (h : rsK ts ts' r K) : ∃ q : Ro ts, K q /\ q.v = r.v := by
 unfold rsK at h
 split at h
 ·rename_i hs;have e := Ty.sl.inj (Y3 9 _ _ hs);subst e;exact ⟨_, h, rfl⟩
 ·exact h.elim
def Same (B : Bd) (x y : AV) : Prop := ∀ B', ExtB B B' -> ∀ φ, y.conc (hB φ B') = x.conc φ
theorem Same.ext {B B' : Bd} {x y : AV} (h : Same B x y) (hB : ExtB B B') : Same B' x y := fun B2 h2 => h B2 (hB.trans h2)
def SameL (B : Bd) (xs ys : List AV) : Prop := ∀ B', ExtB B B' -> ∀ φ, AV.concL (hB φ B') ys = AV.concL φ xs
mutual
theorem Yc6 : ∀ (p : Pt) (x : AV) (B : Bd) (K : AV -> Bd -> List Ed -> Prop), Ybs p x B K -> ∃ y B' es, K y B' es /\ Ynq p y es /\ ExtB B B' /\ Same B' x y /\ x.rd = true /\ y.rd = true
  | .int k, x, B, K, h => by
    unfold Ybs at h
    split at h
    · obtain ⟨h1, h2⟩ := Ya h;obtain rfl := of_decide_eq_true h1;exact ⟨_, _, _, h2, ⟨_, rfl, rfl⟩, .refl _, fun _ _ _ => rfl, rfl, rfl⟩
    · obtain ⟨h1, h2⟩ := Ya h;obtain rfl := of_decide_eq_true h1;exact ⟨_, _, _, h2, ⟨_, rfl, rfl⟩, .refl _, fun _ _ _ => rfl, rfl, rfl⟩
    · exact h.elim
  | .bool, x, B, K, h => by
    unfold Ybs at h
    split at h
    · exact ⟨_, _, _, h, ⟨_, rfl, rfl⟩, .refl _, fun _ _ _ => rfl, rfl, rfl⟩
    · exact ⟨_, _, _, h, ⟨_, rfl, rfl⟩, .refl _, fun _ _ _ => rfl, rfl, rfl⟩
    · exact h.elim
  | .str, x, B, K, h => by
    unfold Ybs at h
    split at h
    · exact ⟨_, _, _, h, ⟨_, rfl, rfl⟩, .refl _, fun _ _ _ => rfl, rfl, rfl⟩
    · exact ⟨_, _, _, h, ⟨_, rfl, rfl⟩, .refl _, fun _ _ _ => rfl, rfl, rfl⟩
    · exact h.elim
  | .lit v, x, B, K, h => by
    unfold Ybs at h
    split at h
    · obtain ⟨h1, h2⟩ := Ya h;rw [Ydr _ _ h1];exact ⟨_, _, _, h2, ⟨rfl, rfl⟩, .refl _, fun _ _ _ => rfl, rfl, rfl⟩
    · exact h.elim
  | .ptr pid k, x, B, K, h => by
    unfold Ybs at h
    split at h
    · obtain ⟨h1, h2⟩ := Ya h;obtain rfl := Yd.1 h1;obtain ⟨B', h3, h4, h5⟩ := Ybl h2;exact ⟨_, _, _, h3, ⟨rfl, rfl⟩, h4, fun B2 hB2 φ => by simp only [AV.conc, Ycz (hB2 _ _ h5), hdOf], rfl, rfl⟩
    · exact h.elim
  | .row pid, x, B, K, h => by
    unfold Ybs at h
    split at h
    · obtain ⟨B', h3, h4, h5⟩ := Ybl h;exact ⟨_, _, _, h3, ⟨rfl, rfl⟩, h4, fun B2 hB2 φ => by simp only [AV.conc, Ycz (hB2 _ _ h5), hdOf], rfl, rfl⟩
    · obtain ⟨B', h3, h4, h5⟩ := Ybl h;exact ⟨_, _, _, h3, ⟨rfl, rfl⟩, h4, fun B2 hB2 φ => by simp only [AV.conc, Ycz (hB2 _ _ h5), hdOf]; rfl, rfl, rfl⟩
    · obtain ⟨B', h3, h4, h5⟩ := Ybl h;exact ⟨_, _, _, h3, ⟨rfl, rfl⟩, h4, fun B2 hB2 φ => by simp only [AV.conc, Ycz (hB2 _ _ h5), hdOf, Nat.sub_zero], rfl, rfl⟩
    · exact h.elim
  | .rs ts, x, B, K, h => by
    unfold Ybs at h
    split at h
    · obtain ⟨q, h1, h2⟩ := Y1w h;exact ⟨_, _, _, h1, ⟨_, rfl, rfl⟩, .refl _, fun _ _ _ => h2, rfl, rfl⟩
    · exact ⟨_, _, _, h, ⟨_, rfl, rfl⟩, .refl _, fun _ _ _ => rfl, rfl, rfl⟩
    · exact h.elim
  | .mp pid, x, B, K, h => by
    unfold Ybs at h
    split at h
    · obtain ⟨B', h3, h4, h5⟩ := Ybl h;exact ⟨_, _, _, h3, ⟨rfl, rfl⟩, h4, fun B2 hB2 φ => by simp only [AV.conc, Ycz (hB2 _ _ h5), hdOf], rfl, rfl⟩
    · exact h.elim
  | .yl pid, x, B, K, h => by
    unfold Ybs at h
    split at h
    · obtain ⟨B', h3, h4, h5⟩ := Ybl h;exact ⟨_, _, _, h3, ⟨rfl, rfl⟩, h4, fun B2 hB2 φ => by simp only [AV.conc, Ycz (hB2 _ _ h5), hdOf], rfl, rfl⟩
    · exact h.elim
  | .opq pid, x, B, K, h => by
    unfold Ybs at h;have fin : ∀ x : AV, x.rd = true -> (Yhm B pid (.val x) fun B => K (.opq pid) B []) -> ∃ y B' es, K y B' es /\ Ynq (.opq pid) y es /\ ExtB B B' /\ Same B' x y /\ x.rd = true /\ y.rd = true := fun x hx h => by
      obtain ⟨B', h3, h4, h5⟩ := Ybl h;exact ⟨_, _, _, h3, ⟨rfl, rfl⟩, h4, fun B2 hB2 φ => by simp only [AV.conc, Ycz (hB2 _ _ h5), hdOf], hx, rfl⟩
    cases x <;> first
      | exact h.elim
      | exact fin _ rfl h
      | (obtain ⟨B', h3, h4, h5⟩ := Ybl h
         exact ⟨_, _, _, h3, ⟨rfl, rfl⟩, h4, fun B2 hB2 φ => by simp only [AV.conc, Ycz (hB2 _ _ h5), hdOf], rfl, rfl⟩)
  | .agg ps, x, B, K, h => by
    unfold Ybs at h
    split at h
    · obtain ⟨ys, B', es, h1, h2, h3, h4⟩ := Ybf ps _ B _ h;exact ⟨_, _, _, h1, ⟨_, rfl, h2⟩, h3, fun B2 hB2 φ => by simp only [AV.conc, h4 B2 hB2 φ], rfl, rfl⟩
    · obtain ⟨ys, B', es, h1, h2, h3, h4⟩ := Ybf ps _ B _ (Yd1.1 h);exact ⟨_, _, _, h1, ⟨_, rfl, h2⟩, h3, fun B2 hB2 φ => by simp [AV.conc, h4 B2 hB2 φ, Yt, Function.comp_def], rfl, rfl⟩
    · exact h.elim
  | .tup ps, x, B, K, h => by
    unfold Ybs at h
    split at h
    · obtain ⟨ys, B', es, h1, h2, h3, h4⟩ := Ybf ps _ B _ h;exact ⟨_, _, _, h1, ⟨_, rfl, h2⟩, h3, fun B2 hB2 φ => by simp only [AV.conc, h4 B2 hB2 φ], rfl, rfl⟩
    · exact h.elim
  | .fn f a b, x, B, K, h => by
    unfold Ybs at h
    split at h
    · obtain ⟨h0, h⟩ := Ya h;obtain rfl := of_decide_eq_true h0;obtain ⟨ys, B', es, h1, h2, h3, h4⟩ := Ybf a _ B _ h;obtain ⟨zs, B2, es2, k1, k2, k3, k4⟩ := Ybf b _ B' _ h1;exact ⟨_, _, _, k1, ⟨_, _, _, _, rfl, rfl, h2, k2⟩, h3.trans k3, fun B3 hB3 φ => by simp only [AV.conc, h4 B3 (k3.trans hB3) φ, k4 B3 hB3 φ], rfl, rfl⟩
    · exact h.elim
  | .ifc t p, x, B, K, h => by
    unfold Ybs at h
    split at h
    · obtain ⟨h0, h⟩ := Ya h;obtain rfl := Yd.1 h0;obtain ⟨y, B', es, h1, h2, h3, h4, _, _⟩ := Yc6 p _ B _ h;exact ⟨_, _, _, h1, ⟨_, rfl, h2⟩, h3, fun B3 hB3 φ => by simp only [AV.conc, h4 B3 hB3 φ], rfl, rfl⟩
    · obtain ⟨h0, h⟩ := Ya h;obtain rfl := Yd.1 h0;obtain ⟨y, B', es, h1, h2, h3, h4, _, _⟩ := Yc6 p _ B _ h;exact ⟨_, _, _, h1, ⟨_, rfl, h2⟩, h3, fun B3 hB3 φ => by simp only [AV.conc, h4 B3 hB3 φ], rfl, rfl⟩
    · exact h.elim
  | .held _, _, _, _, h => by unfold Ybs at h; exact h.elim
  | .sl pid a b c, x, B, K, h => by
    unfold Ybs at h
    split at h
    · obtain ⟨h1, h2⟩ := Ya h;simp only [Bool.and_eq_true, Yd] at h1;obtain ⟨⟨rfl, rfl⟩, rfl⟩ := h1;obtain ⟨B', h3, h4, h5⟩ := Ybl h2;exact ⟨_, _, _, h3, ⟨rfl, rfl⟩, h4, fun B2 hB2 φ => by simp only [AV.conc, Ycz (hB2 _ _ h5), hdOf], rfl, rfl⟩
    · exact h.elim
  | .slc pid a b c, x, B, K, h => by
    unfold Ybs at h
    split at h
    · obtain ⟨h1, h2⟩ := Ya h;simp only [Bool.and_eq_true, Yd] at h1;obtain ⟨⟨rfl, rfl⟩, rfl⟩ := h1;obtain ⟨B', h3, h4, h5⟩ := Ybl h2;exact ⟨_, _, _, h3, ⟨rfl, rfl⟩, h4, fun B2 hB2 φ => by simp only [AV.conc, Ycz (hB2 _ _ h5), hdOf], rfl, rfl⟩
    · exact h.elim
  | .rwp pid sz, x, B, K, h => by
    unfold Ybs at h
    split at h
    · obtain ⟨h1, h2⟩ := Ya h;obtain rfl := Yd.1 h1;obtain ⟨B', h3, h4, h5⟩ := Ybl h2;exact ⟨_, _, _, h3, ⟨_, _, rfl, rfl⟩, h4, fun B2 hB2 φ => by simp only [AV.conc, Ycz (hB2 _ _ h5), hdOf], rfl, rfl⟩
    · exact h.elim
  | .emp pid, x, B, K, h => by
    unfold Ybs at h
    split at h
    · obtain ⟨B', h3, h4, h5⟩ := Ybl h;exact ⟨_, _, _, h3, ⟨rfl, rfl⟩, h4, fun B2 hB2 φ => by simp only [AV.conc, Ycz (hB2 _ _ h5), hdOf], rfl, rfl⟩
    · exact h.elim
theorem Ybf : ∀ (ps : List Pt) (xs : List AV) (B : Bd) (K : List AV -> Bd -> List Ed -> Prop), Yeh ps xs B K -> ∃ ys B' es, K ys B' es /\ Ykb ps ys es /\ ExtB B B' /\ SameL B' xs ys
 | [], xs, B, K, h => by
  unfold Yeh at h
  split at h
  ·exact ⟨_, _, _, h, ⟨rfl, rfl⟩, .refl _, fun _ _ _ => rfl⟩
  ·exact h.elim
 | p :: ps, xs, B, K, h => by
  unfold Yeh at h
  split at h
  ·exact h.elim
  ·obtain ⟨y, B', e1, h1, h2, h3, h4, _, _⟩ := Yc6 p _ B _ h;obtain ⟨ys, B2, e2, k1, k2, k3, k4⟩ := Ybf ps _ B' _ h1;exact ⟨_, _, _, k1, ⟨_, _, _, _, rfl, rfl, h2, k2⟩, h3.trans k3, fun B3 hB3 φ => by simp only [AV.concL, h4 B3 (k3.trans hB3) φ, k4 B3 hB3 φ]⟩
end
end Go.Proofs.Ytfbhampnigdaaaa
namespace Go.Proofs.Ytfbhampnigdaaaa
open Go.RowKit
variable [InW]
attribute [local irreducible] Go.Oper.wp
inductive PI where
 | blk (T : TypeId) (ps : List Pt)
 | arr (T : Nat) (ts : List Ty)
 | row (T sz n : Nat) (ps : List Pt)
 | obj (x : OI)
 | mpI
 | mpP
 | lp (L : LI) (ps : List Pt)
 | dead
 | nst (T : Nat) (ts : List Ty)
 | fro (ts : List Ty)
def PI.isDead : PI -> Bool
 | .dead => true
 | _ => false
def Y29 (p : PI) (it : It) (es : List Ed) : Prop :=
 match p with
 | .blk T ps => ∃ xs, it = .blk T xs /\ Ykb ps xs es
 | .arr T ts => ∃ xs, it = .arr T ts xs /\ es = [.l xs]
 | .row T sz n ps => ∃ xs, it = .row T sz n xs /\ Ykb ps xs es
 | .obj x => it = .obj x /\ es = []
 | .mpI => ∃ xs, it = .obj (.mpI xs) /\ es = [.m xs]
 | .mpP => ∃ xs, it = .obj (.mpP xs) /\ es = [.l xs]
 | .lp L ps => ∃ xs, it = .lp L xs /\ Ykb ps xs es
 | .dead => it = .dead /\ es = []
 | .nst T ts => ∃ xs, it = .nst T ts xs /\ es = [.l xs]
 | .fro ts => ∃ xs, it = .fro ts xs /\ es = [.l xs]
def Yhp : List (Nat × PI) -> Heap -> List Ed -> Prop
 | [], h, es => h = [] /\ es = []
 | p :: ps, h, es => ∃ it h' e1 e2, h = (p.1, it) :: h' /\ es = e1 ++ e2 /\ Y29 p.2 it e1 /\ Yhp ps h' e2
def Yzq (p : PI) (it : It) (B : Bd) (K : It -> Bd -> List Ed -> Prop) : Prop :=
 match p with
 | .blk T ps => (match it with | .blk T' xs => Yc (Nat.beq T' T) (Yeh ps xs B fun ys B es => K (.blk T ys) B es) | _ => Stuck 450)
 | .arr T ts => (match it with | .arr T' ts' xs => Yc (Nat.beq T' T && Yb4.sameTs ts' ts) (K (.arr T ts xs) B [.l xs]) | _ => Stuck 451)
 | .row T sz n ps => (match it with | .row T' sz' n' xs => Yc (Nat.beq T' T && Nat.beq sz' sz && Nat.beq n' n) (Yeh ps xs B fun ys B es => K (.row T sz n ys) B es) | _ => Stuck 452)
 | .obj x => Yc (Yyq it (.obj x)) (K (.obj x) B [])
 | .mpI => (match it with | .obj (.mpI xs) => K (.obj (.mpI xs)) B [.m xs] | .obj (.mpV [] 0) => K (.obj (.mpI [])) B [.m []] | _ => Stuck 476)
 | .mpP => (match it with | .obj (.mpP xs) => K (.obj (.mpP xs)) B [.l xs] | .obj (.mpV [] 0) => K (.obj (.mpP [])) B [.l []] | _ => Stuck 476)
 | .lp L ps => (match it with | .lp L' xs => PreL L' L (Yeh ps xs B fun ys B es => K (.lp L ys) B es) | _ => Stuck 477)
 | .dead => Stuck 479
 | .nst T ts => (match it with | .nst T' ts' xs => Yc (Nat.beq T' T && Ybv 9 (.sl ts') (.sl ts)) (K (.nst T ts xs) B [.l xs]) | _ => Stuck 451)
 | .fro ts => (match it with | .fro ts' xs => Yc (Ybv 9 (.sl ts') (.sl ts)) (K (.fro ts xs) B [.l xs]) | _ => Stuck 451)
def Y53 (B : Bd) (it : It) (i : Nat) (y : It) (pid : Nat) : Prop := ∀ B', ExtB B B' -> ∀ φ : Phi, y.conc (hB φ B') pid = it.conc φ i
theorem Yuk {p : PI} {it : It} {B : Bd} {K : It -> Bd -> List Ed -> Prop} (h : Yzq p it B K) {pid i : Nat} (hl : Yf0 B pid = some (.id i)) : ∃ y B' es, K y B' es /\ Y29 p y es /\ ExtB B B' /\ Y53 B' it i y pid := by
 unfold Yzq at h
 split at h
 ·split at h
  ·obtain ⟨h1, h2⟩ := Ya h;obtain rfl := Yd.1 h1;obtain ⟨ys, B', es, h3, h4, h5, h6⟩ := Ybf _ _ _ _ h2;exact ⟨_, _, _, h3, ⟨_, rfl, h4⟩, h5, fun B2 hB2 φ => by simp only [It.conc, h6 B2 hB2 φ, Ycz (hB2 _ _ (h5 _ _ hl)), hdOf]⟩
  ·exact h.elim
 ·split at h
  ·obtain ⟨h1, h2⟩ := Ya h;simp only [Bool.and_eq_true, Yd] at h1;obtain ⟨rfl, h12⟩ := h1;obtain ⟨e, _⟩ := Y6 h12;subst e;exact ⟨_, _, _, h2, ⟨_, rfl, rfl⟩, .refl _, fun B2 hB2 φ => by simp only [It.conc, Ycz (hB2 _ _ hl), hdOf]⟩
  ·exact h.elim
 ·split at h
  ·obtain ⟨h1, h2⟩ := Ya h;simp only [Bool.and_eq_true, Yd] at h1;obtain ⟨⟨rfl, rfl⟩, rfl⟩ := h1;obtain ⟨ys, B', es, h3, h4, h5, h6⟩ := Ybf _ _ _ _ h2;exact ⟨_, _, _, h3, ⟨_, rfl, h4⟩, h5, fun B2 hB2 φ => by simp only [It.conc, h6 B2 hB2 φ, Ycz (hB2 _ _ (h5 _ _ hl)), hdOf]⟩
  ·exact h.elim
 ·obtain ⟨h1, h2⟩ := Ya h;rw [Yn7 h1];exact ⟨_, _, _, h2, ⟨rfl, rfl⟩, .refl _, fun B2 hB2 φ => by simp only [It.conc, Ycz (hB2 _ _ hl), hdOf]⟩
 ·split at h
  ·exact ⟨_, _, _, h, ⟨_, rfl, rfl⟩, .refl _, fun B2 hB2 φ => by simp only [It.conc, Ycz (hB2 _ _ hl), hdOf]⟩
  ·exact ⟨_, _, _, h, ⟨_, rfl, rfl⟩, .refl _, fun B2 hB2 φ => by simp only [It.conc, Ycz (hB2 _ _ hl), hdOf, OI.obj, entI]; rfl⟩
  ·exact h.elim
 ·split at h
  ·exact ⟨_, _, _, h, ⟨_, rfl, rfl⟩, .refl _, fun B2 hB2 φ => by simp only [It.conc, Ycz (hB2 _ _ hl), hdOf]⟩
  ·exact ⟨_, _, _, h, ⟨_, rfl, rfl⟩, .refl _, fun B2 hB2 φ => by simp only [It.conc, Ycz (hB2 _ _ hl), hdOf, OI.obj, entP]; rfl⟩
  ·exact h.elim
 ·split at h
  ·obtain ⟨rfl, h2⟩ := h;obtain ⟨ys, B', es, h3, h4, h5, h6⟩ := Ybf _ _ _ _ h2;exact ⟨_, _, _, h3, ⟨_, rfl, h4⟩, h5, fun B2 hB2 φ => by simp only [It.conc, h6 B2 hB2 φ, Ycz (hB2 _ _ (h5 _ _ hl)), hdOf]⟩
  ·exact h.elim
 ·exact h.elim
 ·split at h
  ·obtain ⟨h1, h2⟩ := Ya h;simp only [Bool.and_eq_true, Yd] at h1;obtain ⟨rfl, h12⟩ := h1;have e := Ty.sl.inj (Y3 _ _ _ h12);subst e;exact ⟨_, _, _, h2, ⟨_, rfl, rfl⟩, .refl _, fun B2 hB2 φ => by simp only [It.conc, Ycz (hB2 _ _ hl), hdOf]⟩
  ·exact h.elim
 ·split at h
  ·obtain ⟨h1, h2⟩ := Ya h;have e := Ty.sl.inj (Y3 _ _ _ h1);subst e;exact ⟨_, _, _, h2, ⟨_, rfl, rfl⟩, .refl _, fun B2 hB2 φ => by simp only [It.conc, Ycz (hB2 _ _ hl), hdOf]⟩
  ·exact h.elim
def Yx6 (ts : List Ty) (x : AV) (K : Dt -> Prop) : Prop :=
 match x with
 | .rs ts' r => Yc (Ybv 9 (.sl ts') (.sl ts)) (K r.xs)
 | .v (.slice none 0 0) => K []
 | _ => Stuck 486
theorem Ytm {ts : List Ty} {x : AV} {K : Dt -> Prop} (h : Yx6 ts x K) : ∃ xs, K xs /\ ∀ (φ : Phi) (w0 : World) (M : List Nat) (L : RL) (w : World), St w0 M L w -> St w0 M (Res.fro (x.conc φ) ts xs InW.F :: L) w := by
 have key : ∀ (v : Value) (xs : Dt), RdV (.sl ts) v (.l xs) -> ∀ (w0 : World) (M : List Nat) (L : RL) (w : World), St w0 M L w -> St w0 M (Res.fro v ts xs InW.F :: L) w := fun v xs hr w0 M L w hS =>
  hS.add (Ext.refl _) (Ymk (fun b hb => Nat.lt_of_lt_of_le (InW.lt b hb) (Nat.le_trans hS.inw.base hS.kept.size)) (RdV.nowF hS (fun b hb => hb) hr)) (by simp [Res.fro, Res.foot]) (fun b hb => .inr hb)
 unfold Yx6 at h
 split at h
 ·rename_i ts' r;obtain ⟨h1, h2⟩ := Ya h;have e := Ty.sl.inj (Y3 _ _ _ h1);subst e;exact ⟨_, h2, fun φ => key _ _ r.2⟩
 ·exact ⟨_, h, fun φ => key _ _ (RdV.nil rfl)⟩
 ·exact h.elim
def Ydn : List (Nat × PI) -> Bd -> Heap -> (Heap -> Bd -> Heap -> List Ed -> Prop) -> Prop
 | [], B, hp, K => K [] B hp []
 | (pid, p) :: ps, B, hp, K => match p.isDead with
  | true => Ydn ps B hp fun ys B hp e2 => K ((pid, .dead) :: ys) B hp e2
  | false => match Yf0 B pid with
  | some (.id i) => Yv hp i fun it => delK hp i fun hp => Yzq p it B fun y B e1 => Ydn ps B hp fun ys B hp e2 => K ((pid, y) :: ys) B hp (e1 ++ e2)
  | some (.conv i n) => (match p with
   | .arr T ts => Yv hp i fun it => delK hp i fun hp => (match it with
    | .row T' sz n' cs => Yc (Nat.beq T' T && Nat.beq sz ts.length && Nat.beq n' n) (Yru ts n cs fun xs => Ydn ps B hp fun ys B hp e2 => K ((pid, .arr T ts xs) :: ys) B hp (.l xs :: e2))
    | _ => Stuck 453)
   | _ => Stuck 454)
  | some .nil => (match p with
   | .arr T ts => Ydn ps B hp fun ys B hp e2 => K ((pid, .arr T ts []) :: ys) B hp (.l [] :: e2)
   | .nst T ts => Ydn ps B hp fun ys B hp e2 => K ((pid, .nst T ts []) :: ys) B hp (.l [] :: e2)
   | _ => Stuck 455)
  | some (.val x) => (match p with
   | .fro ts => Yx6 ts x fun xs => Ydn ps B hp fun ys B hp e2 => K ((pid, .fro ts xs) :: ys) B hp (.l xs :: e2)
   | _ => Stuck 456)
  | _ => Stuck 456
theorem Yb7 : ∀ (ps : List (Nat × PI)) (B : Bd) (hp : Heap) (K : Heap -> Bd -> Heap -> List Ed -> Prop), Ydn ps B hp K -> ∃ ys B' rest es, K ys B' rest es /\ Yhp ps ys es /\ ExtB B B' /\ rest.Sublist hp /\
  ∀ B2, ExtB B' B2 -> ∀ φ : Phi, (∀ (w0 : World) (M : List Nat) (A R : RL) (w : World), St w0 M (A ++ (Yb φ hp ++ R)) w -> St w0 M (A ++ (Yb (hB φ B2) ys ++ (Yb φ rest ++ R))) w) /\
   ∃ D, (Yb (hB φ B2) ys ++ Yb φ rest).Perm (D ++ Yb φ hp)
 | [], B, hp, K, h => ⟨[], B, hp, [], h, ⟨rfl, rfl⟩, .refl _, List.Sublist.refl _, fun B2 _ φ => ⟨fun w0 M A R w hS => by simpa [Yb] using hS, [], by simp [Yb]⟩⟩
 | (pid, p) :: ps, B, hp, K, h => by
  unfold Ydn at h
  split at h
  ·rename_i hd;have e : p = .dead := by cases p <;> first | rfl | cases hd
   subst e;obtain ⟨ys, B2, rest, es, k1, k2, k3, k3s, k4⟩ := Yb7 ps _ _ _ h;refine ⟨_, _, _, _, k1, ⟨_, _, [], es, rfl, rfl, ⟨rfl, rfl⟩, k2⟩, k3, k3s, fun B3 hB3 φ => ⟨fun w0 M A R w hS => ?_, ?_⟩⟩
   ·have h1 := (k4 B3 hB3 φ).1 w0 M _ R w hS;have h2 := h1.add (Ext.refl _) (r := .row (.slice none 0 0) 0 0 0 []) ⟨by simp, .inl ⟨rfl, rfl⟩⟩ (by simp [Res.foot, Value.ownBlock]);have e : Yb (hB φ B3) ((pid, .dead) :: ys) = Res.row (.slice none 0 0) 0 0 0 [] :: Yb (hB φ B3) ys := rfl;rw [e];exact h2.perm (by simpa using List.perm_middle.symm)
   ·obtain ⟨D, hD⟩ := (k4 B3 hB3 φ).2;exact ⟨It.dead.conc (hB φ B3) pid :: D, by simpa [Yb] using hD.cons (It.dead.conc (hB φ B3) pid)⟩
  rename_i hnd;clear hnd
  split at h
  ·rename_i i hl;obtain ⟨it, h1, h2⟩ := Yf h;obtain ⟨hp1, h3, h4, h4s⟩ := Yjm h2 h1;obtain ⟨y, B1, e1, h5, h6, h7, h8⟩ := Yuk h3 hl;obtain ⟨ys, B2, rest, es, k1, k2, k3, k3s, k4⟩ := Yb7 ps _ _ _ h5;refine ⟨_, _, _, _, k1, ⟨_, _, _, _, rfl, rfl, h6, k2⟩, h7.trans k3, k3s.trans h4s, fun B3 hB3 φ => ?_⟩;have e : Yb (hB φ B3) ((pid, y) :: ys) = it.conc φ i :: Yb (hB φ B3) ys := by
    simp only [Yb, List.map_cons, h8 B3 (k3.trans hB3) φ]
   refine ⟨fun w0 M A R w hS => ?_, ?_⟩
   ·have h9 : St w0 M ((A ++ [it.conc φ i]) ++ (Yb φ hp1 ++ R)) w := hS.perm (by
     rw [List.append_assoc];exact ((Yu h4).append_right R).append_left A)
    have := (k4 B3 hB3 φ).1 w0 M _ R w h9;rw [e];simpa using this
   ·obtain ⟨D, hD⟩ := (k4 B3 hB3 φ).2;refine ⟨D, ?_⟩;rw [e, List.cons_append];refine (hD.cons _).trans ?_;refine List.perm_middle.symm.trans ?_;exact (Yu h4).symm.append_left D
  ·rename_i i n hl
   split at h
   ·obtain ⟨it, h1, h2⟩ := Yf h;obtain ⟨hp1, h3, h4, h4s⟩ := Yjm h2 h1
    split at h3
    ·rename_i T ts _ T' sz n' cs;obtain ⟨h5, h6⟩ := Ya h3;simp only [Bool.and_eq_true, Yd] at h5;obtain ⟨⟨rfl, rfl⟩, rfl⟩ := h5;obtain ⟨xs, h7, h8, h9, _⟩ := Yc5 h6;obtain ⟨ys, B2, rest, es, k1, k2, k3, k3s, k4⟩ := Yb7 ps _ _ _ h7;refine ⟨_, _, _, _, k1, ⟨_, _, [.l xs], es, rfl, rfl, ⟨_, rfl, rfl⟩, k2⟩, k3, k3s.trans h4s, fun B3 hB3 φ => ?_⟩;have e : Yb (hB φ B3) ((pid, .arr T' ts xs) :: ys) = (It.row T' ts.length n' cs).conc φ i :: Yb (hB φ B3) ys := by
      simp only [Yb, List.map_cons, It.conc, Ycz (hB3 _ _ (k3 _ _ hl)), hdOf, h9 φ]
     refine ⟨fun w0 M A R w hS => ?_, ?_⟩
     ·have h9' : St w0 M ((A ++ [(It.row T' ts.length n' cs).conc φ i]) ++ (Yb φ hp1 ++ R)) w := hS.perm (by
       rw [List.append_assoc];exact ((Yu h4).append_right R).append_left A)
      have := (k4 B3 hB3 φ).1 w0 M _ R w h9';rw [e];simpa using this
     ·obtain ⟨D, hD⟩ := (k4 B3 hB3 φ).2;refine ⟨D, ?_⟩;rw [e, List.cons_append];refine (hD.cons _).trans ?_;refine List.perm_middle.symm.trans ?_;exact (Yu h4).symm.append_left D
    ·exact h3.elim
   ·exact h.elim
  ·rename_i hl
   split at h
   ·rename_i T ts;obtain ⟨ys, B2, rest, es, k1, k2, k3, k3s, k4⟩ := Yb7 ps _ _ _ h;refine ⟨_, _, _, _, k1, ⟨_, _, [.l []], es, rfl, rfl, ⟨_, rfl, rfl⟩, k2⟩, k3, k3s, fun B3 hB3 φ => ⟨fun w0 M A R w hS => ?_, ?_⟩⟩
    ·have h1 := (k4 B3 hB3 φ).1 w0 M _ R w hS;have h2 := h1.add (Ext.refl _) (r := .row (.slice none 0 0) T ts.length 0 []) ⟨by simp, .inl ⟨rfl, rfl⟩⟩ (by simp [Res.foot, Value.ownBlock]);have e : Yb (hB φ B3) ((pid, .arr T ts []) :: ys) = Res.row (.slice none 0 0) T ts.length 0 [] :: Yb (hB φ B3) ys := by
      simp only [Yb, List.map_cons, It.conc, Ycz (hB3 _ _ (k3 _ _ hl)), hdOf, Yj]; rfl
     rw [e];exact h2.perm (by rw [List.cons_append]; exact List.perm_middle.symm)
    ·obtain ⟨D, hD⟩ := (k4 B3 hB3 φ).2;exact ⟨(It.arr T ts []).conc (hB φ B3) pid :: D, by simpa [Yb] using hD.cons ((It.arr T ts []).conc (hB φ B3) pid)⟩
   ·rename_i T ts;obtain ⟨ys, B2, rest, es, k1, k2, k3, k3s, k4⟩ := Yb7 ps _ _ _ h;refine ⟨_, _, _, _, k1, ⟨_, _, [.l []], es, rfl, rfl, ⟨_, rfl, rfl⟩, k2⟩, k3, k3s, fun B3 hB3 φ => ⟨fun w0 M A R w hS => ?_, ?_⟩⟩
    ·have h1 := (k4 B3 hB3 φ).1 w0 M _ R w hS;have h2 := h1.add (Ext.refl _) (r := Res.nst (.slice none 0 0) T ts 0 [] fun _ => False) (Yh5 (fun b hb => hb.elim) (fun b hb hz => hz) ⟨rfl, [], ⟨by simp, .inl ⟨rfl, rfl⟩⟩, fun i k t hi => by simp at hi⟩) (by simp [Res.nst, Res.foot, Value.ownBlock]) (fun b hb => hb.elim);have e : Yb (hB φ B3) ((pid, .nst T ts []) :: ys) = Res.nst (.slice none 0 0) T ts 0 [] (fun _ => False) :: Yb (hB φ B3) ys := by
      simp only [Yb, List.map_cons, It.conc, Ycz (hB3 _ _ (k3 _ _ hl)), hdOf]; rfl
     rw [e];exact h2.perm (by rw [List.cons_append]; exact List.perm_middle.symm)
    ·obtain ⟨D, hD⟩ := (k4 B3 hB3 φ).2;exact ⟨(It.nst T ts []).conc (hB φ B3) pid :: D, by simpa [Yb] using hD.cons ((It.nst T ts []).conc (hB φ B3) pid)⟩
   ·exact h.elim
  ·rename_i x hl
   split at h
   ·rename_i ts;obtain ⟨xs, h, hv⟩ := Ytm h;obtain ⟨ys, B2, rest, es, k1, k2, k3, k3s, k4⟩ := Yb7 ps _ _ _ h;refine ⟨_, _, _, _, k1, ⟨_, _, [.l xs], es, rfl, rfl, ⟨_, rfl, rfl⟩, k2⟩, k3, k3s, fun B3 hB3 φ => ⟨fun w0 M A R w hS => ?_, ?_⟩⟩
    ·have h1 := (k4 B3 hB3 φ).1 w0 M _ R w hS;have h2 := hv φ _ _ _ _ h1;have e : Yb (hB φ B3) ((pid, .fro ts xs) :: ys) = Res.fro (x.conc φ) ts xs InW.F :: Yb (hB φ B3) ys := by
      simp only [Yb, List.map_cons, It.conc, Ycz (hB3 _ _ (k3 _ _ hl)), hdOf]
     rw [e];exact h2.perm (by rw [List.cons_append]; exact List.perm_middle.symm)
    ·obtain ⟨D, hD⟩ := (k4 B3 hB3 φ).2;exact ⟨(It.fro ts xs).conc (hB φ B3) pid :: D, by simpa [Yb] using hD.cons ((It.fro ts xs).conc (hB φ B3) pid)⟩
   ·exact h.elim
  ·exact h.elim
theorem Ye6 : ∀ (ps : List (Nat × PI)) (B : Bd) (hp : Heap) (K : Heap -> Bd -> Heap -> List Ed -> Prop), Ydn ps B hp K -> ∃ ys B' rest es, K ys B' rest es /\ Yhp ps ys es /\ ExtB B B' /\ rest.Sublist hp /\
  ∀ B2, ExtB B' B2 -> ∀ (φ : Phi) (w0 : World) (M : List Nat) (A R : RL) (w : World), St w0 M (A ++ (Yb φ hp ++ R)) w -> St w0 M (A ++ (Yb (hB φ B2) ys ++ (Yb φ rest ++ R))) w := fun ps B hp K h => by
 obtain ⟨ys, B', rest, es, a, b, c, d, e⟩ := Yb7 ps B hp K h;exact ⟨ys, B', rest, es, a, b, c, d, fun B2 hB2 φ => (e B2 hB2 φ).1⟩
def oid (t : Nat) : Nat := 3 * (1000 + t) + 1
def Yc1 : List (Nat × AV) -> Nat -> Option AV
 | [], _ => none
 | p :: s, t => match Nat.beq p.1 t with | true => some p.2 | false => Yc1 s t
def Yjs (s : List (Nat × AV)) : Nat -> Nat -> List AV
 | _, 0 => []
 | t, n + 1 => (match Yc1 s t with | some y => y | none => .opq (oid t)) :: Yjs s (t + 1) n
def tmOf (len : Nat) (s : List (Nat × AV)) : List AV := Yjs s 0 len
theorem Ygg (s : List (Nat × AV)) : ∀ (n t k : Nat), (Yjs s t n)[k]? = if k < n then some (match Yc1 s (t + k) with | some y => y | none => .opq (oid (t + k))) else none
 | 0, t, k => by simp [Yjs]
 | n + 1, t, 0 => by simp [Yjs]
 | n + 1, t, k + 1 => by simp [Yjs, Ygg s n (t + 1) k, show t + 1 + k = t + (k + 1) by omega]
theorem Ye3 (s : List (Nat × AV)) : ∀ (n t : Nat), (Yjs s t n).length = n
 | 0, _ => rfl
 | n + 1, t => by simp [Yjs, Ye3 s n]
def Ynp : List (Nat × Pt) -> List (Nat × AV) -> List Ed -> Prop
 | [], s, es => s = [] /\ es = []
 | p :: ps, s, es => ∃ y s' e1 e2, s = (p.1, y) :: s' /\ es = e1 ++ e2 /\ Ynq p.2 y e1 /\ Ynp ps s' e2
def Yzp (p : Pt) (x : AV) (B : Bd) (K : AV -> Bd -> List Ed -> Prop) : Prop :=
 match p with
 | .held q => (match x with | .held z => Ybs q z B fun y B es => K (.held y) B es | _ => Stuck 457)
 | p => Ybs p x B K
def Yvt (tm : List AV) : List (Nat × Pt) -> Bd -> (List (Nat × AV) -> Bd -> List Ed -> Prop) -> Prop
 | [], B, K => K [] B []
 | (t, p) :: ps, B, K => getK tm t fun x => Yzp p x B fun y B e1 => Yvt tm ps B fun s B e2 => K ((t, y) :: s) B (e1 ++ e2)
def FitS (B : Bd) (x y : AV) : Prop := (x.rd = true /\ y.rd = true /\ Same B x y) \/ ∃ x' y', x = .held x' /\ y = .held y' /\ Same B x' y'
theorem FitS.ext {B B' : Bd} {x y : AV} (h : FitS B x y) (hB : ExtB B B') : FitS B' x y := by
 rcases h with ⟨h1, h2, h3⟩ | ⟨x', y', h1, h2, h3⟩
 ·exact .inl ⟨h1, h2, h3.ext hB⟩
 ·exact .inr ⟨x', y', h1, h2, h3.ext hB⟩
theorem Yuj {p : Pt} {x : AV} {B : Bd} {K : AV -> Bd -> List Ed -> Prop} (h : Yzp p x B K) : ∃ y B' es, K y B' es /\ Ynq p y es /\ ExtB B B' /\ FitS B' x y := by
 unfold Yzp at h
 split at h
 ·split at h
  ·obtain ⟨y, B', es, h1, h2, h3, h4, _⟩ := Yc6 _ _ _ _ h;exact ⟨_, _, _, h1, ⟨_, rfl, h2⟩, h3, .inr ⟨_, _, rfl, rfl, h4⟩⟩
  ·exact h.elim
 ·obtain ⟨y, B', es, h1, h2, h3, h4, h5, h6⟩ := Yc6 _ _ _ _ h;exact ⟨_, _, _, h1, h2, h3, .inl ⟨h5, h6, h4⟩⟩
theorem Yhe {tm : List AV} : ∀ (ps : List (Nat × Pt)) (B : Bd) (K : List (Nat × AV) -> Bd -> List Ed -> Prop), Yvt tm ps B K -> ∃ s B' es, K s B' es /\ Ynp ps s es /\ ExtB B B' /\ ∀ q ∈ s, ∃ x, tm[q.1]? = some x /\ FitS B' x q.2
 | [], B, K, h => ⟨[], B, [], h, ⟨rfl, rfl⟩, .refl _, fun q hq => by cases hq⟩
 | (t, p) :: ps, B, K, h => by
  obtain ⟨x, h1, h2⟩ := Ybp h;obtain ⟨y, B1, e1, h3, h4, h5, h6⟩ := Yuj h2;obtain ⟨s, B2, e2, k1, k2, k3, k4⟩ := Yhe ps B1 _ h3;refine ⟨_, _, _, k1, ⟨_, _, _, _, rfl, rfl, h4, k2⟩, h5.trans k3, fun q hq => ?_⟩;rcases List.mem_cons.1 hq with rfl | hq
  ·exact ⟨x, h1, h6.ext k3⟩
  ·exact k4 q hq
theorem Yl6 {s : List (Nat × AV)} {t : Nat} {y : AV} : Yc1 s t = some y -> (t, y) ∈ s := by
 induction s with
 | nil => intro h; cases h
 | cons p s ih =>
  intro h;unfold Yc1 at h
  split at h
  ·rename_i hb;cases h;rw [<- Yd.1 hb];exact List.mem_cons_self
  ·exact List.mem_cons_of_mem _ (ih h)
end Go.Proofs.Ytfbhampnigdaaaa
namespace Go.Proofs.Ytfbhampnigdaaaa
open Go.RowKit
variable [InW]
attribute [local irreducible] Go.Oper.wp
def Yea (φ : Phi) (B : Bd) (a : Act) : Phi := fun i => if i % 3 = 1 /\ 3001 <= i then ⟨0, false, 0, none, 0, a.tmps.getD (i / 3 - 1000) undef, fun _ => False⟩ else hB φ B i
theorem Yry (φ : Phi) (B : Bd) (a : Act) (t : Nat) : (Yea φ B a (oid t)).v = a.tmps.getD t undef := by
 have h1 : oid t % 3 = 1 /\ 3001 <= oid t := by unfold oid; omega
 have h2 : oid t / 3 - 1000 = t := by unfold oid; omega
 simp [Yea, h1, h2]
def Ycm (i : Nat) : Bool := !(Nat.beq (i % 3) 1 && Nat.ble 3001 i)
theorem Y0 {φ : Phi} {B : Bd} {a : Act} {i : Nat} (h : Ycm i = true) : Yea φ B a i = hB φ B i := by
 unfold Yea;rw [if_neg];rintro ⟨h1, h2⟩;simp only [Ycm, Yd.2 h1, Nat.ble_eq_true_of_le h2, Bool.and_self, Bool.not_true, Bool.false_eq_true] at h
theorem Yw9 {x : AV} (h : x.rd = true) : x.isHeld = false := by cases x <;> first | rfl | cases h
def Yj4 (s : List (Nat × AV)) : List AV -> Nat -> Bool
 | [], _ => true
 | x :: xs, t => match x with
  | .held _ => (match Yc1 s t with | some _ => Yj4 s xs (t + 1) | none => false)
  | _ => Yj4 s xs (t + 1)
theorem Yhj {s : List (Nat × AV)} : ∀ {xs : List AV} {t : Nat}, Yj4 s xs t = true -> ∀ (k : Nat) (x : AV), xs[k]? = some x -> x.isHeld = true -> ∃ y, Yc1 s (t + k) = some y
 | [], _, _, k, x, h, _ => by simp at h
 | z :: xs, t, hh, k, x, hx, hd => by
  have rest : Yj4 s xs (t + 1) = true := by
   unfold Yj4 at hh
   split at hh
   ·split at hh
    ·exact hh
    ·cases hh
   ·exact hh
  cases k with
  | zero =>
   simp only [List.getElem?_cons_zero, Option.some.injEq] at hx;subst hx;cases z <;> simp [AV.isHeld] at hd;unfold Yj4 at hh;simp only at hh
   split at hh
   ·rename_i y hy; exact ⟨y, by simpa using hy⟩
   ·cases hh
  | succ k =>
   have := Yhj rest k x (by simpa using hx) hd;rwa [show t + (k + 1) = t + 1 + k by omega]
theorem Ysr {x : AV} {xs : List AV} (h : x.isHeld = false) : Ybt (x :: xs) = Ybt xs := by cases x <;> first | rfl | cases h
def Y1f (φ φ2 : Phi) (a : Act) (k : Nat) (x y : AV) : Prop :=
 (x.isHeld = false /\ y.isHeld = false /\ (y.rd = true -> a.tmps[k]? = some (y.conc φ2))) \/ ∃ x' y', x = .held x' /\ y = .held y' /\ y'.conc φ2 = x'.conc φ
theorem Yo2 {φ φ2 : Phi} {a : Act} : ∀ {xs ys : List AV} {t : Nat}, xs.length = ys.length -> (∀ k x y, xs[k]? = some x -> ys[k]? = some y -> Y1f φ φ2 a (t + k) x y) -> (Ybt ys).map (Yfc φ2) = (Ybt xs).map (Yfc φ)
 | [], [], _, _, _ => rfl
 | x :: xs, y :: ys, t, hl, h => by
  have ih := Yo2 (φ := φ) (φ2 := φ2) (a := a) (xs := xs) (ys := ys) (t := t + 1) (by simpa using hl) fun k u v hu hv => by
   rw [show t + 1 + k = t + (k + 1) by omega];exact h (k + 1) u v (by simpa using hu) (by simpa using hv)
  rcases h 0 x y rfl rfl with ⟨h1, h2, _⟩ | ⟨x', y', rfl, rfl, hf⟩
  ·rw [Ysr h1, Ysr h2];exact ih
  ·simp only [Ybt, List.map_cons, ih, Yfc, hf]
 | [], _ :: _, _, hl, _ => by simp at hl
 | _ :: _, [], _, hl, _ => by simp at hl
theorem RepT.as {φ φ2 : Phi} {tm tm2 : List AV} {a : Act} (h : RepT φ tm a) (hl : tm.length = tm2.length) (hs : ∀ k x y, tm[k]? = some x -> tm2[k]? = some y -> Y1f φ φ2 a k x y) : RepT φ2 tm2 a := by
 have get : ∀ k y, tm2[k]? = some y -> ∃ x, tm[k]? = some x /\ Y1f φ φ2 a k x y := fun k y hy => by
  have hk : k < tm.length := by rw [hl]; exact (List.getElem?_eq_some_iff.1 hy).1
  exact ⟨tm[k], List.getElem?_eq_getElem hk, hs k _ _ (List.getElem?_eq_getElem hk) hy⟩
 refine ⟨fun t v hv hh => ?_, fun t v hv hh => ?_, fun t v hv hr => ?_, ?_, by rw [<- hl]; exact h.len⟩
 ·obtain ⟨x, hx, h1⟩ := get t v hv;rcases h1 with ⟨h2, _, _⟩ | ⟨_, _, _, rfl, _⟩
  ·exact h.size t x hx h2
  ·cases hh
 ·obtain ⟨x, hx, h1⟩ := get t v hv;rcases h1 with ⟨_, h2, _⟩ | ⟨x', _, rfl, rfl, _⟩
  ·rw [h2] at hh; cases hh
  ·exact h.held t _ hx rfl
 ·obtain ⟨x, hx, h1⟩ := get t v hv;rcases h1 with ⟨_, _, h2⟩ | ⟨x', _, rfl, rfl, _⟩
  ·exact h2 hr
  ·cases hr
 ·rw [h.df]
  congr 1
  exact (Yo2 (t := 0) hl fun k x y hx hy => by rw [Nat.zero_add]; exact hs k x y hx hy).symm
mutual
theorem Ykj {φ : Phi} {B : Bd} {a : Act} : ∀ y : AV, y.ids Ycm = true -> y.conc (Yea φ B a) = y.conc (hB φ B)
 | .v _, _ => rfl
 | .ptr id k, h => by simp only [AV.conc, Y0 (show Ycm id = true from h)]
 | .sl id _ _ _, h => by simp only [AV.conc, Y0 (show Ycm id = true from h)]
 | .slc id _ _ _, h => by simp only [AV.conc, Y0 (show Ycm id = true from h)]
 | .emp id, h => by simp only [AV.conc, Y0 (show Ycm id = true from h)]
 | .agg cs, h => by simp only [AV.conc, Yb8 cs h]
 | .tup cs, h => by simp only [AV.conc, Yb8 cs h]
 | .fn f x y, h => by
  unfold AV.ids at h
  split at h
  ·rename_i h1;simp only [AV.conc, Yb8 x h1, Yb8 y h]
  ·cases h
 | .ifc t x, h => by simp only [AV.conc, Ykj x h]
 | .mp id, h => by simp only [AV.conc, Y0 (show Ycm id = true from h)]
 | .yl id, h => by simp only [AV.conc, Y0 (show Ycm id = true from h)]
 | .held _, _ => rfl
 | .junk, _ => rfl
 | .si _ _, _ => rfl
 | .sb _, _ => rfl
 | .ss _, _ => rfl
 | .rs _ _, _ => rfl
 | .rp _ _ _ _, _ => rfl
 | .rw id, h => by simp only [AV.conc, Y0 (show Ycm id = true from h)]
 | .ep id _ _ _, h => by simp only [AV.conc, Y0 (show Ycm id = true from h)]
 | .rwp id _ _ _, h => by simp only [AV.conc, Y0 (show Ycm id = true from h)]
 | .opq id, h => by simp only [AV.conc, Y0 (show Ycm id = true from h)]
 | .fp id _ _ _, h => by simp only [AV.conc, Y0 (show Ycm id = true from h)]
theorem Yb8 {φ : Phi} {B : Bd} {a : Act} : ∀ ys : List AV, AV.idsL Ycm ys = true -> AV.concL (Yea φ B a) ys = AV.concL (hB φ B) ys
 | [], _ => rfl
 | y :: ys, h => by
  unfold AV.idsL at h
  split at h
  ·rename_i h1;simp only [AV.concL, Ykj y h1, Yb8 ys h]
  ·cases h
end
theorem Y5p {φ : Phi} {B : Bd} {a : Act} {pid : Nat} (hp : Ycm pid = true) : ∀ it : It, it.ids Ycm = true -> it.conc (Yea φ B a) pid = it.conc (hB φ B) pid
 | .blk _ cs, h => by simp only [It.conc, Y0 hp, Yb8 cs h]
 | .row _ _ _ cs, h => by simp only [It.conc, Y0 hp, Yb8 cs h]
 | .rowV .., _ => by simp only [It.conc, Y0 hp]
 | .obj _, _ => by simp only [It.conc, Y0 hp]
 | .lp _ cs, h => by simp only [It.conc, Y0 hp, Yb8 cs h]
 | .dead, _ => rfl
 | .arr .., _ => by simp only [It.conc, Y0 hp]
 | .bk _ _ _ j, h => by simp only [It.conc, Y0 hp, Y0 (show Ycm j = true from h)]
 | .nst .., _ => by simp only [It.conc, Y0 hp]
 | .fro .., _ => by simp only [It.conc, Y0 hp]
 | .bkv _ _ _ cs j, h => by
  have h' : (match Ycm j with | true => AV.idsL Ycm cs | false => false) = true := h
  split at h'
  ·rename_i h1;simp only [It.conc, Y0 hp, Y0 h1, Yb8 cs h']
  ·cases h'
def lowH : Heap -> Bool
 | [] => true
 | p :: h => Ycm p.1 && p.2.ids Ycm && lowH h
theorem Yzr {φ : Phi} {B : Bd} {a : Act} : ∀ h : Heap, lowH h = true -> Yb (Yea φ B a) h = Yb (hB φ B) h
 | [], _ => rfl
 | p :: h, hh => by
  simp only [lowH, Bool.and_eq_true] at hh;have := Yzr (φ := φ) (B := B) (a := a) h hh.2;simp only [Yb, List.map_cons, Y5p hh.1.1 p.2 hh.1.2] at this ⊢;rw [this]
def lowS : List (Nat × AV) -> Bool
 | [] => true
 | p :: s => p.2.ids Ycm && lowS s
theorem Yvw : ∀ {s : List (Nat × AV)}, lowS s = true -> ∀ q ∈ s, q.2.ids Ycm = true
 | [], _, q, hq => by cases hq
 | p :: s, h, q, hq => by
  simp only [lowS, Bool.and_eq_true] at h;rcases List.mem_cons.1 hq with rfl | hq
  ·exact h.1
  ·exact Yvw h.2 q hq
def nthA : List AV -> Nat -> AV
 | [], _ => .junk
 | x :: xs, n => match n with | 0 => x | n + 1 => nthA xs n
def Y41 (id : Nat) (hp : Heap) (K : Heap -> Prop) : Prop :=
 match look hp id with
 | some (.bk T ts xs j) => (match look hp j with
  | some (.arr T' ts' zs) => Yc (Nat.beq T' T && Yb4.sameTs ts' ts && !(Nat.beq j id)) (Pre (zs.take xs.length = xs) (updK hp id (.arr T ts xs) fun hp => updK hp j .dead K))
  | _ => K hp)
 | _ => K hp
def Ym1 : List (Nat × Pt) -> List AV -> Heap -> (Heap -> Prop) -> Prop
 | [], _, hp, K => K hp
 | p :: ps, tm, hp, K => match p.2 with
  | .row _ => (match nthA tm p.1 with | .rw id => Y41 id hp fun hp => Ym1 ps tm hp K | _ => Ym1 ps tm hp K)
  | _ => Ym1 ps tm hp K
theorem Y13 {hp : Heap} (hn : (keys hp).Nodup) {i j : Nat} {x y : It} (hi : look hp i = some x) (hj : look hp j = some y) (hne : i ≠ j) : ∃ r, hp.Perm ((i, x) :: (j, y) :: r) /\ ∀ x' y', (upd (upd hp i x') j y').Perm ((i, x') :: (j, y') :: r) := by
 induction hp with
 | nil => simp [look] at hi
 | cons p h ih =>
  simp only [keys, List.map_cons, List.nodup_cons] at hn;have one : ∀ (h : Heap), (keys h).Nodup -> ∀ (k : Nat) (z : It), look h k = some z -> ∃ r, h.Perm ((k, z) :: r) /\ ∀ z', (upd h k z').Perm ((k, z') :: r) := by
   intro h
   induction h with
   | nil => intro _ k z hk; simp [look] at hk
   | cons q h ih2 =>
    intro hn k z hk;simp only [keys, List.map_cons, List.nodup_cons] at hn;rw [Yr] at hk
    split at hk
    ·rename_i e;cases hk;refine ⟨h, by rw [<- e], fun z' => ?_⟩;unfold upd;rw [Yd.2 e, <- e]
    ·rename_i e;obtain ⟨r, h1, h2⟩ := ih2 hn.2 k z hk;refine ⟨q :: r, (h1.cons q).trans (List.Perm.swap _ _ _), fun z' => ?_⟩;unfold upd;rw [Y2.2 e];exact ((h2 z').cons q).trans (List.Perm.swap _ _ _)
  rw [Yr] at hi hj
  by_cases e1 : p.1 = i
  ·rw [if_pos e1] at hi;cases hi;have e2 : p.1 ≠ j := fun e => hne (e1.symm.trans e);rw [if_neg e2] at hj;obtain ⟨r, h1, h2⟩ := one h hn.2 j y hj;refine ⟨r, by rw [<- e1]; exact h1.cons p, fun x' y' => ?_⟩;have e3 : upd (p :: h) i x' = (p.1, x') :: h := by unfold upd; rw [Yd.2 e1]
   rw [e3];unfold upd;rw [Y2.2 e2, <- e1];exact (h2 y').cons _
  ·rw [if_neg e1] at hi
   by_cases e2 : p.1 = j
   ·rw [if_pos e2] at hj;cases hj;obtain ⟨r, h1, h2⟩ := one h hn.2 i x hi;refine ⟨r, ?_, fun x' y' => ?_⟩
    ·rw [<- e2]; exact (h1.cons p).trans (List.Perm.swap _ _ _)
    ·have e3 : upd (p :: h) i x' = p :: upd h i x' := by conv => lhs; unfold upd; rw [Y2.2 e1]
     rw [e3]
     conv => lhs; unfold upd; rw [Yd.2 e2]
     rw [<- e2];exact ((h2 x').cons _).trans (List.Perm.swap _ _ _)
   ·rw [if_neg e2] at hj;obtain ⟨r, h1, h2⟩ := ih hn.2 hi hj;refine ⟨p :: r, (h1.cons p).trans ?_, fun x' y' => ?_⟩
    ·exact (List.Perm.swap _ _ _).trans ((List.Perm.swap _ _ _).cons _)
    ·have e3 : upd (upd (p :: h) i x') j y' = p :: upd (upd h i x') j y' := by
      have e4 : upd (p :: h) i x' = p :: upd h i x' := by conv => lhs; unfold upd; rw [Y2.2 e1]
      rw [e4]
      conv => lhs; unfold upd; rw [Y2.2 e2]
     rw [e3];exact ((h2 x' y').cons p).trans ((List.Perm.swap _ _ _).trans ((List.Perm.swap _ _ _).cons _))
theorem Yx3 {id : Nat} {hp : Heap} {K : Heap -> Prop} (h : Y41 id hp K) : ∃ hp', K hp' /\ ∀ (φ0 φ : Phi) (w0 : World) (M : List Nat) (R : RL) (tm : List AV) (a : Act) (w : World), RepS φ0 φ w0 M R tm hp a w -> RepS φ0 φ w0 M R tm hp' a w := by
 unfold Y41 at h
 split at h
 ·rename_i T ts xs j hl
  split at h
  ·rename_i T' ts' zs hl2;obtain ⟨h1, h2⟩ := Ya h;simp only [Bool.and_eq_true, Yd, Bool.not_eq_true'] at h1;obtain ⟨⟨rfl, h12⟩, h13⟩ := h1;obtain ⟨e, _⟩ := Y6 h12;subst e;obtain ⟨h3, h4⟩ := h2;have h5 := Yec.1 (Yec.1 h4);refine ⟨_, h5, fun φ0 φ w0 M R tm a w hr => ⟨hr.tmps, ?_, by rw [Ykm, Ykm]; exact hr.nd, hr.base⟩⟩;have hne : id ≠ j := fun e => Y2.1 h13 e.symm;obtain ⟨r, p1, p2⟩ := Y13 hr.nd hl hl2 hne;have hS := hr.st.perm ((Yu p1).append_right R);have hS2 := St.lentBack (R := Yb φ r ++ R) h3 (by simpa [Yb] using hS);refine (show St w0 M (Yb φ ((id, .arr T' ts' xs) :: (j, .dead) :: r) ++ R) w by simpa [Yb] using hS2).perm ?_;exact ((Yu (p2 _ _)).append_right R).symm
  ·exact ⟨_, h, fun _ _ _ _ _ _ _ _ hr => hr⟩
 ·exact ⟨_, h, fun _ _ _ _ _ _ _ _ hr => hr⟩
theorem Yd8 : ∀ {ps : List (Nat × Pt)} {tm : List AV} {hp : Heap} {K : Heap -> Prop}, Ym1 ps tm hp K -> ∃ hp', K hp' /\ ∀ (φ0 φ : Phi) (w0 : World) (M : List Nat) (R : RL) (tm : List AV) (a : Act) (w : World), RepS φ0 φ w0 M R tm hp a w -> RepS φ0 φ w0 M R tm hp' a w
 | [], _, _, _, h => ⟨_, h, fun _ _ _ _ _ _ _ _ hr => hr⟩
 | p :: ps, tm, hp, K, h => by
  unfold Ym1 at h
  split at h
  ·split at h
   ·obtain ⟨hp1, h1, h2⟩ := Yx3 h;obtain ⟨hp2, h3, h4⟩ := Yd8 h1;exact ⟨hp2, h3, fun φ0 φ w0 M R tm a w hr => h4 φ0 φ w0 M R tm a w (h2 φ0 φ w0 M R tm a w hr)⟩
   ·exact Yd8 h
  ·exact Yd8 h
def Y3n (T : List (Nat × Pt)) (H : List (Nat × PI)) (tm : List AV) (hp : Heap) (K : List (Nat × AV) -> Heap -> Bd -> Heap -> List Ed -> Prop) : Prop :=
 Yvt tm T [] fun s B e1 => Ydn H B hp fun ys B rest e2 => Yc (Yj4 s tm 0 && lowS s && lowH ys && Yer (ys.map (·.1))) (K s ys B rest (e1 ++ e2))
def Ywh (φ : Phi) : Phi := fun x => φ (3 * x + 1)
theorem Yuz {T : List (Nat × Pt)} {H : List (Nat × PI)} {tm : List AV} {hp : Heap} {K : List (Nat × AV) -> Heap -> Bd -> Heap -> List Ed -> Prop} (h : Y3n T H tm hp K) :
  ∃ s ys B rest e1 e2, K s ys B rest (e1 ++ e2) /\ Ynp T s e1 /\ Yhp H ys e2 /\ rest.Sublist hp /\ (∀ (k : Nat) (x : AV), tm[k]? = some x -> x.isHeld = true -> ∃ y, Yc1 s k = some y) /\ (∀ q ∈ s, ∃ x, tm[q.1]? = some x /\ FitS B x q.2) /\ (keys ys).Nodup /\
   ∀ (φ0 φ : Phi) (w0 : World) (M : List Nat) (R : RL) (a : Act) (w : World), RepS φ0 φ w0 M R tm hp a w -> RepS (Ywh (Yea φ B a)) (Yea φ B a) w0 M (Yb φ rest ++ R) (tmOf tm.length s) ys a w := by
 obtain ⟨s, B1, e1, h1, h2, h3, h4⟩ := Yhe T [] _ h;obtain ⟨ys, B2, rest, e2, k1, k2, k3, k3s, k4⟩ := Ye6 H B1 hp _ h1;obtain ⟨hb, hk⟩ := Ya k1;simp only [Bool.and_eq_true] at hb;obtain ⟨⟨⟨b1, b2⟩, b3⟩, b4⟩ := hb;have hheld : ∀ (k : Nat) (x : AV), tm[k]? = some x -> x.isHeld = true -> ∃ y, Yc1 s k = some y := fun k x hx hd => by
  have := Yhj b1 k x hx hd;simpa using this
 have hfit : ∀ q ∈ s, ∃ x, tm[q.1]? = some x /\ FitS B2 x q.2 := fun q hq => by
  obtain ⟨x, hx, hf⟩ := h4 q hq;exact ⟨x, hx, hf.ext k3⟩
 refine ⟨s, ys, B2, rest, e1, e2, hk, h2, k2, k3s, hheld, hfit, Ybe b4, fun φ0 φ w0 M R a w hr => ⟨?_, ?_, Ybe b4, fun x => rfl⟩⟩
 ·refine hr.tmps.as (by rw [tmOf, Ye3]) fun k x y hx hy => ?_;rw [tmOf, Ygg, Nat.zero_add] at hy
  split at hy
  ·simp only [Option.some.injEq] at hy
   split at hy
   ·rename_i y' hl;subst hy;obtain ⟨x', hx', hf⟩ := hfit _ (Yl6 hl);rw [hx] at hx';cases hx';have hlow := Yvw b2 _ (Yl6 hl);rcases hf with ⟨f1, f2, f3⟩ | ⟨x1, y1, f1, f2, f3⟩
    ·refine .inl ⟨Yw9 f1, Yw9 f2, fun _ => ?_⟩;rw [Ykj _ hlow, f3 B2 (.refl _) φ];exact hr.tmps.slot k x hx f1
    ·dsimp only at f2;subst f1; subst f2;refine .inr ⟨_, _, rfl, rfl, ?_⟩;rw [Ykj _ (show y1.ids Ycm = true from hlow), f3 B2 (.refl _) φ]
   ·rename_i hl;subst hy;have hnh : x.isHeld = false := by
     cases hd : x.isHeld with
     | false => rfl
     | true => obtain ⟨y, hy⟩ := hheld k x hx hd; rw [hl] at hy; cases hy
    refine .inl ⟨hnh, rfl, fun _ => ?_⟩;have hk2 := hr.tmps.size k x hx hnh
    show a.tmps[k]? = some (Yea φ B2 a (oid k)).v
    rw [Yry];simp [Array.getD_eq_getD_getElem?, hk2]
  ·cases hy
 ·have := k4 B2 (.refl _) φ w0 M [] R w (by simpa using hr.st);rw [Yzr ys b3];simpa using this
end Go.Proofs.Ytfbhampnigdaaaa
namespace Go.Proofs.Ytfbhampnigdaaaa
open Go.RowKit
variable [InW]
attribute [local irreducible] Go.Oper.wp
def inL (t : Nat) : List Nat -> Bool
 | [] => false
 | u :: us => match Nat.beq u t with | true => true | false => inL t us
def Yfw (s : List (Nat × AV)) (J : List Nat) : Nat -> Nat -> List AV
 | _, 0 => []
 | t, n + 1 => (match Yc1 s t with | some y => y | none => (match inL t J with | true => .junk | false => .opq (oid t))) :: Yfw s J (t + 1) n
def Yd9 (len : Nat) (s : List (Nat × AV)) (J : List Nat) : List AV := Yfw s J 0 len
theorem Ydz (s : List (Nat × AV)) (J : List Nat) : ∀ (n t k : Nat), (Yfw s J t n)[k]? = if k < n then some (match Yc1 s (t + k) with | some y => y | none => (match inL (t + k) J with | true => .junk | false => .opq (oid (t + k)))) else none
 | 0, t, k => by simp [Yfw]
 | n + 1, t, 0 => by simp [Yfw]
 | n + 1, t, k + 1 => by simp [Yfw, Ydz s J n (t + 1) k, show t + 1 + k = t + (k + 1) by omega]
theorem Ydd (s : List (Nat × AV)) (J : List Nat) : ∀ (n t : Nat), (Yfw s J t n).length = n
 | 0, _ => rfl
 | n + 1, t => by simp [Yfw, Ydd s J n]
theorem RepT.forget {φ : Phi} {len : Nat} {s : List (Nat × AV)} {J : List Nat} {a : Act} (h : RepT φ (tmOf len s) a) : RepT φ (Yd9 len s J) a := by
 refine h.as (by rw [tmOf, Yd9, Ye3, Ydd]) fun k x y hx hy => ?_;rw [tmOf, Ygg, Nat.zero_add] at hx;rw [Yd9, Ydz, Nat.zero_add] at hy
 split at hx
 ·rename_i hk;rw [if_pos hk] at hy;have hx0 := hx;simp only [Option.some.injEq] at hx hy;have hget : (tmOf len s)[k]? = some x := by rw [tmOf, Ygg, if_pos hk, Nat.zero_add]; exact hx0
  split at hx
  ·rename_i y' hl;rw [hl] at hy;dsimp only at hy;subst hx;subst hy;cases hd : y'.isHeld with
   | false => exact .inl ⟨hd, hd, fun hr => h.slot k _ hget hr⟩
   | true => cases y' <;> first | exact .inr ⟨_, _, rfl, rfl, rfl⟩ | cases hd
  ·rename_i hl;rw [hl] at hy;subst hx;dsimp only at hy
   split at hy
   ·subst hy; exact .inl ⟨rfl, rfl, fun hr => by cases hr⟩
   ·subst hy; exact .inl ⟨rfl, rfl, fun hr => h.slot k _ hget hr⟩
 ·cases hx
def Yus (s : List (Nat × AV)) (J : List Nat) : List AV -> Nat -> Bool
 | [], _ => true
 | x :: xs, t => match Yc1 s t with
  | some _ => Yus s J xs (t + 1)
  | none => (match x with
   | .held _ => false
   | x => (match inL t J with
    | true => Yus s J xs (t + 1)
    | false => (match x with | .opq i => (match Nat.beq i (oid t) with | true => Yus s J xs (t + 1) | false => false) | _ => false)))
theorem Yoy {s : List (Nat × AV)} {J : List Nat} : ∀ {xs : List AV} {t : Nat}, Yus s J xs t = true -> ∀ (k : Nat) (x : AV), xs[k]? = some x -> (∃ y, Yc1 s (t + k) = some y) \/ (Yc1 s (t + k) = none /\ x.isHeld = false /\ (inL (t + k) J = true \/ (inL (t + k) J = false /\ x = .opq (oid (t + k)))))
 | [], _, _, k, x, h => by simp at h
 | z :: xs, t, hh, k, x, hx => by
  have both : Yus s J xs (t + 1) = true /\ ((∃ y, Yc1 s t = some y) \/ (Yc1 s t = none /\ z.isHeld = false /\ (inL t J = true \/ (inL t J = false /\ z = .opq (oid t))))) := by
   unfold Yus at hh
   split at hh
   ·rename_i y hy; exact ⟨hh, .inl ⟨y, hy⟩⟩
   ·rename_i hn
    split at hh
    ·cases hh
    ·rename_i hnh;have hz : z.isHeld = false := by cases z <;> first | rfl | exact (hnh _ rfl).elim
     split at hh
     ·rename_i hj; exact ⟨hh, .inr ⟨hn, hz, .inl hj⟩⟩
     ·rename_i hj
      split at hh
      ·split at hh
       ·rename_i hb; exact ⟨hh, .inr ⟨hn, hz, .inr ⟨hj, by rw [Yd.1 hb]⟩⟩⟩
       ·cases hh
      ·cases hh
  cases k with
  | zero =>
   simp only [List.getElem?_cons_zero, Option.some.injEq] at hx;subst hx;exact both.2
  | succ k =>
   have := Yoy both.1 k x (by simpa using hx);rwa [show t + (k + 1) = t + 1 + k by omega]
def Yrq : Bd -> Bool
 | [] => true
 | (p, s) :: b => (match s with | .id i => (match Nat.beq (p % 3) 1 with | true => Nat.beq i p | false => true) | _ => !(Nat.beq (p % 3) 1)) && Yrq b
theorem Yn5 : ∀ {B : Bd} {p : Nat} {s : Src'}, Yrq B = true -> Yf0 B p = some s -> p % 3 = 1 -> s = .id p
 | [], p, s, _, h, _ => by cases h
 | (q, u) :: b, p, s, hb, h, hp => by
  simp only [Yrq, Bool.and_eq_true] at hb;unfold Yf0 at h
  split at h
  ·rename_i hq;cases h;have e := Yd.1 hq;dsimp only at e;subst e;cases u with
   | id i =>
    have h1 := hb.1;simp only [Yd.2 hp] at h1;rw [Yd.1 h1]
   | nil => have h1 := hb.1; simp only [Yd.2 hp, Bool.not_true, Bool.false_eq_true] at h1
   | conv _ _ => have h1 := hb.1; simp only [Yd.2 hp, Bool.not_true, Bool.false_eq_true] at h1
   | val _ => have h1 := hb.1; simp only [Yd.2 hp, Bool.not_true, Bool.false_eq_true] at h1
  ·exact Yn5 hb.2 h hp
theorem Yuw {φ : Phi} {B : Bd} (h : Yrq B = true) (x : Nat) : hB φ B (3 * x + 1) = φ (3 * x + 1) := by
 unfold hB;cases hl : Yf0 B (3 * x + 1) with
 | none => rfl
 | some s => rw [Yn5 h hl (by omega)]; rfl
def Yrp : List (Nat × PI) -> Bd
 | [] => []
 | p :: h => match Nat.beq (p.1 % 3) 1 with | true => (p.1, .id p.1) :: Yrp h | false => Yrp h
def fitK (T : List (Nat × Pt)) (H : List (Nat × PI)) (J : List Nat) (tm : List AV) (hp : Heap) (Q : List Ed -> Prop) : Prop :=
 Ym1 T tm hp fun hp => Yvt tm T (Yrp H) fun s B e1 => Ydn H B hp fun ys B rest e2 => Yc (Yus s J tm 0 && Yrq B && Yer (ys.map (·.1))) (Q (e1 ++ e2))
theorem Ysu {T : List (Nat × Pt)} {H : List (Nat × PI)} {J : List Nat} {tm : List AV} {hp : Heap} {Q : List Ed -> Prop} (h : fitK T H J tm hp Q) : ∃ s ys e1 e2, Q (e1 ++ e2) /\ Ynp T s e1 /\ Yhp H ys e2 /\
  ∀ (φ0 φ : Phi) (w0 : World) (M : List Nat) (R : RL) (a : Act) (w : World), RepS φ0 φ w0 M R tm hp a w -> ∃ φ2, RepS φ0 φ2 w0 M R (Yd9 tm.length s J) ys a w := by
 obtain ⟨hp1, h, hback⟩ := Yd8 h;obtain ⟨s, B1, e1, h1, h2, h3, h4⟩ := Yhe T _ _ h;obtain ⟨ys, B2, rest, e2, k1, k2, k3, k3s, k4⟩ := Ye6 H B1 hp1 _ h1;obtain ⟨hb, hk⟩ := Ya k1;simp only [Bool.and_eq_true] at hb;obtain ⟨⟨b1, b2⟩, b3⟩ := hb;refine ⟨s, ys, e1, e2, hk, h2, k2, fun φ0 φ w0 M R a w hr0 => ?_⟩;have hr := hback φ0 φ w0 M R tm a w hr0;refine ⟨hB φ B2, ?_, ?_, Ybe b3, fun x => by rw [Yuw b2]; exact hr.base x⟩
 ·refine hr.tmps.as (by rw [Yd9, Ydd]) fun k x y hx hy => ?_;rw [Yd9, Ydz, Nat.zero_add] at hy
  split at hy
  ·simp only [Option.some.injEq] at hy;rcases Yoy b1 k x hx with ⟨y', hl⟩ | ⟨hl, hnh, hj | ⟨hj, rfl⟩⟩
   ·rw [Nat.zero_add] at hl;rw [hl] at hy;subst hy;obtain ⟨x', hx', hf⟩ := h4 _ (Yl6 hl);rw [hx] at hx';cases hx';rcases hf.ext k3 with ⟨f1, f2, f3⟩ | ⟨x1, y1, f1, f2, f3⟩
    ·exact .inl ⟨Yw9 f1, Yw9 f2, fun _ => by rw [f3 B2 (.refl _) φ]; exact hr.tmps.slot k x hx f1⟩
    ·dsimp only at f2;subst f1; subst f2;exact .inr ⟨_, _, rfl, rfl, f3 B2 (.refl _) φ⟩
   ·rw [Nat.zero_add] at hl hj;rw [hl, hj] at hy;subst hy;exact .inl ⟨hnh, rfl, fun hr => by cases hr⟩
   ·rw [Nat.zero_add] at hl hj hx;rw [hl, hj] at hy;subst hy;refine .inl ⟨rfl, rfl, fun _ => ?_⟩;have := hr.tmps.slot k _ hx rfl;rw [this]
    show some (φ (oid k)).v = some (hB φ B2 (oid k)).v
    have e : oid k = 3 * (1000 + k) + 1 := rfl;rw [e, Yuw b2]
  ·cases hy
 ·have := k4 B2 (.refl _) φ w0 M [] R w (by simpa using hr.st);simp only [List.nil_append] at this;exact this.sub ((List.Sublist.refl _).append (List.sublist_append_right _ _))
mutual
def insP : Pt -> List Ed -> Option (AV × List Ed)
 | .int k, es => (match es with | .i n :: es => some (.si k n, es) | _ => none)
 | .bool, es => (match es with | .b x :: es => some (.sb x, es) | _ => none)
 | .str, es => (match es with | .s x :: es => some (.ss x, es) | _ => none)
 | .lit v, es => some (.v v, es)
 | .ptr pid k, es => some (.ptr pid k, es)
 | .row pid, es => some (.rw pid, es)
 | .rs _, es => (match es with | .ro ts r :: es => some (.rs ts r, es) | _ => none)
 | .mp pid, es => some (.mp pid, es)
 | .yl pid, es => some (.yl pid, es)
 | .opq pid, es => some (.opq pid, es)
 | .agg ps, es => (match insL ps es with | some (ys, es) => some (.agg ys, es) | none => none)
 | .tup ps, es => (match insL ps es with | some (ys, es) => some (.tup ys, es) | none => none)
 | .fn f a b, es => (match insL a es with | some (xs, es) => (match insL b es with | some (ys, es) => some (.fn f xs ys, es) | none => none) | none => none)
 | .ifc t p, es => (match insP p es with | some (y, es) => some (.ifc t y, es) | none => none)
 | .held p, es => (match insP p es with | some (y, es) => some (.held y, es) | none => none)
 | .sl pid a b c, es => some (.sl pid a b c, es)
 | .slc pid a b c, es => some (.slc pid a b c, es)
 | .rwp pid sz, es => (match es with | .i l :: .i n :: es => some (.rwp pid sz l.toNat n.toNat, es) | _ => none)
 | .emp pid, es => some (.emp pid, es)
def insL : List Pt -> List Ed -> Option (List AV × List Ed)
 | [], es => some ([], es)
 | p :: ps, es => (match insP p es with | some (y, es) => (match insL ps es with | some (ys, es) => some (y :: ys, es) | none => none) | none => none)
end
mutual
theorem Yjc : ∀ (p : Pt) (y : AV) (es e : List Ed), Ynq p y es -> insP p (es ++ e) = some (y, e)
 | .int k, _, _, e, ⟨n, rfl, rfl⟩ => rfl
 | .bool, _, _, e, ⟨n, rfl, rfl⟩ => rfl
 | .str, _, _, e, ⟨n, rfl, rfl⟩ => rfl
 | .lit v, _, _, e, ⟨rfl, rfl⟩ => rfl
 | .ptr pid k, _, _, e, ⟨rfl, rfl⟩ => rfl
 | .row pid, _, _, e, ⟨rfl, rfl⟩ => rfl
 | .rs _, _, _, e, ⟨r, rfl, rfl⟩ => rfl
 | .mp pid, _, _, e, ⟨rfl, rfl⟩ => rfl
 | .yl pid, _, _, e, ⟨rfl, rfl⟩ => rfl
 | .opq pid, _, _, e, ⟨rfl, rfl⟩ => rfl
 | .agg ps, _, es, e, ⟨xs, rfl, h⟩ => by unfold insP; rw [Yf6 ps xs es e h]
 | .tup ps, _, es, e, ⟨xs, rfl, h⟩ => by unfold insP; rw [Yf6 ps xs es e h]
 | .fn f a b, _, _, e, ⟨xs, ys, e1, e2, rfl, rfl, h1, h2⟩ => by
  unfold insP;rw [List.append_assoc, Yf6 a xs e1 (e2 ++ e) h1];simp only [Yf6 b ys e2 e h2]
 | .ifc t p, _, es, e, ⟨y, rfl, h⟩ => by unfold insP; rw [Yjc p y es e h]
 | .held p, _, es, e, ⟨y, rfl, h⟩ => by unfold insP; rw [Yjc p y es e h]
 | .sl pid a b c, _, _, e, ⟨rfl, rfl⟩ => rfl
 | .slc pid a b c, _, _, e, ⟨rfl, rfl⟩ => rfl
 | .rwp pid sz, _, _, e, ⟨l, n, rfl, rfl⟩ => rfl
 | .emp pid, _, _, e, ⟨rfl, rfl⟩ => rfl
theorem Yf6 : ∀ (ps : List Pt) (ys : List AV) (es e : List Ed), Ykb ps ys es -> insL ps (es ++ e) = some (ys, e)
 | [], _, _, e, ⟨rfl, rfl⟩ => rfl
 | p :: ps, _, _, e, ⟨x, xs, e1, e2, rfl, rfl, h1, h2⟩ => by
  unfold insL;rw [List.append_assoc, Yjc p x e1 (e2 ++ e) h1];simp only [Yf6 ps xs e2 e h2]
end
def insT : List (Nat × Pt) -> List Ed -> Option (List (Nat × AV) × List Ed)
 | [], es => some ([], es)
 | (t, p) :: ps, es => (match insP p es with | some (y, es) => (match insT ps es with | some (ys, es) => some ((t, y) :: ys, es) | none => none) | none => none)
theorem Yz2 : ∀ (ps : List (Nat × Pt)) (s : List (Nat × AV)) (es e : List Ed), Ynp ps s es -> insT ps (es ++ e) = some (s, e)
 | [], _, _, e, ⟨rfl, rfl⟩ => rfl
 | (t, p) :: ps, _, _, e, ⟨x, xs, e1, e2, rfl, rfl, h1, h2⟩ => by
  unfold insT;rw [List.append_assoc, Yjc p x e1 (e2 ++ e) h1];simp only [Yz2 ps xs e2 e h2]
def insI (p : PI) (es : List Ed) : Option (It × List Ed) :=
 match p with
 | .blk T ps => (match insL ps es with | some (ys, es) => some (.blk T ys, es) | none => none)
 | .arr T ts => (match es with | .l xs :: es => some (.arr T ts xs, es) | _ => none)
 | .row T sz n ps => (match insL ps es with | some (ys, es) => some (.row T sz n ys, es) | none => none)
 | .obj x => some (.obj x, es)
 | .mpI => (match es with | .m xs :: es => some (.obj (.mpI xs), es) | _ => none)
 | .mpP => (match es with | .l xs :: es => some (.obj (.mpP xs), es) | _ => none)
 | .lp L ps => (match insL ps es with | some (ys, es) => some (.lp L ys, es) | none => none)
 | .dead => some (.dead, es)
 | .nst T ts => (match es with | .l xs :: es => some (.nst T ts xs, es) | _ => none)
 | .fro ts => (match es with | .l xs :: es => some (.fro ts xs, es) | _ => none)
theorem Y4j (p : PI) (it : It) (es e : List Ed) (h : Y29 p it es) : insI p (es ++ e) = some (it, e) := by
 cases p with
 | blk T ps => obtain ⟨xs, rfl, h⟩ := h; unfold insI; simp only [Yf6 ps xs es e h]
 | arr T ts => obtain ⟨xs, rfl, rfl⟩ := h; rfl
 | row T sz n ps => obtain ⟨xs, rfl, h⟩ := h; unfold insI; simp only [Yf6 ps xs es e h]
 | obj x => obtain ⟨rfl, rfl⟩ := h; rfl
 | mpI => obtain ⟨xs, rfl, rfl⟩ := h; rfl
 | mpP => obtain ⟨xs, rfl, rfl⟩ := h; rfl
 | lp L ps => obtain ⟨xs, rfl, h⟩ := h; unfold insI; simp only [Yf6 ps xs es e h]
 | dead => obtain ⟨rfl, rfl⟩ := h; rfl
 | nst T ts => obtain ⟨xs, rfl, rfl⟩ := h; rfl
 | fro ts => obtain ⟨xs, rfl, rfl⟩ := h; rfl
def insH : List (Nat × PI) -> List Ed -> Option (Heap × List Ed)
 | [], es => some ([], es)
 | (pid, p) :: ps, es => (match insI p es with | some (y, es) => (match insH ps es with | some (ys, es) => some ((pid, y) :: ys, es) | none => none) | none => none)
theorem Ymd : ∀ (ps : List (Nat × PI)) (h : Heap) (es e : List Ed), Yhp ps h es -> insH ps (es ++ e) = some (h, e)
 | [], _, _, e, ⟨rfl, rfl⟩ => rfl
 | (pid, p) :: ps, _, _, e, ⟨it, h', e1, e2, rfl, rfl, h1, h2⟩ => by
  unfold insH;rw [List.append_assoc, Y4j p it e1 (e2 ++ e) h1];simp only [Ymd ps h' e2 e h2]
end Go.Proofs.Ytfbhampnigdaaaa
namespace Go.Proofs.Ytfbhampnigdaaaa
open Go.RowKit
attribute [local irreducible] Go.Oper.wp
section
variable [InW]
def Ygv (base i : Nat) : Bool := match Nat.beq (i % 3) 0 with | true => Nat.blt i (3 * base) | false => true
def rhoB (B : Bd) (base p : Nat) : Nat := match Yf0 B p with | some (.id i) => i | _ => 3 * (base + p)
def okP (B : Bd) (base p : Nat) : Bool :=
 match Yf0 B p with
 | some (.id i) => Nat.beq (p % 3) 1 && Ycm p && Ygv base i
 | some (.val _) => false
 | some _ => Nat.beq (p % 3) 1 && Ycm p
 | none => Nat.beq (p % 3) 0
def Yby (φ φ2 : Phi) (base : Nat) : Phi := fun i => if i % 3 = 0 /\ base <= i / 3 then φ2 (i / 3 - base) else φ i
theorem Ydt {φ φ2 : Phi} {base i : Nat} (h : Ygv base i = true) : Yby φ φ2 base i = φ i := by
 unfold Yby;rw [if_neg];rintro ⟨h1, h2⟩;unfold Ygv at h;rw [Yd.2 h1] at h;have := by simpa [Nat.blt_eq] using h
 omega
structure Ends (B : Bd) (φ φ2 : Phi) (a : Act) : Prop where
 base : ∀ x, φ2 (3 * x + 1) = Yea φ B a (3 * x + 1)
theorem Ends.at {B : Bd} {φ φ2 : Phi} {a : Act} (h : Ends B φ φ2 a) {p : Nat} (hp : p % 3 = 1) (hl : Ycm p = true) : φ2 p = hB φ B p := by
 have e : p = 3 * (p / 3) + 1 := by omega
 rw [e, h.base, <- e, Y0 hl]
theorem Ybd {B : Bd} {φ φ2 : Phi} {a : Act} {base p : Nat} (h : Ends B φ φ2 a) (hp : okP B base p = true) : Yby φ φ2 base (rhoB B base p) = φ2 p := by
 have fresh : Yby φ φ2 base (3 * (base + p)) = φ2 p := by
  have h1 : 3 * (base + p) % 3 = 0 /\ base <= 3 * (base + p) / 3 := by omega
  have h2 : 3 * (base + p) / 3 - base = p := by omega
  simp only [Yby, h1, and_self, if_true, h2]
 unfold okP at hp;unfold rhoB
 split at hp
 ·rename_i i hl;simp only [Bool.and_eq_true, Yd] at hp;rw [hl];dsimp only;rw [Ydt hp.2, h.at hp.1.1 hp.1.2, Ycz hl, hdOf]
 ·cases hp
 ·rename_i s hne1 hne2 hl;rw [hl];cases s <;> first | exact fresh | exact (hne1 _ rfl).elim | exact (hne2 _ rfl).elim
 ·rename_i hl;rw [hl];exact fresh
mutual
def outP (B : Bd) (base : Nat) : Pt -> List Ed -> (AV -> List Ed -> Prop) -> Prop
 | .int k, es, K => (match es with | .i n :: es => K (.si k n) es | _ => Stuck 460)
 | .bool, es, K => (match es with | .b x :: es => K (.sb x) es | _ => Stuck 461)
 | .str, es, K => (match es with | .s x :: es => K (.ss x) es | _ => Stuck 462)
 | .lit v, es, K => K (.v v) es
 | .ptr pid k, es, K => Yc (okP B base pid) (Y5 (rhoB B base pid) fun i => K (.ptr i k) es)
 | .row pid, es, K => Yc (okP B base pid) (Y5 (rhoB B base pid) fun i => K (.rw i) es)
 | .rs _, es, K => (match es with | .ro ts r :: es => K (.rs ts r) es | _ => Stuck 463)
 | .mp pid, es, K => Yc (okP B base pid) (Y5 (rhoB B base pid) fun i => K (.mp i) es)
 | .yl pid, es, K => Yc (okP B base pid) (Y5 (rhoB B base pid) fun i => K (.yl i) es)
 | .opq pid, es, K => (match Yf0 B pid with
  | some (.val x) => Yc (Nat.beq (pid % 3) 1 && Ycm pid && x.ids (Ygv base) && x.rd) (K x es)
  | some (.id i) => Yc (okP B base pid) (K (.opq i) es)
  | none => Yc (okP B base pid) (Y5 (rhoB B base pid) fun i => K (.opq i) es)
  | _ => Stuck 464)
 | .agg ps, es, K => outL B base ps es fun xs es => K (.agg xs) es
 | .tup ps, es, K => outL B base ps es fun xs es => K (.tup xs) es
 | .fn f a b, es, K => outL B base a es fun xs es => outL B base b es fun ys es => K (.fn f xs ys) es
 | .ifc t p, es, K => outP B base p es fun x es => K (.ifc t x) es
 | .held p, es, K => outP B base p es fun x es => K (.held x) es
 | .sl pid a b c, es, K => Yc (okP B base pid) (Y5 (rhoB B base pid) fun i => K (.sl i a b c) es)
 | .slc pid a b c, es, K => Yc (okP B base pid) (Y5 (rhoB B base pid) fun i => K (.slc i a b c) es)
 | .rwp pid sz, es, K => (match es with | .i l :: .i n :: es => Yc (okP B base pid) (Y5 (rhoB B base pid) fun i => K (.rwp i sz l.toNat n.toNat) es) | _ => Stuck 485)
 | .emp pid, es, K => Yc (okP B base pid) (Y5 (rhoB B base pid) fun i => K (.emp i) es)
def outL (B : Bd) (base : Nat) : List Pt -> List Ed -> (List AV -> List Ed -> Prop) -> Prop
 | [], es, K => K [] es
 | p :: ps, es, K => outP B base p es fun x es => outL B base ps es fun xs es => K (x :: xs) es
end
mutual
theorem Yfv {B : Bd} {base : Nat} : ∀ (p : Pt) (es : List Ed) (K : AV -> List Ed -> Prop), outP B base p es K -> ∃ x y e, K x e /\ insP p es = some (y, e) /\ (∀ (φ φ2 : Phi) (a : Act), Ends B φ φ2 a -> x.conc (Yby φ φ2 base) = y.conc φ2) /\
  ((x.rd = true /\ y.rd = true) \/ ∃ x' y', x = .held x' /\ y = .held y' /\ ∀ (φ φ2 : Phi) (a : Act), Ends B φ φ2 a -> x'.conc (Yby φ φ2 base) = y'.conc φ2)
 | .int k, es, K, h => by
  unfold outP at h
  split at h
  ·exact ⟨_, _, _, h, rfl, fun _ _ _ _ => rfl, .inl ⟨rfl, rfl⟩⟩
  ·exact h.elim
 | .bool, es, K, h => by
  unfold outP at h
  split at h
  ·exact ⟨_, _, _, h, rfl, fun _ _ _ _ => rfl, .inl ⟨rfl, rfl⟩⟩
  ·exact h.elim
 | .str, es, K, h => by
  unfold outP at h
  split at h
  ·exact ⟨_, _, _, h, rfl, fun _ _ _ _ => rfl, .inl ⟨rfl, rfl⟩⟩
  ·exact h.elim
 | .lit v, es, K, h => by unfold outP at h; exact ⟨_, _, _, h, rfl, fun _ _ _ _ => rfl, .inl ⟨rfl, rfl⟩⟩
 | .ptr pid k, es, K, h => by
  unfold outP at h;obtain ⟨h1, h2⟩ := Ya h;exact ⟨_, _, _, Yk.1 h2, rfl, fun φ φ2 a he => by simp only [AV.conc, Ybd he h1], .inl ⟨rfl, rfl⟩⟩
 | .row pid, es, K, h => by
  unfold outP at h;obtain ⟨h1, h2⟩ := Ya h;exact ⟨_, _, _, Yk.1 h2, rfl, fun φ φ2 a he => by simp only [AV.conc, Ybd he h1], .inl ⟨rfl, rfl⟩⟩
 | .rs _, es, K, h => by
  unfold outP at h
  split at h
  ·exact ⟨_, _, _, h, rfl, fun _ _ _ _ => rfl, .inl ⟨rfl, rfl⟩⟩
  ·exact h.elim
 | .mp pid, es, K, h => by
  unfold outP at h;obtain ⟨h1, h2⟩ := Ya h;exact ⟨_, _, _, Yk.1 h2, rfl, fun φ φ2 a he => by simp only [AV.conc, Ybd he h1], .inl ⟨rfl, rfl⟩⟩
 | .yl pid, es, K, h => by
  unfold outP at h;obtain ⟨h1, h2⟩ := Ya h;exact ⟨_, _, _, Yk.1 h2, rfl, fun φ φ2 a he => by simp only [AV.conc, Ybd he h1], .inl ⟨rfl, rfl⟩⟩
 | .opq pid, es, K, h => by
  unfold outP at h
  split at h
  ·rename_i x hl;obtain ⟨h1, h2⟩ := Ya h;simp only [Bool.and_eq_true, Yd] at h1;obtain ⟨⟨⟨h11, h12⟩, h13⟩, h14⟩ := h1;refine ⟨_, _, _, h2, rfl, fun φ φ2 a he => ?_, .inl ⟨h14, rfl⟩⟩
   show x.conc (Yby φ φ2 base) = (φ2 pid).v
   rw [he.at h11 h12, Ycz hl, hdOf];exact Yip (fun i hi => Ydt hi) x h13
  ·rename_i i hl;obtain ⟨h1, h2⟩ := Ya h;refine ⟨_, _, _, h2, rfl, fun φ φ2 a he => ?_, .inl ⟨rfl, rfl⟩⟩;have := Ybd he h1;simp only [rhoB, hl] at this;simp only [AV.conc, this]
  ·obtain ⟨h1, h2⟩ := Ya h;exact ⟨_, _, _, Yk.1 h2, rfl, fun φ φ2 a he => by simp only [AV.conc, Ybd he h1], .inl ⟨rfl, rfl⟩⟩
  ·exact h.elim
 | .agg ps, es, K, h => by
  unfold outP at h;obtain ⟨xs, ys, e, h1, h2, h3⟩ := Ydj ps es _ h;exact ⟨_, _, _, h1, by unfold insP; rw [h2], fun φ φ2 a he => by simp only [AV.conc, h3 φ φ2 a he], .inl ⟨rfl, rfl⟩⟩
 | .tup ps, es, K, h => by
  unfold outP at h;obtain ⟨xs, ys, e, h1, h2, h3⟩ := Ydj ps es _ h;exact ⟨_, _, _, h1, by unfold insP; rw [h2], fun φ φ2 a he => by simp only [AV.conc, h3 φ φ2 a he], .inl ⟨rfl, rfl⟩⟩
 | .fn f p q, es, K, h => by
  unfold outP at h;obtain ⟨xs, ys, e, h1, h2, h3⟩ := Ydj p es _ h;obtain ⟨us, vs, e2, k1, k2, k3⟩ := Ydj q e _ h1;exact ⟨_, .fn f ys vs, _, k1, by unfold insP; rw [h2]; simp only [k2], fun φ φ2 a he => by simp only [AV.conc, h3 φ φ2 a he, k3 φ φ2 a he], .inl ⟨rfl, rfl⟩⟩
 | .ifc t p, es, K, h => by
  unfold outP at h;obtain ⟨x, y, e, h1, h2, h3, _⟩ := Yfv p es _ h;exact ⟨_, _, _, h1, by unfold insP; rw [h2], fun φ φ2 a he => by simp only [AV.conc, h3 φ φ2 a he], .inl ⟨rfl, rfl⟩⟩
 | .held p, es, K, h => by
  unfold outP at h;obtain ⟨x, y, e, h1, h2, h3, _⟩ := Yfv p es _ h;exact ⟨_, _, _, h1, by unfold insP; rw [h2], fun φ φ2 a he => rfl, .inr ⟨x, y, rfl, rfl, h3⟩⟩
 | .sl pid _ _ _, es, K, h => by
  unfold outP at h;obtain ⟨h1, h2⟩ := Ya h;exact ⟨_, _, _, Yk.1 h2, rfl, fun φ φ2 a he => by simp only [AV.conc, Ybd he h1], .inl ⟨rfl, rfl⟩⟩
 | .slc pid _ _ _, es, K, h => by
  unfold outP at h;obtain ⟨h1, h2⟩ := Ya h;exact ⟨_, _, _, Yk.1 h2, rfl, fun φ φ2 a he => by simp only [AV.conc, Ybd he h1], .inl ⟨rfl, rfl⟩⟩
 | .rwp pid sz, es, K, h => by
  unfold outP at h
  split at h
  ·obtain ⟨h1, h2⟩ := Ya h;exact ⟨_, _, _, Yk.1 h2, rfl, fun φ φ2 a he => by simp only [AV.conc, Ybd he h1], .inl ⟨rfl, rfl⟩⟩
  ·exact h.elim
 | .emp pid, es, K, h => by
  unfold outP at h;obtain ⟨h1, h2⟩ := Ya h;exact ⟨_, _, _, Yk.1 h2, rfl, fun φ φ2 a he => by simp only [AV.conc, Ybd he h1], .inl ⟨rfl, rfl⟩⟩
theorem Ydj {B : Bd} {base : Nat} : ∀ (ps : List Pt) (es : List Ed) (K : List AV -> List Ed -> Prop), outL B base ps es K -> ∃ xs ys e, K xs e /\ insL ps es = some (ys, e) /\ ∀ (φ φ2 : Phi) (a : Act), Ends B φ φ2 a -> AV.concL (Yby φ φ2 base) xs = AV.concL φ2 ys
 | [], es, K, h => by unfold outL at h; exact ⟨_, _, _, h, rfl, fun _ _ _ _ => rfl⟩
 | p :: ps, es, K, h => by
  unfold outL at h;obtain ⟨x, y, e, h1, h2, h3, _⟩ := Yfv p es _ h;obtain ⟨xs, ys, e2, k1, k2, k3⟩ := Ydj ps e _ h1;exact ⟨_, y :: ys, _, k1, by unfold insL; rw [h2]; simp only [k2], fun φ φ2 a he => by simp only [AV.concL, h3 φ φ2 a he, k3 φ φ2 a he]⟩
end
def outT (B : Bd) (base : Nat) : List (Nat × Pt) -> List Ed -> (List (Nat × AV) -> List Ed -> Prop) -> Prop
 | [], es, K => K [] es
 | (t, p) :: ps, es, K => outP B base p es fun x es => outT B base ps es fun s es => K ((t, x) :: s) es
def outI (B : Bd) (base : Nat) (p : PI) (es : List Ed) (K : It -> List Ed -> Prop) : Prop :=
 match p with
 | .blk T ps => outL B base ps es fun xs es => K (.blk T xs) es
 | .arr T ts => (match es with | .l xs :: es => K (.arr T ts xs) es | _ => Stuck 465)
 | .row T sz n ps => outL B base ps es fun xs es => K (.row T sz n xs) es
 | .obj x => K (.obj x) es
 | .mpI => (match es with | .m xs :: es => K (.obj (.mpI xs)) es | _ => Stuck 478)
 | .mpP => (match es with | .l xs :: es => K (.obj (.mpP xs)) es | _ => Stuck 478)
 | .lp L ps => outL B base ps es fun xs es => K (.lp L xs) es
 | .dead => K .dead es
 | .nst T ts => (match es with | .l xs :: es => K (.nst T ts xs) es | _ => Stuck 465)
 | .fro ts => (match es with | .l xs :: es => K (.fro ts xs) es | _ => Stuck 465)
def outH (B : Bd) (base : Nat) : List (Nat × PI) -> List Ed -> (Heap -> List Ed -> Prop) -> Prop
 | [], es, K => K [] es
 | (pid, p) :: ps, es, K => Yc (okP B base pid) (outI B base p es fun it es => outH B base ps es fun h es => Y5 (rhoB B base pid) fun i => K ((i, it) :: h) es)
inductive Backs (B : Bd) (base : Nat) : List (Nat × AV) -> List (Nat × AV) -> Prop
 | nil : Backs B base [] []
 | cons {t : Nat} {x y : AV} {s s' : List (Nat × AV)} (hc : ∀ (φ φ2 : Phi) (a : Act), Ends B φ φ2 a -> x.conc (Yby φ φ2 base) = y.conc φ2)
   (hr : (x.rd = true /\ y.rd = true) \/ ∃ x' y', x = .held x' /\ y = .held y' /\ ∀ (φ φ2 : Phi) (a : Act), Ends B φ φ2 a -> x'.conc (Yby φ φ2 base) = y'.conc φ2) (h : Backs B base s s') : Backs B base ((t, x) :: s) ((t, y) :: s')
theorem Backs.look {B : Bd} {base : Nat} {s s' : List (Nat × AV)} (h : Backs B base s s') (k : Nat) : (Yc1 s k = none /\ Yc1 s' k = none) \/ ∃ x y, Yc1 s k = some x /\ Yc1 s' k = some y /\ (∀ (φ φ2 : Phi) (a : Act), Ends B φ φ2 a -> x.conc (Yby φ φ2 base) = y.conc φ2) /\
  ((x.rd = true /\ y.rd = true) \/ ∃ x' y', x = .held x' /\ y = .held y' /\ ∀ (φ φ2 : Phi) (a : Act), Ends B φ φ2 a -> x'.conc (Yby φ φ2 base) = y'.conc φ2) := by
 induction h with
 | nil => exact .inl ⟨rfl, rfl⟩
 | @cons t x y s s' hc hr _ ih =>
  unfold Yc1;cases hb : Nat.beq t k with
  | true => exact .inr ⟨x, y, rfl, rfl, hc, hr⟩
  | false => exact ih
theorem Yr1 {B : Bd} {base : Nat} : ∀ (ps : List (Nat × Pt)) (es : List Ed) (K : List (Nat × AV) -> List Ed -> Prop), outT B base ps es K -> ∃ s s' e, K s e /\ insT ps es = some (s', e) /\ Backs B base s s'
 | [], es, K, h => ⟨[], [], es, h, rfl, .nil⟩
 | (t, p) :: ps, es, K, h => by
  obtain ⟨x, y, e, h1, h2, h3, h4⟩ := Yfv p es _ h;obtain ⟨s, s', e2, k1, k2, k3⟩ := Yr1 ps e _ h1;exact ⟨_, (t, y) :: s', _, k1, by unfold insT; rw [h2]; simp only [k2], .cons h3 h4 k3⟩
theorem Yy5 {B : Bd} {base pid : Nat} {p : PI} {es : List Ed} {K : It -> List Ed -> Prop} (h : outI B base p es K) (hp : okP B base pid = true) : ∃ it y e, K it e /\ insI p es = some (y, e) /\ ∀ (φ φ2 : Phi) (a : Act), Ends B φ φ2 a -> it.conc (Yby φ φ2 base) (rhoB B base pid) = y.conc φ2 pid := by
 cases p with
 | blk T ps =>
  obtain ⟨xs, ys, e, h1, h2, h3⟩ := Ydj _ es _ h;exact ⟨_, .blk T ys, _, h1, by unfold insI; simp only [h2], fun φ φ2 a he => by simp only [It.conc, h3 φ φ2 a he, Ybd he hp]⟩
 | arr T ts =>
  unfold outI at h;dsimp only at h
  split at h
  ·exact ⟨_, _, _, h, rfl, fun φ φ2 a he => by simp only [It.conc, Ybd he hp]⟩
  ·exact h.elim
 | row T sz n ps =>
  obtain ⟨xs, ys, e, h1, h2, h3⟩ := Ydj _ es _ h;exact ⟨_, .row T sz n ys, _, h1, by unfold insI; simp only [h2], fun φ φ2 a he => by simp only [It.conc, h3 φ φ2 a he, Ybd he hp]⟩
 | obj x => exact ⟨_, .obj x, _, h, rfl, fun φ φ2 a he => by simp only [It.conc, Ybd he hp]⟩
 | mpI =>
  unfold outI at h;dsimp only at h
  split at h
  ·exact ⟨_, _, _, h, rfl, fun φ φ2 a he => by simp only [It.conc, Ybd he hp]⟩
  ·exact h.elim
 | mpP =>
  unfold outI at h;dsimp only at h
  split at h
  ·exact ⟨_, _, _, h, rfl, fun φ φ2 a he => by simp only [It.conc, Ybd he hp]⟩
  ·exact h.elim
 | lp L ps =>
  obtain ⟨xs, ys, e, h1, h2, h3⟩ := Ydj _ es _ h;exact ⟨_, .lp L ys, _, h1, by unfold insI; simp only [h2], fun φ φ2 a he => by simp only [It.conc, h3 φ φ2 a he, Ybd he hp]⟩
 | dead => exact ⟨_, .dead, _, h, rfl, fun φ φ2 a he => rfl⟩
 | nst T ts =>
  unfold outI at h;dsimp only at h
  split at h
  ·exact ⟨_, _, _, h, rfl, fun φ φ2 a he => by simp only [It.conc, Ybd he hp]⟩
  ·exact h.elim
 | fro ts =>
  unfold outI at h;dsimp only at h
  split at h
  ·exact ⟨_, _, _, h, rfl, fun φ φ2 a he => by simp only [It.conc, Ybd he hp]⟩
  ·exact h.elim
theorem Ylz {B : Bd} {base : Nat} : ∀ (ps : List (Nat × PI)) (es : List Ed) (K : Heap -> List Ed -> Prop), outH B base ps es K -> ∃ h h' e, K h e /\ insH ps es = some (h', e) /\ ∀ (φ φ2 : Phi) (a : Act), Ends B φ φ2 a -> Yb (Yby φ φ2 base) h = Yb φ2 h'
 | [], es, K, h => ⟨[], [], es, h, rfl, fun _ _ _ _ => rfl⟩
 | (pid, p) :: ps, es, K, h => by
  obtain ⟨hp, h⟩ := Ya h;obtain ⟨it, y, e, h1, h2, h3⟩ := Yy5 h hp;obtain ⟨s, s', e2, k1, k2, k3⟩ := Ylz ps e _ h1;refine ⟨_, (pid, y) :: s', _, Yk.1 k1, by unfold insH; rw [h2]; simp only [k2], fun φ φ2 a he => ?_⟩;have := k3 φ φ2 a he;simp only [Yb, List.map_cons, h3 φ φ2 a he] at this ⊢;rw [this]
def Yk1 (s : List (Nat × AV)) (J : List Nat) : List AV -> Nat -> (List AV -> Prop) -> Prop
 | [], _, K => K []
 | x :: xs, t, K => match Yc1 s t with
  | some y => Yk1 s J xs (t + 1) fun r => K (y :: r)
  | none => (match inL t J with | true => Yk1 s J xs (t + 1) fun r => K (.junk :: r) | false => Yk1 s J xs (t + 1) fun r => K (x :: r))
theorem Yk0 {s : List (Nat × AV)} {J : List Nat} : ∀ {xs : List AV} {t : Nat} {K : List AV -> Prop}, Yk1 s J xs t K -> ∃ r, K r /\ r.length = xs.length /\ ∀ (k : Nat) (x : AV), xs[k]? = some x -> r[k]? = some (match Yc1 s (t + k) with | some y => y | none => (match inL (t + k) J with | true => .junk | false => x))
 | [], t, K, h => ⟨[], h, rfl, fun k x hx => by simp at hx⟩
 | z :: xs, t, K, h => by
  have go : ∀ y, (Yk1 s J xs (t + 1) fun r => K (y :: r)) -> (y = match Yc1 s t with | some y => y | none => (match inL t J with | true => .junk | false => z)) -> ∃ r, K r /\ r.length = (z :: xs).length /\ ∀ (k : Nat) (x : AV), (z :: xs)[k]? = some x -> r[k]? = some (match Yc1 s (t + k) with | some y => y | none => (match inL (t + k) J with | true => .junk | false => x)) := fun y hy e => by
   obtain ⟨r, h1, h2, h3⟩ := Yk0 hy;refine ⟨y :: r, h1, by simp [h2], fun k x hx => ?_⟩;cases k with
   | zero =>
    simp only [List.getElem?_cons_zero, Option.some.injEq] at hx;subst hx;simp only [List.getElem?_cons_zero, Nat.add_zero, e]
   | succ k =>
    have := h3 k x (by simpa using hx);rw [show t + (k + 1) = t + 1 + k by omega];simpa using this
  unfold Yk1 at h
  split at h
  ·rename_i y hy;exact go y h (by rw [hy])
  ·rename_i hn
   split at h
   ·rename_i hj; exact go _ h (by rw [hn, hj])
   ·rename_i hj; exact go _ h (by rw [hn, hj])
def Yo1 (base : Nat) : List AV -> Bool
 | [] => true
 | x :: xs => x.ids (Ygv base) && Yo1 base xs
def hOld (base : Nat) : Heap -> Bool
 | [] => true
 | p :: h => Ygv base p.1 && p.2.ids (Ygv base) && hOld base h
theorem Yo0 {base : Nat} : ∀ {xs : List AV}, Yo1 base xs = true -> ∀ x ∈ xs, x.ids (Ygv base) = true
 | [], _, x, hx => by cases hx
 | y :: ys, h, x, hx => by
  simp only [Yo1, Bool.and_eq_true] at h;rcases List.mem_cons.1 hx with rfl | hx
  ·exact h.1
  ·exact Yo0 h.2 x hx
theorem Yss {base : Nat} {φ φ2 : Phi} : ∀ {h : Heap}, hOld base h = true -> Yb (Yby φ φ2 base) h = Yb φ h
 | [], _ => rfl
 | p :: h, hh => by
  simp only [hOld, Bool.and_eq_true] at hh;have := Yss (φ := φ) (φ2 := φ2) hh.2;simp only [Yb, List.map_cons, Yut (p := Ygv base) (fun i hi => Ydt hi) hh.1.1 p.2 hh.1.2] at this ⊢;rw [this]
theorem Ytj {B : Bd} {base len : Nat} {tm tm' : List AV} {rest hO hI : Heap} {s s' : List (Nat × AV)} {J : List Nat} (hlen : tm.length = len) (hback : Backs B base s s') (htm : tm'.length = tm.length /\ ∀ (k : Nat) (x : AV), tm[k]? = some x -> tm'[k]? = some (match Yc1 s k with | some y => y | none => (match inL k J with | true => .junk | false => x)))
  (hheld : ∀ (k : Nat) (x : AV), tm[k]? = some x -> x.isHeld = true -> ∃ y, Yc1 s k = some y) (hold : Yo1 base tm = true) (hrest : hOld base rest = true) (hH : ∀ (φ φ2 : Phi) (a : Act), Ends B φ φ2 a -> Yb (Yby φ φ2 base) hO = Yb φ2 hI) (hnd : (keys (rest ++ hO)).Nodup)
  {φ0 φ φ2 : Phi} {w0 : World} {M : List Nat} {R : RL} {a a' : Act} {w w' : World} {hp : Heap} (hr : RepS φ0 φ w0 M R tm hp a w) (hr2 : RepS (Ywh (Yea φ B a)) φ2 w0 M (Yb φ rest ++ R) (Yd9 len s' J) hI a' w') :
  RepS φ0 (Yby φ φ2 base) w0 M R tm' (rest ++ hO) a' w' := by
 have he : Ends B φ φ2 a := ⟨fun x => hr2.base x⟩;refine ⟨?_, ?_, hnd, fun x => ?_⟩
 ·refine hr2.tmps.as (by rw [Yd9, Ydd, htm.1, hlen]) fun k x y hx hy => ?_;rw [Yd9, Ydz, Nat.zero_add] at hx
  split at hx
  ·rename_i hk;have hx0 := hx;have hget : (Yd9 len s' J)[k]? = some x := by rw [Yd9, Ydz, if_pos hk, Nat.zero_add]; exact hx0
   simp only [Option.some.injEq] at hx;have hk2 : k < tm.length := by omega
   have hz := htm.2 k tm[k] (List.getElem?_eq_getElem hk2);rw [hy] at hz;simp only [Option.some.injEq] at hz;rcases hback.look k with ⟨h1, h2⟩ | ⟨u, v, h1, h2, h3, h4⟩
   ·rw [h2] at hx;rw [h1] at hz;dsimp only at hx hz;have hnh : tm[k].isHeld = false := by
     cases hd : tm[k].isHeld with
     | false => rfl
     | true => obtain ⟨q, hq⟩ := hheld k _ (List.getElem?_eq_getElem hk2) hd; rw [h1] at hq; cases hq
    cases hj : inL k J with
    | true =>
     rw [hj] at hx hz;subst hx; subst hz;exact .inl ⟨rfl, rfl, fun h => by cases h⟩
    | false =>
     rw [hj] at hx hz;subst hx; subst hz;refine .inl ⟨rfl, hnh, fun hrd => ?_⟩;have e1 := hr2.tmps.slot k _ hget rfl;have e2 := hr.tmps.slot k _ (List.getElem?_eq_getElem hk2) hrd;rw [e1, Yip (p := Ygv base) (fun i hi => Ydt hi) _ (Yo0 hold _ (List.getElem_mem hk2))]
     show some (φ2 (oid k)).v = some (tm[k].conc φ)
     have e3 : φ2 (oid k) = Yea φ B a (oid k) := he.base (1000 + k);rw [e3, Yry];simp [Array.getD_eq_getD_getElem?, e2]
   ·rw [h2] at hx;rw [h1] at hz;dsimp only at hx hz;subst hx; subst hz;rcases h4 with ⟨h5, h6⟩ | ⟨u', v', rfl, rfl, h5⟩
    ·exact .inl ⟨Yw9 h6, Yw9 h5, fun _ => by rw [h3 φ φ2 a he]; exact hr2.tmps.slot k _ hget h6⟩
    ·exact .inr ⟨_, _, rfl, rfl, h5 φ φ2 a he⟩
  ·cases hx
 ·rw [Yp, Yss hrest, hH φ φ2 a he];have := hr2.st;refine this.perm ?_;rw [<- List.append_assoc];exact List.perm_append_comm.append_right R
 ·have e : Ygv base (3 * x + 1) = true := by
   unfold Ygv;rw [Y2.2 (by omega : (3 * x + 1) % 3 ≠ 0)]
  rw [Ydt e];exact hr.base x
end
end Go.Proofs.Ytfbhampnigdaaaa
namespace Go.Proofs.Ytfbhampnigdaaaa
open Go.RowKit
attribute [local irreducible] Go.Oper.wp
inductive OK where
 | norm
 | exit (i : Nat)
 | ret
 | pan (v : Value)
structure Out where
 kind : OK
 T : List (Nat × Pt)
 H : List (Nat × PI)
 junk : List Nat
structure LC where
 len : Nat
 T : List (Nat × Pt)
 H : List (Nat × PI)
 W : List Nat
 outs : List Out
 spec : [InW] -> List Ed -> (Nat -> List Ed -> Prop) -> Prop
section
variable [W : InW]
def OK.ax : OK -> AX
 | .norm => .norm
 | .exit i => .exit i
 | .ret => .ret
 | .pan v => .pan (.v v)
def LoopC (P : Program) (a : Code) (lc : LC) : Prop :=
 ∀ s ys e1 e2, Ynp lc.T s e1 -> Yhp lc.H ys e2 -> ∀ K, lc.spec (e1 ++ e2) K -> ∃ j e o s' r ys', K j e /\ lc.outs[j]? = some o /\ insT o.T e = some (s', r) /\ insH o.H r = some (ys', []) /\
  BigT (fun Q ac w => InLoop P a Q ac w) (Yd9 lc.len s lc.W) ys o.kind.ax (Yd9 lc.len s' o.junk) ys'
def maxL : List Nat -> Nat -> Nat
 | [], m => m
 | i :: is, m => match Nat.ble i m with | true => maxL is m | false => maxL is i
def Yqf (tm : List AV) (hp : Heap) : List Nat := AV.leadL tm (Y4g hp (hp.map (·.1)))
def Yvx (lc : LC) (tm : List AV) (hp : Heap) (K : KX) : Prop :=
 Yc (lenB tm lc.len) (Y3n lc.T lc.H tm hp fun s ys B rest es => Y5 (maxL (Yqf tm hp) 1024) fun base =>
  Yc (Yo1 base tm && hOld base rest) (lc.spec es fun j e => match lc.outs[j]? with
   | none => Stuck 470
   | some o => outT B base o.T e fun s' r => outH B base o.H r fun hO r => (match r with
    | _ :: _ => Stuck 471
    | [] => Yc (Yj4 s' tm 0 && Yer ((rest ++ hO).map (·.1))) (Yk1 s' o.junk tm 0 fun tm' => appK rest hO fun hp' => K o.kind.ax tm' hp'))))
theorem Yul {P : Program} {a : Code} {lc : LC} (hc : LoopC P a lc) : Ym8 P a (Yvx lc) := by
 intro tm hp K h;obtain ⟨hlen, h⟩ := Ya h;have hlen := Y4 hlen;obtain ⟨s, ys, B, rest, e1, e2, h1, h2, h3, h4, h5, h6, h7, h8⟩ := Yuz h;have h1 := Yk.1 h1;generalize maxL (Yqf tm hp) 1024 = base at h1;obtain ⟨hb, h1⟩ := Ya h1;rw [Bool.and_eq_true] at hb;obtain ⟨j, e, o, s', r, ys', k1, k2, k3, k4, k5⟩ := hc s ys e1 e2 h2 h3 _ h1;rw [k2] at k1;obtain ⟨sO, s2, r2, m1, m2, m3⟩ := Yr1 _ _ _ k1;rw [k3] at m2;cases m2;obtain ⟨hO, h2', r3, n1, n2, n3⟩ := Ylz _ _ _ m1;rw [k4] at n2;cases n2;dsimp only at n1;obtain ⟨hnd, n1⟩ := Ya n1;rw [Bool.and_eq_true] at hnd;have hhe : ∀ (k : Nat) (x : AV), tm[k]? = some x -> x.isHeld = true -> ∃ y, Yc1 sO k = some y := fun k x hx hh => by
  have := Yhj hnd.1 k x hx hh;rwa [Nat.zero_add] at this
 obtain ⟨tm', p1, p2, p3⟩ := Yk0 n1;have p4 := Ydg.1 p1;refine ⟨o.kind.ax, tm', rest ++ hO, p4, fun φ0 φ w0 M R ac w hr Q kk => ?_⟩;have hin := h8 φ0 φ w0 M R ac w hr;rw [hlen] at hin;have hin2 : RepS (Ywh (Yea φ B ac)) (Yea φ B ac) w0 M (Yb φ rest ++ R) (Yd9 lc.len s lc.W) ys ac w := ⟨hin.tmps.forget, hin.st, hin.nd, hin.base⟩;refine k5 _ _ w0 M _ ac w hin2 Q fun φ2 x a' w' hx hr2 => ?_;have hx2 : ∀ φ, o.kind.ax.is φ x := fun φ => by
  cases hk : o.kind <;> rw [hk] at hx <;> exact hx
 exact kk _ x a' w' (hx2 _) (Ytj hlen m3 ⟨p2, fun k x hx => by have := p3 k x hx; rwa [Nat.zero_add] at this⟩ hhe hb.1 hb.2 n3 (Ybe hnd.2) hr hr2)
def Yum (lc : LC) (tm : List AV) (hp : Heap) (K : KX) : Prop := Ym1 lc.T tm hp fun hp => Yvx lc tm hp K
theorem Yxj {P : Program} {a : Code} {lc : LC} (hc : LoopC P a lc) : Ym8 P a (Yum lc) := by
 intro tm hp K h;obtain ⟨hp1, h1, h2⟩ := Yd8 h;obtain ⟨x, tm', hp', h3, h4⟩ := Yul hc tm hp1 K h1;exact ⟨x, tm', hp', h3, fun φ0 φ w0 M R ac w hr Q kk => h4 φ0 φ w0 M R ac w (h2 φ0 φ w0 M R tm ac w hr) Q kk⟩
def Y5l : OK -> AX -> Bool
 | .norm, .norm => true
 | .exit i, .exit j => Nat.beq i j
 | .ret, .ret => true
 | .pan v, .pan (.v u) => Ycr u v
 | _, _ => false
def Ysk : List Out -> Nat -> AX -> List AV -> Heap -> (Nat -> List Ed -> Prop) -> Prop
 | [], _, _, _, _, _ => Stuck 472
 | o :: os, j, x, tm, hp, Q => match Y5l o.kind x with
  | true => fitK o.T o.H o.junk tm hp fun e => Q j e
  | false => Ysk os (j + 1) x tm hp Q
def Yvi (lc : LC) (Again : List Ed -> Prop) (Q : Nat -> List Ed -> Prop) (x : AX) (tm : List AV) (hp : Heap) : Prop :=
 Yc (lenB tm lc.len) (match x with
 | .norm => fitK lc.T lc.H lc.W tm hp Again
 | x => Ysk lc.outs 0 x tm hp Q)
theorem Yl8 : ∀ {os : List Out} {j : Nat} {x : AX} {tm : List AV} {hp : Heap} {Q : Nat -> List Ed -> Prop}, Ysk os j x tm hp Q -> ∃ (k : Nat) (o : Out) (s : List (Nat × AV)) (ys : Heap) (e1 e2 : List Ed), Q (j + k) (e1 ++ e2) /\ os[k]? = some o /\ o.kind.ax = x /\ insT o.T (e1 ++ e2) = some (s, e2) /\ insH o.H e2 = some (ys, []) /\
  ∀ (φ0 φ : Phi) (w0 : World) (M : List Nat) (R : RL) (a : Act) (w : World), RepS φ0 φ w0 M R tm hp a w -> ∃ φ2, RepS φ0 φ2 w0 M R (Yd9 tm.length s o.junk) ys a w
 | [], _, _, _, _, _, h => h.elim
 | o :: os, j, x, tm, hp, Q, h => by
  unfold Ysk at h
  split at h
  ·rename_i hk;obtain ⟨s, ys, e1, e2, h1, h2, h3, h4⟩ := Ysu h;refine ⟨0, o, s, ys, e1, e2, h1, rfl, ?_, Yz2 _ _ _ _ h2, by have := Ymd _ _ _ [] h3; rwa [List.append_nil] at this, h4⟩;unfold Y5l at hk
   split at hk <;> first | (rename_i h1; rw [h1]; rfl) | skip
   ·rename_i i j h1; rw [h1, Yd.1 hk]; rfl
   ·rename_i v u h1; rw [h1, Ydr _ _ hk]; rfl
   ·cases hk
  ·obtain ⟨k, o', s, ys, e1, e2, h1, h2, h3⟩ := Yl8 h;exact ⟨k + 1, o', s, ys, e1, e2, by rw [show j + (k + 1) = j + 1 + k by omega]; exact h1, by simpa using h2, h3⟩
theorem LoopC.of {c : Cx} (hcL : HandOkL c) (hm : c.P.follows .mixedOrders = true) (n : Nat) {root : Code} (hroot : (c.P.funcs[c.fn]?).bind (·.body) = some root) {a : Code} (hsub : Sub root (.loop a)) {lc : LC} (meas : List Ed -> Nat)
  (hb : ∀ s ys e1 e2, Ynp lc.T s e1 -> Yhp lc.H ys e2 -> ∀ K, lc.spec (e1 ++ e2) K -> Yfh c n a (Yd9 lc.len s lc.W) ys (Yvi lc (fun e => meas e < meas (e1 ++ e2) /\ lc.spec e K) K)) : LoopC c.P a lc := by
 have key : ∀ m s ys e1 e2, meas (e1 ++ e2) = m -> Ynp lc.T s e1 -> Yhp lc.H ys e2 -> ∀ K, lc.spec (e1 ++ e2) K -> ∃ j e o s' r ys', K j e /\ lc.outs[j]? = some o /\ insT o.T e = some (s', r) /\ insH o.H r = some (ys', []) /\
   BigT (fun Q ac w => InLoop c.P a Q ac w) (Yd9 lc.len s lc.W) ys o.kind.ax (Yd9 lc.len s' o.junk) ys' := by
  intro m
  induction m using Nat.strongRecOn with
  | _ m ih =>
   intro s ys e1 e2 hme hT hH K hs;obtain ⟨x, tm1, hp1, h1, h2⟩ := Yg6 hcL hm n hroot a hsub.loop _ _ _ (hb s ys e1 e2 hT hH K hs);have out : Ysk lc.outs 0 x tm1 hp1 K -> (∀ φ e, x.is φ e -> e ≠ .normal) -> tm1.length = lc.len -> ∃ j e o s' r ys', K j e /\ lc.outs[j]? = some o /\ insT o.T e = some (s', r) /\ insH o.H r = some (ys', []) /\
     BigT (fun Q ac w => InLoop c.P a Q ac w) (Yd9 lc.len s lc.W) ys o.kind.ax (Yd9 lc.len s' o.junk) ys' := fun h hne hlen => by
    obtain ⟨k, o, s', ys', f1, f2, g1, g2, g3, g4, g5, g6⟩ := Yl8 h;rw [Nat.zero_add] at g1;refine ⟨k, _, o, s', _, ys', g1, g2, g4, g5, fun φ0 φ w0 M R ac w hr Q kk => InLoop.round (h2 φ0 φ w0 M R ac w hr _ fun φ2 e a' w' hx hr2 => ?_)⟩;have he := hne φ2 e hx;obtain ⟨φ3, hr3⟩ := g6 φ0 φ2 w0 M R a' w' hr2;rw [hlen] at hr3;have hx3 : o.kind.ax.is φ3 e := by
     rw [g3];have : o.kind.ax.is φ2 e := by rw [g3]; exact hx
     rw [<- g3];cases hk : o.kind <;> rw [hk] at this <;> exact this
    cases e <;> first | exact absurd rfl he | exact kk φ3 _ a' w' hx3 hr3
   unfold Yvi at h1;obtain ⟨hlen, h1⟩ := Ya h1;have hlen := Y4 hlen
   split at h1
   ·obtain ⟨s2, ys2, f1, f2, g1, g2, g3, g4⟩ := Ysu h1;obtain ⟨j, e, o, s', r, ys', k1, k2, k3, k4, k5⟩ := ih _ (hme ▸ g1.1) s2 ys2 f1 f2 rfl g2 g3 K g1.2;refine ⟨j, e, o, s', r, ys', k1, k2, k3, k4, fun φ0 φ w0 M R ac w hr Q kk => InLoop.round (h2 φ0 φ w0 M R ac w hr _ fun φ2 e2 a' w' hx hr2 => ?_)⟩;obtain ⟨φ3, hr3⟩ := g4 φ0 φ2 w0 M R a' w' hr2;rw [hlen] at hr3;cases hx;exact k5 φ0 φ3 w0 M R a' w' hr3 Q kk
   ·rename_i hnn;refine out h1 (fun φ e hx he => ?_) hlen;subst he;cases x <;> first | exact hnn rfl | cases hx | exact hx.elim | skip
 intro s ys e1 e2 hT hH K hs;exact key _ s ys e1 e2 rfl hT hH K hs
end
end Go.Proofs.Ytfbhampnigdaaaa
namespace Go.Proofs.Ytfbhampnigdaaaa
open Go.RowKit
attribute [local irreducible] Go.Oper.wp
theorem Sub.trans {a b c : Code} (h1 : Sub a b) (h2 : Sub b c) : Sub a c := by
 induction h2 with
 | refl => exact h1
 | seqL _ ih => exact ih.seqL
 | seqR _ ih => exact ih.seqR
 | condL _ ih => exact ih.condL
 | condR _ ih => exact ih.condR
 | block _ ih => exact ih.block
 | loop _ ih => exact ih.loop
 | scope _ ih => exact ih.scope
theorem Yb9 : ∀ {body a : Code}, a ∈ Y1 body -> Sub body (.loop a)
 | .seq x y, a, h => by
  simp only [Y1, List.mem_append] at h;rcases h with h | h
  ·exact Sub.trans (.seqL .refl) (Yb9 h)
  ·exact Sub.trans (.seqR .refl) (Yb9 h)
 | .cond _ x y, a, h => by
  simp only [Y1, List.mem_append] at h;rcases h with h | h
  ·exact Sub.trans (.condL .refl) (Yb9 h)
  ·exact Sub.trans (.condR .refl) (Yb9 h)
 | .block _ x, a, h => Sub.trans (.block .refl) (Yb9 (by simpa [Y1] using h))
 | .loop x, a, h => by
  simp only [Y1, List.mem_cons] at h;rcases h with rfl | h
  ·exact .refl
  ·exact Sub.trans (.loop .refl) (Yb9 h)
 | .scope x, a, h => Sub.trans (.scope .refl) (Yb9 (by simpa [Y1] using h))
 | .region _ _ _, a, h => by simp [Y1] at h
 | .exit _, a, h => by simp [Y1] at h
 | .ret, a, h => by simp [Y1] at h
 | .skip, a, h => by simp [Y1] at h
def Ysp (k : Nat) : List Code -> List Code
 | [] => []
 | a :: bs => match Nat.beq (Yf2 a) k with | true => a :: Ysp k bs | false => Ysp k bs
theorem Ymb {k : Nat} : ∀ {bs : List Code} {a : Code}, a ∈ bs -> Yf2 a = k -> a ∈ Ysp k bs
 | b :: bs, a, h, hk => by
  unfold Ysp;rcases List.mem_cons.1 h with rfl | h
  ·have e : Nat.beq (Yf2 a) k = true := by subst hk; exact Nat.beq_refl _
   rw [e]; simp
  ·split
   ·exact List.mem_cons_of_mem _ (Ymb h hk)
   ·exact Ymb h hk
theorem Yma {k : Nat} : ∀ {bs : List Code} {a : Code}, a ∈ Ysp k bs -> a ∈ bs
 | b :: bs, a, h => by
  unfold Ysp at h
  split at h
  ·rcases List.mem_cons.1 h with rfl | h
   ·simp
   ·exact List.mem_cons_of_mem _ (Yma h)
  ·exact List.mem_cons_of_mem _ (Yma h)
def Yj6 (P : Program) (g : FuncId) : Code := ((P.funcs[g]?).bind (·.body)).getD .skip
def Ye7 (P : Program) (g : FuncId) (k : Nat) : List Code := Ysp k (Y1 (Yj6 P g))
def Yor (P : Program) (g : FuncId) (k : Nat) : Code := (Ye7 P g k).headD .skip
theorem Yzt {P : Program} {g : FuncId} {key : Nat} (h1 : (match Ye7 P g key with | [_] => true | _ => false) = true) : (∀ (body a : Code), (P.funcs[g]?).bind (·.body) = some body -> a ∈ Y1 body -> Yf2 a = key -> a = Yor P g key) /\ Sub (Yj6 P g) (.loop (Yor P g key)) := by
 have key1 : ∃ x, Ye7 P g key = [x] := by
  revert h1
  split
  ·rename_i x h; exact fun _ => ⟨x, h⟩
  ·exact fun h => by cases h
 obtain ⟨x, hx⟩ := key1;have hl : Yor P g key = x := by unfold Yor; rw [hx]; rfl
 refine ⟨fun body a hb ha hk => ?_, ?_⟩
 ·have e : Yj6 P g = body := by unfold Yj6; rw [hb]; rfl
  have h2 : a ∈ Ye7 P g key := Ymb (by rw [e]; exact ha) hk;rw [hx] at h2;rw [hl];simpa using h2
 ·rw [hl];refine Yb9 (Yma (k := key) ?_)
  show x ∈ Ye7 P g key
  rw [hx]; simp
theorem Yz0 {P : Program} {g : FuncId} {key : Nat} (h1 : (match Ye7 P g key with | [_] => true | _ => false) = true) : (P.funcs[g]?).bind (·.body) = some (Yj6 P g) := by
 unfold Yj6;cases hb : (P.funcs[g]?).bind (·.body) with
 | some b => rfl
 | none =>
  unfold Ye7 Yj6 at h1;rw [hb] at h1;simp [Y1, Ysp] at h1
theorem LE.okOf {P : Program} (tt : (W : InW) -> @Tr (@TI W)) (ht : ∀ W : InW, @TabOk W P (tt W)) (hm : P.follows .mixedOrders = true) (T : Tab P) (n m : Nat) {g : FuncId} {key : Nat} (h1 : (match Ye7 P g key with | [_] => true | _ => false) = true) (lc : LC) (meas : (W : InW) -> List (@Ed W) -> Nat)
  (hb : ∀ (W : InW) (s : List (Nat × @AV W)) (ys : @Heap W) (e1 e2 : List (@Ed W)), @Ynp W lc.T s e1 -> @Yhp W lc.H ys e2 -> ∀ K, @LC.spec lc W (e1 ++ e2) K -> @Yfh W { @cxT W P (tt W) T n m with fn := g } n (Yor P g key) (@Yd9 W lc.len s lc.W) ys (@Yvi W lc (fun e => meas W e < meas W (e1 ++ e2) /\ @LC.spec lc W e K) K)) :
  ∀ (W : InW) (body a : Code), (P.funcs[g]?).bind (·.body) = some body -> a ∈ Y1 body -> Yf2 a = key -> @Ym8 W P a (@Yum W lc) := by
 intro W body a hbd ha hk;obtain ⟨h2, h3⟩ := Yzt h1;rw [h2 body a hbd ha hk];refine Yxj ?_;have hP := Y01 P (tt W) T n m;have hL := (Yta (T := T) (ht W) hm n m).at g;have := LoopC.of (c := { @cxT W P (tt W) T n m with fn := g }) hL (by rw [show ({ @cxT W P (tt W) T n m with fn := g } : Cx).P = P from hP]; exact hm) n (root := Yj6 P g) (by
  show ((cxT P (tt W) T n m).P.funcs[g]?).bind (·.body) = _
  rw [hP]; exact Yz0 h1) h3 (lc := lc) (meas W) (hb W)
 rw [show ({ @cxT W P (tt W) T n m with fn := g } : Cx).P = P from hP] at this;exact this
end Go.Proofs.Ytfbhampnigdaaaa
namespace Go.Proofs.Ytfbhampnigdaaaa
open Go.RowKit
attribute [local irreducible] Go.Oper.wp
section
variable [W : InW]
mutual
def AllP : Pt -> (AV -> List Ed -> Prop) -> Prop
 | .int k, M => ∀ n, M (.si k n) [.i n]
 | .bool, M => ∀ b, M (.sb b) [.b b]
 | .str, M => ∀ s, M (.ss s) [.s s]
 | .lit v, M => M (.v v) []
 | .ptr pid k, M => M (.ptr pid k) []
 | .row pid, M => M (.rw pid) []
 | .rs ts, M => ∀ r : Ro ts, M (.rs ts r) [.ro ts r]
 | .mp pid, M => M (.mp pid) []
 | .yl pid, M => M (.yl pid) []
 | .opq pid, M => M (.opq pid) []
 | .agg ps, M => AllL ps fun xs es => M (.agg xs) es
 | .tup ps, M => AllL ps fun xs es => M (.tup xs) es
 | .fn f a b, M => AllL a fun xs e1 => AllL b fun ys e2 => M (.fn f xs ys) (e1 ++ e2)
 | .ifc t p, M => AllP p fun y es => M (.ifc t y) es
 | .held p, M => AllP p fun y es => M (.held y) es
 | .sl pid a b c, M => M (.sl pid a b c) []
 | .slc pid a b c, M => M (.slc pid a b c) []
 | .rwp pid sz, M => ∀ l n : Nat, M (.rwp pid sz l n) [.i l, .i n]
 | .emp pid, M => M (.emp pid) []
def AllL : List Pt -> (List AV -> List Ed -> Prop) -> Prop
 | [], M => M [] []
 | p :: ps, M => AllP p fun x e1 => AllL ps fun xs e2 => M (x :: xs) (e1 ++ e2)
end
mutual
theorem Yir : ∀ {p : Pt} {M : AV -> List Ed -> Prop} {x : AV} {es : List Ed}, AllP p M -> Ynq p x es -> M x es
 | .int k, M, _, _, h, ⟨n, rfl, rfl⟩ => h n
 | .bool, M, _, _, h, ⟨n, rfl, rfl⟩ => h n
 | .str, M, _, _, h, ⟨n, rfl, rfl⟩ => h n
 | .lit v, M, _, _, h, ⟨rfl, rfl⟩ => h
 | .ptr pid k, M, _, _, h, ⟨rfl, rfl⟩ => h
 | .row pid, M, _, _, h, ⟨rfl, rfl⟩ => h
 | .rs ts, M, _, _, h, ⟨r, rfl, rfl⟩ => h r
 | .mp pid, M, _, _, h, ⟨rfl, rfl⟩ => h
 | .yl pid, M, _, _, h, ⟨rfl, rfl⟩ => h
 | .opq pid, M, _, _, h, ⟨rfl, rfl⟩ => h
 | .agg ps, M, _, es, h, ⟨xs, rfl, hi⟩ => Yc0 (M := fun xs es => M (.agg xs) es) h hi
 | .tup ps, M, _, es, h, ⟨xs, rfl, hi⟩ => Yc0 (M := fun xs es => M (.tup xs) es) h hi
 | .fn f a b, M, _, _, h, ⟨xs, ys, e1, e2, rfl, rfl, h1, h2⟩ => Yc0 (M := fun ys e2 => M (.fn f xs ys) (e1 ++ e2)) (Yc0 (M := fun xs e1 => AllL b fun ys e2 => M (.fn f xs ys) (e1 ++ e2)) h h1) h2
 | .ifc t p, M, _, es, h, ⟨y, rfl, hi⟩ => Yir (M := fun y es => M (.ifc t y) es) h hi
 | .held p, M, _, es, h, ⟨y, rfl, hi⟩ => Yir (M := fun y es => M (.held y) es) h hi
 | .sl pid _ _ _, M, _, _, h, ⟨rfl, rfl⟩ => h
 | .slc pid _ _ _, M, _, _, h, ⟨rfl, rfl⟩ => h
 | .rwp pid _, M, _, _, h, ⟨l, n, rfl, rfl⟩ => h l n
 | .emp pid, M, _, _, h, ⟨rfl, rfl⟩ => h
theorem Yc0 : ∀ {ps : List Pt} {M : List AV -> List Ed -> Prop} {xs : List AV} {es : List Ed}, AllL ps M -> Ykb ps xs es -> M xs es
 | [], M, _, _, h, ⟨rfl, rfl⟩ => h
 | p :: ps, M, _, _, h, ⟨x, xs, e1, e2, rfl, rfl, h1, h2⟩ => Yc0 (M := fun xs e2 => M (x :: xs) (e1 ++ e2)) (Yir (M := fun x e1 => AllL ps fun xs e2 => M (x :: xs) (e1 ++ e2)) h h1) h2
end
def AllI (p : PI) (M : It -> List Ed -> Prop) : Prop :=
 match p with
 | .blk T ps => AllL ps fun xs es => M (.blk T xs) es
 | .arr T ts => ∀ xs, M (.arr T ts xs) [.l xs]
 | .row T sz n ps => AllL ps fun xs es => M (.row T sz n xs) es
 | .obj x => M (.obj x) []
 | .mpI => ∀ xs, M (.obj (.mpI xs)) [.m xs]
 | .mpP => ∀ xs, M (.obj (.mpP xs)) [.l xs]
 | .lp L ps => AllL ps fun xs es => M (.lp L xs) es
 | .dead => M .dead []
 | .nst T ts => ∀ xs, M (.nst T ts xs) [.l xs]
 | .fro ts => ∀ xs, M (.fro ts xs) [.l xs]
def AllH : List (Nat × PI) -> (Heap -> List Ed -> Prop) -> Prop
 | [], M => M [] []
 | p :: ps, M => AllI p.2 fun it e1 => AllH ps fun h e2 => M ((p.1, it) :: h) (e1 ++ e2)
def AllT : List (Nat × Pt) -> (List (Nat × AV) -> List Ed -> Prop) -> Prop
 | [], M => M [] []
 | p :: ps, M => AllP p.2 fun x e1 => AllT ps fun s e2 => M ((p.1, x) :: s) (e1 ++ e2)
theorem Y1b {p : PI} {M : It -> List Ed -> Prop} {it : It} {es : List Ed} (h : AllI p M) (hi : Y29 p it es) : M it es := by
 cases p with
 | blk T ps => obtain ⟨xs, rfl, hi⟩ := hi; exact Yc0 (M := fun xs es => M (.blk T xs) es) h hi
 | arr T ts => obtain ⟨xs, rfl, rfl⟩ := hi; exact h xs
 | row T sz n ps => obtain ⟨xs, rfl, hi⟩ := hi; exact Yc0 (M := fun xs es => M (.row T sz n xs) es) h hi
 | obj x => obtain ⟨rfl, rfl⟩ := hi; exact h
 | mpI => obtain ⟨xs, rfl, rfl⟩ := hi; exact h xs
 | mpP => obtain ⟨xs, rfl, rfl⟩ := hi; exact h xs
 | lp L ps => obtain ⟨xs, rfl, hi⟩ := hi; exact Yc0 (M := fun xs es => M (.lp L xs) es) h hi
 | dead => obtain ⟨rfl, rfl⟩ := hi; exact h
 | nst T ts => obtain ⟨xs, rfl, rfl⟩ := hi; exact h xs
 | fro ts => obtain ⟨xs, rfl, rfl⟩ := hi; exact h xs
theorem Ym5 : ∀ {ps : List (Nat × PI)} {M : Heap -> List Ed -> Prop} {h : Heap} {es : List Ed}, AllH ps M -> Yhp ps h es -> M h es
 | [], M, _, _, h, ⟨rfl, rfl⟩ => h
 | p :: ps, M, _, _, h, ⟨x, xs, e1, e2, rfl, rfl, h1, h2⟩ => Ym5 (M := fun xs e2 => M ((p.1, x) :: xs) (e1 ++ e2)) (Y1b (M := fun x e1 => AllH ps fun xs e2 => M ((p.1, x) :: xs) (e1 ++ e2)) h h1) h2
theorem Ytg : ∀ {ps : List (Nat × Pt)} {M : List (Nat × AV) -> List Ed -> Prop} {h : List (Nat × AV)} {es : List Ed}, AllT ps M -> Ynp ps h es -> M h es
 | [], M, _, _, h, ⟨rfl, rfl⟩ => h
 | p :: ps, M, _, _, h, ⟨x, xs, e1, e2, rfl, rfl, h1, h2⟩ => Ytg (M := fun xs e2 => M ((p.1, x) :: xs) (e1 ++ e2)) (Yir (M := fun x e1 => AllT ps fun xs e2 => M ((p.1, x) :: xs) (e1 ++ e2)) h h1) h2
def AllC (t : Ty) (M : AV -> Cl -> Prop) : Prop :=
 match t with
 | .int k => ∀ n, M (.si k n) (.i n)
 | .bool => ∀ b, M (.sb b) (.b b)
 | .str => ∀ s, M (.ss s) (.s s)
 | .sl ts => ∀ r : Ro ts, M (.rs ts r) (.l r.xs)
def Y3a : List Ty -> (List AV -> List Cl -> Prop) -> Prop
 | [], M => M [] []
 | t :: ts, M => AllC t fun x c => Y3a ts fun xs cs => M (x :: xs) (c :: cs)
def AllA (a : AT) (M : AV -> List Cl -> Prop) : Prop :=
 match a with
 | .one t => AllC t fun x c => M x [c]
 | .agg ts => Y3a ts fun xs cs => M (.agg xs) cs
def Y3b : List AT -> (List AV -> DS -> Prop) -> Prop
 | [], M => M [] []
 | a :: ats, M => AllA a fun x d => Y3b ats fun xs ds => M (x :: xs) (d :: ds)
theorem Yth {t : Ty} {M : AV -> Cl -> Prop} {x : AV} {c : Cl} (h : AllC t M) (hc : Yti t x c) : M x c := by
 cases t <;> (obtain ⟨_, rfl, rfl⟩ := hc; exact h _)
theorem Ype : ∀ {ts : List Ty} {M : List AV -> List Cl -> Prop} {xs : List AV} {cs : List Cl}, Y3a ts M -> Yna ts xs cs -> M xs cs
 | [], M, _, _, h, ⟨rfl, rfl⟩ => h
 | t :: ts, M, _, _, h, ⟨x, xs, c, cs, rfl, rfl, h1, h2⟩ => Ype (M := fun xs cs => M (x :: xs) (c :: cs)) (Yth (M := fun x c => Y3a ts fun xs cs => M (x :: xs) (c :: cs)) h h1) h2
theorem Y1c {a : AT} {M : AV -> List Cl -> Prop} {x : AV} {d : List Cl} (h : AllA a M) (ha : Y44 a x d) : M x d := by
 cases a with
 | one t => obtain ⟨c, rfl, hc⟩ := ha; exact Yth (M := fun x c => M x [c]) h hc
 | agg ts => obtain ⟨xs, rfl, hc⟩ := ha; exact Ype (M := fun xs cs => M (.agg xs) cs) h hc
theorem Ypf : ∀ {ats : List AT} {M : List AV -> DS -> Prop} {xs : List AV} {ds : DS}, Y3b ats M -> Ypg ats xs ds -> M xs ds
 | [], M, _, _, h, ⟨rfl, rfl⟩ => h
 | a :: ats, M, _, _, h, ⟨x, xs, d, ds, rfl, rfl, h1, h2⟩ => Ypf (M := fun xs ds => M (x :: xs) (d :: ds)) (Y1c (M := fun x d => Y3b ats fun xs ds => M (x :: xs) (d :: ds)) h h1) h2
end
theorem PureOk.of' {P : Program} (tt : (W : InW) -> @Tr (@TI W)) (ht : ∀ W : InW, @TabOk W P (tt W)) (hm : P.follows .mixedOrders = true) (T : Tab P) (n m : Nat) {g : FuncId} {ats : List AT} {rs : RTs} {pre : DS -> Prop} {res : DS -> DS}
  (h : ∀ (W : InW), @Y3b W ats fun args ds => pre ds -> @Yx2 W (@cxT W P (tt W) T n m) n g args [] 0 (@Y2i W rs fun o => o = res ds) fun _ _ _ _ => Stuck 421) : PureOk P g ats rs pre res :=
 PureOk.of tt ht hm T n m fun W args ds ha hp => @Ypf W _ _ _ _ (h W) ha hp
theorem LE.okOf' {P : Program} (tt : (W : InW) -> @Tr (@TI W)) (ht : ∀ W : InW, @TabOk W P (tt W)) (hm : P.follows .mixedOrders = true) (T : Tab P) (n m : Nat) {g : FuncId} {key : Nat} (h1 : (match Ye7 P g key with | [_] => true | _ => false) = true) (lc : LC) (meas : (W : InW) -> List (@Ed W) -> Nat)
  (hb : ∀ (W : InW), @AllT W lc.T fun s e1 => @AllH W lc.H fun ys e2 => ∀ K, @LC.spec lc W (e1 ++ e2) K -> @Yfh W { @cxT W P (tt W) T n m with fn := g } n (Yor P g key) (@Yd9 W lc.len s lc.W) ys (@Yvi W lc (fun e => meas W e < meas W (e1 ++ e2) /\ @LC.spec lc W e K) K)) :
  ∀ (W : InW) (body a : Code), (P.funcs[g]?).bind (·.body) = some body -> a ∈ Y1 body -> Yf2 a = key -> @Ym8 W P a (@Yum W lc) :=
 LE.okOf tt ht hm T n m h1 lc meas fun W s ys e1 e2 hT hH => @Ym5 W _ _ _ _ (@Ytg W _ _ _ _ (hb W) hT) hH
end Go.Proofs.Ytfbhampnigdaaaa
namespace Go.Proofs.Ytfbhampnigdaaaa
open Go.RowKit
attribute [local irreducible] Go.Oper.wp
section
variable [W : InW]
mutual
def Yxm : Pt -> AV -> List (Nat × Nat) -> (List (Nat × Nat) -> Bool) -> Bool
 | .int k, x, B, K => (match x with | .si k' _ => decide (k' = k) && K B | .v (.int k' _) => decide (k' = k) && K B | _ => false)
 | .bool, x, B, K => (match x with | .sb _ => K B | .v (.bool _) => K B | _ => false)
 | .str, x, B, K => (match x with | .ss _ => K B | .v (.string _) => K B | _ => false)
 | .lit v, x, B, K => (match x with | .v u => (match Ycr u v with | true => K B | false => false) | _ => false)
 | .ptr p k, x, B, K => (match x with | .ptr i k' => (match Nat.beq k' k with | true => K ((p, i) :: B) | false => false) | _ => false)
 | .row p, x, B, K => (match x with | .rw i => K ((p, i) :: B) | .v (.slice none 0 0) => K B | .sl i 0 0 _ => K ((p, i) :: B) | _ => false)
 | .rs _, x, B, K => (match x with | .rs _ _ => K B | .v (.slice none 0 0) => K B | _ => false)
 | .mp p, x, B, K => (match x with | .mp i => K ((p, i) :: B) | _ => false)
 | .yl p, x, B, K => (match x with | .yl i => K ((p, i) :: B) | _ => false)
 | .opq _, _, B, K => K B
 | .agg ps, x, B, K => (match x with | .agg xs => Ynn ps xs B K | .v (.agg cs) => Ynn ps (cs.toList.map .v) B K | _ => false)
 | .tup ps, x, B, K => (match x with | .tup xs => Ynn ps xs B K | _ => false)
 | .fn f a b, x, B, K => (match x with | .fn f' xs ys => (match Yvf f' f with | true => Ynn a xs B fun B => Ynn b ys B K | false => false) | _ => false)
 | .ifc t p, x, B, K => (match x with | .ifc t' y => (match Nat.beq t' t with | true => Yxm p y B K | false => false) | .v (.iface t' y) => (match Nat.beq t' t with | true => Yxm p (.v y) B K | false => false) | _ => false)
 | .held _, _, _, _ => false
 | .sl p a b c, x, B, K => (match x with | .sl i a' b' c' => (match Nat.beq a' a && Nat.beq b' b && Nat.beq c' c with | true => K ((p, i) :: B) | false => false) | _ => false)
 | .slc p a b c, x, B, K => (match x with | .slc i a' b' c' => (match Nat.beq a' a && Nat.beq b' b && Nat.beq c' c with | true => K ((p, i) :: B) | false => false) | _ => false)
 | .rwp p sz, x, B, K => (match x with | .rwp i sz' _ _ => (match Nat.beq sz' sz with | true => K ((p, i) :: B) | false => false) | _ => false)
 | .emp p, x, B, K => (match x with | .emp i => K ((p, i) :: B) | _ => false)
def Ynn : List Pt -> List AV -> List (Nat × Nat) -> (List (Nat × Nat) -> Bool) -> Bool
 | [], xs, B, K => (match xs with | [] => K B | _ :: _ => false)
 | p :: ps, xs, B, K => (match xs with | [] => false | x :: xs => Yxm p x B fun B => Ynn ps xs B K)
end
def idAt : List (Nat × Nat) -> Nat -> Option Nat
 | [], _ => none
 | q :: B, p => match Nat.beq q.1 p with | true => some q.2 | false => idAt B p
def likeI (p : PI) (it : It) (B : List (Nat × Nat)) (K : List (Nat × Nat) -> Bool) : Bool :=
 match p with
 | .blk T ps => (match it with | .blk T' xs => (match Nat.beq T' T with | true => Ynn ps xs B K | false => false) | _ => false)
 | .arr T ts => (match it with | .arr T' _ _ => (match Nat.beq T' T with | true => K B | false => false) | .bk T' _ _ _ => (match Nat.beq T' T with | true => K B | false => false) | .row T' _ _ _ => (match Nat.beq T' T with | true => K B | false => false) | _ => false)
 | .row T sz n ps => (match it with | .row T' sz' n' xs => (match Nat.beq T' T && Nat.beq sz' sz && Nat.beq n' n with | true => Ynn ps xs B K | false => false) | _ => false)
 | .obj x => (match Yyq it (.obj x) with | true => K B | false => false)
 | .mpI => (match it with | .obj (.mpI _) => K B | .obj (.mpV [] 0) => K B | _ => false)
 | .mpP => (match it with | .obj (.mpP _) => K B | .obj (.mpV [] 0) => K B | _ => false)
 | .lp _ ps => (match it with | .lp _ xs => Ynn ps xs B K | _ => false)
 | .dead => K B
 | .nst T _ => (match it with | .nst T' _ _ => (match Nat.beq T' T with | true => K B | false => false) | _ => false)
 | .fro _ => (match it with | .fro _ _ => K B | _ => false)
def Yxn : List (Nat × PI) -> Heap -> List (Nat × Nat) -> Bool
 | [], _, _ => true
 | (pid, p) :: ps, hp, B => match p.isDead with
  | true => Yxn ps hp B
  | false => match idAt B pid with
  | none => Yxn ps hp B
  | some i => match look hp i with
   | none => false
   | some it => likeI p it B fun B => Yxn ps hp B
def Y3y : List (Nat × PI) -> List (Nat × Nat)
 | [] => []
 | p :: h => match Nat.beq (p.1 % 3) 1 with | true => (p.1, p.1) :: Y3y h | false => Y3y h
def nthW : List AV -> Nat -> AV
 | [], _ => .junk
 | x :: xs, n => match n with | 0 => x | n + 1 => nthW xs n
def Yzx : List (Nat × Pt) -> List AV -> List (Nat × Nat) -> (List (Nat × Nat) -> Bool) -> Bool
 | [], _, B, K => K B
 | p :: ps, tm, B, K => match p.2 with
  | .held q => (match nthW tm p.1 with | .held y => Yxm q y B fun B => Yzx ps tm B K | _ => false)
  | q => Yxm q (nthW tm p.1) B fun B => Yzx ps tm B K
def likeW (T : List (Nat × Pt)) (H : List (Nat × PI)) (B : List (Nat × Nat)) (tm : List AV) (hp : Heap) : Bool := Yzx T tm B fun B => Yxn H hp B
def likeO (p : Pt) (H : List (Nat × PI)) (x : AV) (hp : Heap) : Bool := Yxm p x (Y3y H) fun B => Yxn H hp B
end
end Go.Proofs.Ytfbhampnigdaaaa
namespace Go.Proofs.Ytfbhampnigdaaaa
open Go.RowKit
attribute [local irreducible] Go.Oper.wp
section
variable [W : InW]
def endC (c : Cx) (n : Nat) (fn : Func) (tm : List AV) (hp : Heap) (ps : PS) (kR kP : AV -> Heap -> Prop) : Prop :=
 revK (Ybt tm) [] fun fs => Yiv c n tm fs ps hp fun ps hp => match ps with
  | .run => Yhu c.tt tm hp fn.results.toList fun vs => kR (outA vs) hp
  | .live v => kP (.v v) hp
  | .done _ => Stuck 80
def Yxz (c : Cx) (n : Nat) (g : FuncId) (args : List AV) (hp : Heap) (kR kP : AV -> Heap -> Prop) : Prop :=
 match c.P.funcs[g]? with
 | none => Stuck 51
 | some fn => match fn.body with
  | none => Stuck 52
  | some cd => Yc (Yek args) (padK args fn.ntmps fun tm0 =>
   Yfh { c with fn := g } n cd tm0 hp fun x tm hpF => match x with
    | .norm => endC c n fn tm hpF .run kR kP
    | .ret => endC c n fn tm hpF .run kR kP
    | .pan (.v v) => endC c n fn tm hpF (.live v) kR kP
    | _ => Stuck 53)
theorem Yrk {args : List AV} (h : Yek args = true) (n : Nat) : Ybt (args ++ List.replicate n (.v undef)) = [] /\ ∀ (t : Nat) (v : AV), (args ++ List.replicate n (.v undef))[t]? = some v -> v.isHeld = false := by
 obtain ⟨a, b⟩ := Yfy h;refine ⟨by rw [Yje, a, Yf7]; rfl, fun t v hv => ?_⟩;rw [List.getElem?_append] at hv
 split at hv
 ·exact b t v hv
 ·rw [List.getElem?_replicate] at hv
  split at hv
  ·cases hv; rfl
  ·cases hv
theorem Y0c {args : List AV} {hs : Heap} (hnoh : Yek args = true) (hnd : (keys hs).Nodup) (m : Nat) (φ : Phi) (w0 : World) (M : List Nat) (R : RL) (w : World) (hS : St w0 M (Yb φ hs ++ R) w) :
  RepS (Ywh φ) φ w0 M R (args ++ List.replicate (m - args.length) (.v undef)) hs
   { tmps := (AV.concL φ args).toArray ++ Array.replicate (m - (AV.concL φ args).toArray.size) undef, defers := [] } w := by
 have hl : (AV.concL φ args).length = args.length := Yg _ _;have hst : ∀ (t : Nat) (v : AV), (args ++ List.replicate (m - args.length) (.v undef))[t]? = some v -> v.isHeld = false := (Yrk hnoh _).2;refine ⟨⟨fun t v hv _ => ?_, fun t v hv hh => ?_, fun t v hv hj => ?_, ?_, ?_⟩, hS, hnd, fun x => rfl⟩
 ·have := (List.getElem?_eq_some_iff.1 hv).1;simpa [hl] using this
 ·rw [hst t v hv] at hh; cases hh
 ·rw [Array.getElem?_append, List.getElem?_append] at *;simp only [List.size_toArray, hl] at hv ⊢
  split
  ·rename_i hlt;rw [if_pos hlt] at hv;have := Ycb φ args t;rw [hv] at this;simpa using this
  ·rename_i hge;rw [if_neg hge] at hv;rw [List.getElem?_replicate] at hv
   split at hv
   ·rename_i hlt;cases hv;rw [Array.getElem?_replicate, if_pos hlt];rfl
   ·cases hv
 ·rw [(Yrk hnoh _).1]; rfl
 ·simp [hl]
def BigF (P : Program) (g : FuncId) (xs : List AV) (ys : Heap) (pan : Bool) (v : AV) (ys' : Heap) : Prop :=
 ∀ (φ : Phi) (w0 : World) (M : List Nat) (R : RL) (w : World), (keys ys).Nodup -> St w0 M (Yb φ ys ++ R) w ->
  Calls P g (AV.concL φ xs).toArray w fun e w' => ∃ φ2 : Phi, (∀ x, φ2 (3 * x + 1) = φ (3 * x + 1)) /\ e = Ytf pan (v.conc φ2) /\ (keys ys').Nodup /\ St w0 M (Yb φ2 ys' ++ R) w'
theorem Y22 {c : Cx} (hcL : HandOkL c) (hm : c.P.follows .mixedOrders = true) {n : Nat} {g : FuncId} {args : List AV} {hp : Heap} {kR kP : AV -> Heap -> Prop} (h : Yxz c n g args hp kR kP) :
  ∃ pan v hpF, (match pan with | true => kP v hpF | false => kR v hpF) /\ BigF c.P g args hp pan v hpF := by
 have hc := hcL.toHandOkR;unfold Yxz at h
 split at h
 ·exact h.elim
 ·rename_i fn hf
  split at h
  ·exact h.elim
  ·rename_i cd hb;obtain ⟨hnoh, h1⟩ := Ya h;have h2 := Ylx h1;obtain ⟨x, tm', hpF, h3, h4⟩ := Yg6 (hcL.at g) hm n (root := cd) (by show (c.P.funcs[g]?).bind (·.body) = some cd; rw [hf]; exact hb) cd .refl _ _ _ h2;have fin : ∀ (ps : PS), (∀ (φ : Phi) (e : Exit), x.is φ e -> ∀ (P : Program) (R : Ending -> World -> Prop) (a : Act) (w : World), Yen P fn a.tmps R a.defers ps.mode w -> Ymw P fn R e a w) ->
     endC c n fn tm' hpF ps kR kP -> ∃ pan v hpF, (match pan with | true => kP v hpF | false => kR v hpF) /\ BigF c.P g args hp pan v hpF := by
    intro ps hexit hend;have hrev := Yp1.1 hend;rw [List.append_nil] at hrev;obtain ⟨ps', hp', h5, h6⟩ := Yed hc hm _ _ _ _ (fun f hf' => Yet (by simpa using hf')) hrev;have go : ∀ (v : AV) (pan : Bool),
      (∀ (φ0 φ : Phi) (w0 : World) (M : List Nat) (R : RL) (a : Act) (w : World) (Rp : Ending -> World -> Prop), RepS φ0 φ w0 M R tm' hp' a w -> Rp (Ytf pan (v.conc φ)) w -> Leaves c.P fn a.tmps Rp [] ps'.mode w) ->
      BigF c.P g args hp pan v hp' := by
     intro v pan hpost φ w0 M R w hnd hS;refine Yey hf hb ?_;refine h4 _ _ w0 M R _ w (Y0c hnoh hnd fn.ntmps φ w0 M R w hS) _ fun φ' e a' w' hx hr => ?_;refine hexit φ' e hx c.P _ a' w' ?_;rw [hr.tmps.df, <- List.map_reverse];refine h6 _ φ' w0 M R a' w' hr fn _ fun φ1 w1 hr1 => ?_;refine hpost _ φ1 w0 M R a' w1 _ hr1 ?_;exact ⟨φ1, fun x => hr1.base x, rfl, hr1.nd, hr1.st⟩
    cases ps' with
    | run =>
     obtain ⟨vs, h7, h8, h9⟩ := Yef hc.tab h5;exact ⟨false, outA vs, hp', h7, go _ false fun φ0 φ w0 M R a w Rp hr hR => ⟨_, Ylq h8 (h9 φ0 φ w0 M R a w hr), hR⟩⟩
    | live v => exact ⟨true, .v v, hp', h5, go (.v v) true fun φ0 φ w0 M R a w Rp hr hR => hR⟩
    | done v => exact h5.elim
   cases x with
   | norm => exact fin .run (fun φ e he P R a w hl => by cases he; exact hl) h3
   | ret => exact fin .run (fun φ e he P R a w hl => by cases he; exact hl) h3
   | pan v =>
    cases v <;> first | exact h3.elim | skip
    rename_i v;exact fin (.live v) (fun φ e he P R a w hl => by cases he; exact hl) h3
   | exit i => exact h3.elim
structure CO where
 pan : Bool
 val : Pt
 H : List (Nat × PI)
 same : Bool
end
structure CC where
 g : FuncId
 args : List Pt
 H : List (Nat × PI)
 outs : List CO
 spec : [InW] -> List Ed -> (Nat -> List Ed -> Prop) -> Prop
section
variable [W : InW]
def CallC (P : Program) (cc : CC) : Prop :=
 ∀ xs ys e1 e2, Ykb cc.args xs e1 -> Yhp cc.H ys e2 -> ∀ K, cc.spec (e1 ++ e2) K -> ∃ j e o v r ys', K j e /\ cc.outs[j]? = some o /\ insP o.val e = some (v, r) /\ insH o.H r = some (ys', []) /\ BigF P cc.g xs ys o.pan v (match o.same with | true => ys | false => ys')
mutual
def Y5t : Pt -> AV -> Bool
 | .lit v, x => (match x with | .v u => Ycr u v | _ => false)
 | .ptr _ _, x => (match x with | .ptr _ _ => true | _ => false)
 | .tup ps, x => (match x with | .tup xs => Y5u ps xs | _ => false)
 | _, _ => true
def Y5u : List Pt -> List AV -> Bool
 | [], _ => true
 | p :: ps, xs => (match xs with | [] => false | x :: xs => Y5t p x && Y5u ps xs)
end
def fitC (H0 : List (Nat × PI)) (e0 : List Ed) (o : CO) (v : AV) (hpF : Heap) (Q : List Ed -> Prop) : Prop :=
 match o.same with
 | true => Ybs o.val v (Yrp H0) fun y B e1 => Ydn H0 B hpF fun ys B _ e2 => Yc (Yrq B && Yer (ys.map (·.1))) (Yc o.H.isEmpty (e2 = e0 /\ Q e1))
 | false => Ybs o.val v (Yrp o.H) fun y B e1 => Ydn o.H B hpF fun ys B _ e2 => Yc (Yrq B && Yer (ys.map (·.1))) (Q (e1 ++ e2))
theorem Yz8 {H : List (Nat × PI)} {pan : Bool} {p : Pt} {v : AV} {hpF : Heap} {B0 : Bd} {Q : AV -> Heap -> List Ed -> List Ed -> Prop}
  (h : Ybs p v B0 fun y B e1 => Ydn H B hpF fun ys B _ e2 => Yc (Yrq B && Yer (ys.map (·.1))) (Q y ys e1 e2)) : ∃ y ys e1 e2, Q y ys e1 e2 /\ Ynq p y e1 /\ Yhp H ys e2 /\
  ∀ (P : Program) (g : FuncId) (xs : List AV) (zs : Heap), BigF P g xs zs pan v hpF -> BigF P g xs zs pan y ys := by
 obtain ⟨y, B1, e1, h1, h2, h3, h4, _, _⟩ := Yc6 _ _ _ _ h;obtain ⟨ys, B2, rest, e2, k1, k2, k3, k3s, k4⟩ := Ye6 _ _ _ _ h1;obtain ⟨hb, hk⟩ := Ya k1;rw [Bool.and_eq_true] at hb;refine ⟨y, ys, e1, e2, hk, h2, k2, fun P g xs zs hbig φ w0 M R w hnd hS => ?_⟩;refine (hbig φ w0 M R w hnd hS).mono fun e w' ⟨φ2, f1, f2, f3, f4⟩ => ⟨hB φ2 B2, fun x => by rw [Yuw hb.1]; exact f1 x, ?_, Ybe hb.2, ?_⟩
 ·rw [f2, h4 B2 k3 φ2]
 ·have := k4 B2 (.refl _) φ2 w0 M [] R w' (by simpa using f4);simp only [List.nil_append] at this;exact this.sub ((List.Sublist.refl _).append (List.sublist_append_right _ _))
theorem Y0a {H0 : List (Nat × PI)} {zs : Heap} {e0 : List Ed} (h0 : Yhp H0 zs e0) {o : CO} {v : AV} {hpF : Heap} {Q : List Ed -> Prop} (h : fitC H0 e0 o v hpF Q) : ∃ y ys e, Q e /\ (∃ r, insP o.val e = some (y, r) /\ insH o.H r = some (ys, [])) /\
  ∀ (P : Program) (g : FuncId) (xs : List AV), BigF P g xs zs o.pan v hpF -> BigF P g xs zs o.pan y (match o.same with | true => zs | false => ys) := by
 unfold fitC at h
 split at h
 ·rename_i hs;obtain ⟨y, ys, e1, e2, hk, h2, h3, h4⟩ := Yz8 (pan := o.pan) (Q := fun y ys e1 e2 => Yc o.H.isEmpty (e2 = e0 /\ Q e1)) h;obtain ⟨hO, he, hq⟩ := Ya hk
  replace hO := List.isEmpty_iff.1 hO
  subst he;have e := Ymd _ _ _ [] h3;rw [Ymd _ _ _ [] h0] at e;cases e;exact ⟨y, [], e1, hq, ⟨[], by have := Yjc _ _ _ [] h2; rwa [List.append_nil] at this, by rw [hO]; rfl⟩, fun P g xs hb => h4 P g xs _ hb⟩
 ·rename_i hs;obtain ⟨y, ys, e1, e2, hq, h2, h3, h4⟩ := Yz8 (pan := o.pan) (Q := fun y ys e1 e2 => Q (e1 ++ e2)) h;exact ⟨y, ys, e1 ++ e2, hq, ⟨e2, Yjc _ _ _ _ h2, by have := Ymd _ _ _ [] h3; rwa [List.append_nil] at this⟩, fun P g xs hb => h4 P g xs _ hb⟩
def outC (H0 : List (Nat × PI)) (e0 : List Ed) : List CO -> Nat -> Bool -> AV -> Heap -> (Nat -> List Ed -> Prop) -> Prop
 | [], _, _, _, _, _ => Stuck 482
 | o :: os, j, pan, v, hpF, Q => match (o.pan == pan) && (Y5t o.val v && (match os with | [] => true | _ => likeO o.val o.H v hpF)) with
  | true => fitC H0 e0 o v hpF fun e => Q j e
  | false => outC H0 e0 os (j + 1) pan v hpF Q
theorem Yr2 {H0 : List (Nat × PI)} {zs : Heap} {e0 : List Ed} (h0 : Yhp H0 zs e0) {pan : Bool} {v : AV} {hpF : Heap} {Q : Nat -> List Ed -> Prop} : ∀ {os : List CO} {j : Nat}, outC H0 e0 os j pan v hpF Q -> ∃ k o y ys e, Q (j + k) e /\ os[k]? = some o /\ o.pan = pan /\ (∃ r, insP o.val e = some (y, r) /\ insH o.H r = some (ys, [])) /\
  ∀ (P : Program) (g : FuncId) (xs : List AV), BigF P g xs zs pan v hpF -> BigF P g xs zs o.pan y (match o.same with | true => zs | false => ys)
 | [], _, h => h.elim
 | o :: os, j, h => by
  unfold outC at h
  split at h
  ·rename_i hb;rw [Bool.and_eq_true] at hb;have e : o.pan = pan := by simpa using hb.1
   clear hb;obtain ⟨y, ys, e', h1, h2, h3⟩ := Y0a h0 h;exact ⟨0, o, y, ys, e', h1, rfl, e, h2, fun P g xs hb => h3 P g xs (by rw [e]; exact hb)⟩
  ·obtain ⟨k, o', y, ys, e, h1, h2, h3⟩ := Yr2 h0 h;exact ⟨k + 1, o', y, ys, e, by rw [show j + (k + 1) = j + 1 + k by omega]; exact h1, by simpa using h2, h3⟩
theorem CallC.of {c : Cx} (hcL : HandOkL c) (hm : c.P.follows .mixedOrders = true) (n : Nat) {cc : CC}
  (hb : AllL cc.args fun xs e1 => AllH cc.H fun ys e2 => ∀ K, cc.spec (e1 ++ e2) K -> Yxz c n cc.g xs ys (fun v hpF => outC cc.H e2 cc.outs 0 false v hpF K) (fun v hpF => outC cc.H e2 cc.outs 0 true v hpF K)) : CallC c.P cc := by
 intro xs ys e1 e2 h1 h2 K hs;have h := Ym5 (M := fun ys e2 => ∀ K, cc.spec (e1 ++ e2) K -> Yxz c n cc.g xs ys (fun v hpF => outC cc.H e2 cc.outs 0 false v hpF K) (fun v hpF => outC cc.H e2 cc.outs 0 true v hpF K)) (Yc0 (M := fun xs e1 => AllH cc.H fun ys e2 => ∀ K, cc.spec (e1 ++ e2) K -> Yxz c n cc.g xs ys (fun v hpF => outC cc.H e2 cc.outs 0 false v hpF K) (fun v hpF => outC cc.H e2 cc.outs 0 true v hpF K)) hb h1) h2 K hs;obtain ⟨pan, v, hpF, h3, h4⟩ := Y22 hcL hm h;have h5 : outC cc.H e2 cc.outs 0 pan v hpF K := by cases pan <;> exact h3
 obtain ⟨k, o, y, ys', e, k1, k2, k3, ⟨r, k4, k5⟩, k6⟩ := Yr2 h2 h5;rw [Nat.zero_add] at k1;exact ⟨k, e, o, y, r, ys', k1, k2, k4, k5, k6 _ _ _ h4⟩
end
end Go.Proofs.Ytfbhampnigdaaaa
namespace Go.Proofs.Ytfbhampnigdaaaa
open Go.RowKit
attribute [local irreducible] Go.Oper.wp
section
variable [W : InW]
def Yy3 (rest : Heap) : Heap -> (Heap -> Prop) -> Prop
 | [], K => K []
 | p :: h, K => match look rest p.1 with
  | some _ => Yy3 rest h K
  | none => Yy3 rest h fun r => K (p :: r)
theorem Yi7 {rest : Heap} : ∀ {hp : Heap} {K : Heap -> Prop}, Yy3 rest hp K -> ∃ hs, K hs /\ hs.Sublist hp
 | [], K, h => ⟨[], h, .slnil⟩
 | p :: hp, K, h => by
  unfold Yy3 at h
  split at h
  ·obtain ⟨hs, h1, h2⟩ := Yi7 h;exact ⟨hs, h1, h2.cons p⟩
  ·obtain ⟨hs, h1, h2⟩ := Yi7 h;exact ⟨_, h1, h2.cons_cons p⟩
theorem Y34 {hs hp : Heap} (h : hs.Sublist hp) (hn : (keys hp).Nodup) : PartOf hs hp :=
 ⟨(h.map _).nodup hn, fun p hm => Ybw hn (h.mem hm)⟩
def usK (hO : Heap) : Heap -> (Heap -> Prop) -> Prop
 | [], K => K []
 | p :: hs, K => match look hO p.1 with
  | some y => usK hO hs fun r => K ((p.1, y) :: r)
  | none => usK hO hs fun r => K ((p.1, .dead) :: r)
def newK (hs : Heap) : Heap -> (Heap -> Prop) -> Prop
 | [], K => K []
 | p :: h, K => match look hs p.1 with
  | some _ => newK hs h K
  | none => newK hs h fun r => K (p :: r)
def usOf (hO hs : Heap) : Heap := hs.map fun p => (p.1, match look hO p.1 with | some y => y | none => .dead)
def Ysc (hs hO : Heap) : Heap := hO.filter fun p => (look hs p.1).isNone
theorem Yx7 {hO : Heap} : ∀ {hs : Heap} {K : Heap -> Prop}, usK hO hs K ↔ K (usOf hO hs)
 | [], K => Iff.rfl
 | p :: hs, K => by
  unfold usK;cases hl : look hO p.1 <;> simp only [Yx7 (hs := hs), usOf, List.map_cons, hl]
theorem Yvs {hs : Heap} : ∀ {h : Heap} {K : Heap -> Prop}, newK hs h K ↔ K (Ysc hs h)
 | [], K => Iff.rfl
 | p :: h, K => by
  unfold newK;cases hl : look hs p.1 <;> simp [Yvs (h := h), Ysc, hl]
theorem Yf1 (hO hs : Heap) : keys (usOf hO hs) = keys hs := by simp [usOf, keys, Function.comp_def]
theorem Ysg {hO : Heap} : ∀ {hs : Heap} {i : Nat}, look (usOf hO hs) i = (look hs i).map fun _ => match look hO i with | some y => y | none => .dead
 | [], i => rfl
 | p :: hs, i => by
  simp only [usOf, List.map_cons];rw [Yr, Yr]
  by_cases e : p.1 = i
  ·simp [e]
  ·rw [if_neg e, if_neg e]; exact Ysg
theorem Ywm : ∀ (us hs : Heap), keys us = keys hs -> (keys hs).Nodup -> Yh hs us = us := by
 have key : ∀ (us pre hs : Heap), keys us = keys hs -> (keys (pre ++ hs)).Nodup -> Yh (pre ++ hs) us = pre ++ us := by
  intro us
  induction us with
  | nil =>
   intro pre hs h1 h2;cases hs with
   | nil => rfl
   | cons _ _ => simp [keys] at h1
  | cons p us ih =>
   intro pre hs h1 h2;cases hs with
   | nil => simp [keys] at h1
   | cons q hs =>
    simp only [keys, List.map_cons, List.cons.injEq] at h1;obtain ⟨i, y⟩ := p;obtain ⟨i', x⟩ := q;obtain ⟨rfl, h1⟩ := h1;have hpre : i ∉ keys pre := fun hm => by
     rw [Ybk, List.nodup_append] at h2;exact h2.2.2 _ hm _ (by simp [keys]) rfl
    rw [Yh, Ytn hpre];have := ih (pre ++ [(i, y)]) hs h1 (by
     simpa [keys] using h2)
    simpa using this
 intro us hs h1 h2;simpa using key us [] hs h1 (by simpa using h2)
theorem St.deads {φ : Phi} {w0 w : World} {M : List Nat} {R : RL} : ∀ {ds : Heap}, (∀ p ∈ ds, p.2 = .dead) -> St w0 M R w -> St w0 M (Yb φ ds ++ R) w
 | [], _, h => h
 | (i, x) :: ds, hd, h => by
  have h1 := St.deads (φ := φ) (ds := ds) (fun p hp => hd p (List.mem_cons_of_mem _ hp)) h;have e : x = .dead := hd (i, x) List.mem_cons_self;subst e;simp only [Yb, List.map_cons, It.conc, List.cons_append] at h1 ⊢;exact h1.add (Ext.refl _) (r := .row (.slice none 0 0) 0 0 0 []) ⟨by simp, .inl ⟨rfl, rfl⟩⟩ (by simp [Res.foot, Value.ownBlock])
def Yh3 (ks : List Nat) (φ φ' : Phi) : Phi := fun i => if i ∈ ks then φ' i else φ i
theorem Yjy (ks : List Nat) (φ φ' : Phi) : Agree ks φ (Yh3 ks φ φ') := fun i hi => by simp [Yh3, hi]
def mayB (base : Nat) (ks : List Nat) (i : Nat) : Bool := match Ygv base i with | true => true | false => ks.contains i
theorem Ylu {base : Nat} {ks : List Nat} {φ φ2 : Phi} (hk : ∀ k ∈ ks, Ygv base k = false) {i : Nat} (h : mayB base ks i = true) : Yh3 ks φ (Yby φ φ2 base) i = Yby φ φ2 base i := by
 unfold mayB at h;unfold Yh3
 split at h
 ·rename_i ho;rw [if_neg (fun hm => by rw [hk i hm] at ho; cases ho), Ydt ho]
 ·rw [if_pos (List.contains_iff_mem.1 h)]
def Ywg (base : Nat) : Heap -> Bool
 | [] => true
 | p :: h => !(Ygv base p.1) && Ywg base h
theorem Ym4 {base : Nat} : ∀ {h : Heap}, Ywg base h = true -> ∀ k ∈ keys h, Ygv base k = false
 | [], _, k, hk => by simp [keys] at hk
 | p :: h, hh, k, hk => by
  simp only [Ywg, Bool.and_eq_true, Bool.not_eq_true'] at hh;simp only [keys, List.map_cons, List.mem_cons] at hk;rcases hk with rfl | hk
  ·exact hh.1
  ·exact Ym4 hh.2 k hk
def mayH (base : Nat) (ks : List Nat) : Heap -> Bool
 | [] => true
 | p :: h => mayB base ks p.1 && p.2.ids (mayB base ks) && mayH base ks h
theorem Ysd {base : Nat} {ks : List Nat} {φ φ' : Phi} (h : ∀ i, mayB base ks i = true -> φ' i = φ i) : ∀ {hs : Heap}, mayH base ks hs = true -> Yb φ' hs = Yb φ hs
 | [], _ => rfl
 | p :: hs, hh => by
  simp only [mayH, Bool.and_eq_true] at hh;have := Ysd h hh.2;simp only [Yb, List.map_cons, Yut h hh.1.1 p.2 hh.1.2] at this ⊢;rw [this]
def Y36 (i : Nat) : Bool := Nat.beq (i % 3) 1
def ownH : Heap -> Bool
 | [] => true
 | p :: h => Y36 p.1 && p.2.ids Y36 && ownH h
theorem Yr0 {φ φ' : Phi} (h : ∀ x, φ' (3 * x + 1) = φ (3 * x + 1)) : ∀ hs : Heap, ownH hs = true -> Yb φ' hs = Yb φ hs
 | [], _ => rfl
 | p :: hs, hh => by
  simp only [ownH, Bool.and_eq_true] at hh;have := Yr0 h hs hh.2;have hl : ∀ i, Y36 i = true -> φ' i = φ i := fun i hi => by
   have e : i = 3 * (i / 3) + 1 := by have := Yd.1 hi; omega
   rw [e]; exact h _
  simp only [Yb, List.map_cons, Yut hl hh.1.1 p.2 hh.1.2] at this ⊢;rw [this]
def lowL : List AV -> Bool
 | [] => true
 | x :: xs => x.ids Ycm && lowL xs
theorem Yl3 : ∀ {xs : List AV}, lowL xs = true -> AV.idsL Ycm xs = true
 | [], _ => rfl
 | x :: xs, h => by
  simp only [lowL, Bool.and_eq_true] at h;unfold AV.idsL;rw [h.1];exact Yl3 h.2
def nilK (h : Heap) (K : Prop) : Prop := match h with | [] => K | _ :: _ => Stuck 483
def endE (es : List Ed) (K : Prop) : Prop := match es with | [] => K | _ :: _ => Stuck 481
theorem Yzh {h : Heap} {K : Prop} (hh : nilK h K) : h = [] /\ K := by cases h <;> first | exact ⟨rfl, hh⟩ | exact hh.elim
theorem Ys0 {h : List Ed} {K : Prop} (hh : endE h K) : h = [] /\ K := by cases h <;> first | exact ⟨rfl, hh⟩ | exact hh.elim
def thP : List AV -> List AV -> Bool
 | [], [] => true
 | .ptr a b :: xs, .ptr c d :: ys => Nat.beq a c && Nat.beq b d && thP xs ys
 | _, _ => false
def thV : AV -> AV -> Bool
 | .ptr a b, .ptr c d => Nat.beq a c && Nat.beq b d
 | .rw a, .rw b => Nat.beq a b
 | .mp a, .mp b => Nat.beq a b
 | .fn (.func g) [] xs, .fn (.func g') [] ys => Nat.beq g g' && thP xs ys
 | _, _ => false
def thL : List AV -> List AV -> Bool
 | [], [] => true
 | x :: xs, y :: ys => thV x y && thL xs ys
 | _, _ => false
def thO : Option It -> It -> Bool
 | some (.blk t xs), .blk t' ys => Nat.beq t t' && thL xs ys
 | _, _ => false
theorem Y48 : ∀ {xs ys : List AV}, thP xs ys = true -> xs = ys := by
 intro xs ys
 fun_induction thP xs ys with
 | case1 => intro _; rfl
 | case2 a b xs c d ys ih =>
  intro h;simp only [Bool.and_eq_true, Yd] at h;obtain ⟨⟨rfl, rfl⟩, h⟩ := h;rw [ih h]
 | case3 => intro h; cases h
theorem Y47 {x y : AV} (h : thV x y = true) : x = y := by
 unfold thV at h
 split at h
 ·simp only [Bool.and_eq_true, Yd] at h; obtain ⟨rfl, rfl⟩ := h; rfl
 ·rw [Yd.1 h]
 ·rw [Yd.1 h]
 ·simp only [Bool.and_eq_true, Yd] at h; obtain ⟨rfl, h⟩ := h; rw [Y48 h]
 ·cases h
theorem Y5a : ∀ {xs ys : List AV}, thL xs ys = true -> xs = ys := by
 intro xs ys
 fun_induction thL xs ys with
 | case1 => intro _; rfl
 | case2 x xs y ys ih =>
  intro h;simp only [Bool.and_eq_true] at h;rw [Y47 h.1, ih h.2]
 | case3 => intro h; cases h
theorem Y49 {o : Option It} {y : It} (h : thO o y = true) : o = some y := by
 unfold thO at h
 split at h
 ·simp only [Bool.and_eq_true, Yd] at h; obtain ⟨rfl, h⟩ := h; rw [Y5a h]
 ·cases h
def thin (hs : Heap) : Heap -> Heap
 | [] => []
 | p :: us => match thO (look hs p.1) p.2 with | true => thin hs us | false => p :: thin hs us
def Yya (hs : Heap) : Heap -> (Heap -> Prop) -> Prop
 | [], K => K []
 | p :: us, K => match thO (look hs p.1) p.2 with | true => Yya hs us K | false => Yya hs us fun r => K (p :: r)
theorem Yq6 {hs : Heap} : ∀ {us : Heap} {K : Heap -> Prop}, Yya hs us K ↔ K (thin hs us)
 | [], K => Iff.rfl
 | p :: us, K => by
  unfold Yya thin;cases thO (look hs p.1) p.2 <;> simp only [Yq6 (us := us)]
theorem Ypm {hs : Heap} : ∀ {us : Heap} {i : Nat}, i ∈ keys (thin hs us) -> i ∈ keys us
 | [], _, h => h
 | p :: us, i, h => by
  unfold thin at h
  split at h
  ·exact List.mem_cons_of_mem _ (Ypm h)
  ·rcases List.mem_cons.1 h with h | h
   ·exact h ▸ List.mem_cons_self
   ·exact List.mem_cons_of_mem _ (Ypm h)
theorem Yva : ∀ {h : Heap} {i : Nat} {x : It}, look h i = some x -> upd h i x = h
 | [], _, _, h => rfl
 | p :: h, i, x, hl => by
  unfold look at hl;unfold upd;cases hb : Nat.beq p.1 i with
  | true =>
   rw [hb] at hl;cases hl;have := Yd.1 hb;subst this;rfl
  | false =>
   rw [hb] at hl
   show p :: upd h i x = p :: h
   rw [Yva hl]
theorem Ysh : ∀ {h : Heap} {i j : Nat} {x : It}, j ≠ i -> look (upd h i x) j = look h j
 | [], _, _, _, _ => rfl
 | p :: h, i, j, x, hj => by
  unfold upd;cases hb : Nat.beq p.1 i with
  | true =>
   have e := Yd.1 hb;have : Nat.beq i j = false := Y2.2 (Ne.symm hj);have : Nat.beq p.1 j = false := by rw [e]; exact this
   simp [look, *]
  | false => simp [look, Ysh (h := h) hj]
theorem Yg9 {hs : Heap} : ∀ (us h : Heap), (keys us).Nodup -> (∀ k ∈ keys us, look h k = look hs k) -> Yh h (thin hs us) = Yh h us
 | [], _, _, _ => rfl
 | p :: us, h, hn, hl => by
  have hn' := List.nodup_cons.1 hn;unfold thin
  split
  ·rename_i hs'
   show _ = Yh (upd h p.1 p.2) us
   rw [Yva ((hl _ List.mem_cons_self).trans (Y49 hs'))];exact Yg9 us h hn'.2 fun k hk => hl k (List.mem_cons_of_mem _ hk)
  ·show Yh (upd h p.1 p.2) _ = Yh (upd h p.1 p.2) us
   refine Yg9 us _ hn'.2 fun k hk => ?_;rw [Ysh (show k ≠ p.1 from fun e => hn'.1 (by show p.1 ∈ keys us; rw [<- e]; exact hk))];exact hl k (List.mem_cons_of_mem _ hk)
theorem ACall.thin {P : Program} {g : FuncId} {args : List AV} {hs : Heap} {pan : Bool} {val : AV} {us nw : Heap} (h : ACall P g args hs pan val us nw) (hn : (keys us).Nodup) : ACall P g args hs pan val (Go.Proofs.Ytfbhampnigdaaaa.thin hs us) nw := by
 unfold ACall at h ⊢;rw [Yg9 us hs hn fun _ _ => rfl];exact h
def Y52 (cc : CC) (args : List AV) (hp : Heap) (k kp : KE) : Prop :=
 Yc (Yer (hp.map (·.1))) (Yeh cc.args args [] fun _ B _ => Ydn cc.H B hp fun _ _ rest _ => Yy3 rest hp fun hs =>
  Yeh cc.args args [] fun xs B e1 => Ydn cc.H B hs fun ys B rest e2 => nilK rest (Y5 (maxL (Yqf args hp) 1024) fun base =>
   Yc (Yo1 base args && hOld base hs && lowL xs && lowH ys && Yer (ys.map (·.1))) (cc.spec (e1 ++ e2) fun j e => match cc.outs[j]? with
    | none => Stuck 480
    | some o => outP B base o.val e fun v r => (match o.same with
     | true => endE r (Yc (v.ids (mayB base []) && ownH ys) (match o.pan with | false => k v hs [] [] | true => kp v hs [] []))
     | false => outH B base o.H r fun hO r => endE r (usK hO hs fun us => newK hs hO fun nw =>
      Yc (Yer (hO.map (·.1)) && Ywg base nw && v.ids (mayB base (nw.map (·.1))) && mayH base (nw.map (·.1)) hO) (Yya hs us fun us => match o.pan with | false => k v hs us nw | true => kp v hs us nw))))))
theorem Yu7 {P : Program} {cc : CC} (hc : CallC P cc) {args : List AV} {hp : Heap} {k kp : KE} (h : Y52 cc args hp k kp) :
  (∃ val hs us nw, k val hs us nw /\ PartOf hs hp /\ (∀ i ∈ keys us, i ∈ keys hs) /\ ACall P cc.g args hs false val us nw) \/
  (∃ val hs us nw, kp val hs us nw /\ PartOf hs hp /\ (∀ i ∈ keys us, i ∈ keys hs) /\ ACall P cc.g args hs true val us nw) := by
 obtain ⟨hnd, h⟩ := Ya h;obtain ⟨_, _, _, h, _⟩ := Ybf _ _ _ _ h;obtain ⟨_, _, rest0, _, h, _⟩ := Ye6 _ _ _ _ h;obtain ⟨hs, h, hsub⟩ := Yi7 h;have hpart := Y34 hsub (Ybe hnd);obtain ⟨xs, B1, e1, h, m1, m2, m3⟩ := Ybf _ _ _ _ h;obtain ⟨ys, B, rest, e2, h, n1, n2, n3, n4'⟩ := Yb7 _ _ _ _ h;have n4 := fun B2 hB2 φ => (n4' B2 hB2 φ).1;obtain ⟨hnil, hz⟩ := Yzh h;subst hnil;have hz2 := Yk.1 hz;clear h hz;generalize maxL (Yqf args hp) 1024 = base at hz2;obtain ⟨hb, hz3⟩ := Ya hz2;simp only [Bool.and_eq_true] at hb;obtain ⟨⟨⟨⟨b1, b2⟩, b3⟩, b4⟩, b5⟩ := hb;obtain ⟨j, e, o, v', r, ys', k1, k2, k3, k4, k5⟩ := hc xs ys e1 e2 m1 n1 _ hz3;rw [k2] at k1;obtain ⟨v, v2, r2, p1, p2, p3, _⟩ := Yfv _ _ _ k1;rw [k3] at p2;cases p2
 split at p1
 ·rename_i hsm;obtain ⟨hr, p1⟩ := Ys0 p1;obtain ⟨c3', p1⟩ := Ya p1;obtain ⟨c3, cO⟩ : _ /\ _ := by simpa only [Bool.and_eq_true] using c3'
  rw [hsm] at k5;have hA : ACall P cc.g args hs o.pan v [] [] := by
   intro φ w0 M R w hnew hS;have hS1 := n4 B (.refl _) φ w0 M [] R w (by simpa using hS);simp only [List.nil_append, Yb, List.map_nil] at hS1;have hS2 : St w0 M (Yb (Yea φ B { tmps := #[], defers := [] }) ys ++ R) w := by rw [Yzr ys b4]; exact hS1
   have hx : AV.concL (Yea φ B { tmps := #[], defers := [] }) xs = AV.concL φ args := by
    rw [Yb8 xs (Yl3 b3), m3 B n2 φ]
   have hcall := k5 (Yea φ B { tmps := #[], defers := [] }) w0 M R w (Ybe b5) hS2;rw [hx] at hcall;refine hcall.mono fun en w' ⟨φ2, f1, f2, f3, f4⟩ => ?_;have hE : Ends B φ φ2 { tmps := #[], defers := [] } := ⟨f1⟩;refine ⟨Yh3 [] φ (Yby φ φ2 base), Yjy _ _ _, ?_, ?_⟩
   ·rw [f2, <- p3 φ φ2 _ hE];rw [Yip (p := mayB base []) (fun i hi => Ylu (ks := []) (fun k hk => by cases hk) hi) v c3]
   ·have e0 : Yb φ2 ys = Yb (hB φ B) ys := by rw [Yr0 f1 ys cO, Yzr ys b4]
    dsimp only at f4;rw [e0] at f4;obtain ⟨D, hD⟩ := (n4' B (.refl _) φ).2;have f5 : St w0 M ((Yb (hB φ B) ys ++ Yb φ []) ++ R) w' := by simpa [Yb] using f4
    have f6 := (f5.perm (hD.append_right R)).sub (L' := Yb φ hs ++ R) (by
     rw [List.append_assoc]; exact List.sublist_append_right _ _)
    have e1 : Yh3 [] φ (Yby φ φ2 base) = φ := by funext i; simp [Yh3]
    rw [e1];simpa [Yh] using f6
  cases hp : o.pan with
  | false => rw [hp] at p1 hA; exact .inl ⟨_, _, _, _, p1, hpart, (fun i hi => by cases hi), hA⟩
  | true => rw [hp] at p1 hA; exact .inr ⟨_, _, _, _, p1, hpart, (fun i hi => by cases hi), hA⟩
 rename_i hsm;rw [hsm] at k5;obtain ⟨hO, ys2, r3, q1, q2, q3⟩ := Ylz _ _ _ p1;rw [k4] at q2;cases q2;obtain ⟨_, q1⟩ := Ys0 q1;have q1 := Yvs.1 (Yx7.1 q1);obtain ⟨hb2, q1⟩ := Ya q1;simp only [Bool.and_eq_true] at hb2;obtain ⟨⟨⟨c1, c2⟩, c3⟩, c4⟩ := hb2;have hall := Ym4 c2;have hus : ∀ i ∈ keys (usOf hO hs), i ∈ keys hs := fun i hi => by rwa [Yf1] at hi
 have hA : ACall P cc.g args hs o.pan v (usOf hO hs) (Ysc hs hO) := by
  intro φ w0 M R w hnew hS;have hS1 := n4 B (.refl _) φ w0 M [] R w (by simpa using hS);simp only [List.nil_append, Yb, List.map_nil] at hS1;have hS2 : St w0 M (Yb (Yea φ B { tmps := #[], defers := [] }) ys ++ R) w := by rw [Yzr ys b4]; exact hS1
  have hx : AV.concL (Yea φ B { tmps := #[], defers := [] }) xs = AV.concL φ args := by
   rw [Yb8 xs (Yl3 b3), m3 B n2 φ]
  have hcall := k5 (Yea φ B { tmps := #[], defers := [] }) w0 M R w (Ybe b5) hS2;rw [hx] at hcall;refine hcall.mono fun en w' ⟨φ2, f1, f2, f3, f4⟩ => ?_;have hE : Ends B φ φ2 { tmps := #[], defers := [] } := ⟨f1⟩;refine ⟨Yh3 (keys (Ysc hs hO)) φ (Yby φ φ2 base), Yjy _ _ _, ?_, ?_⟩
  ·rw [f2, <- p3 φ φ2 _ hE];rw [Yip (p := mayB base (keys (Ysc hs hO))) (fun i hi => Ylu hall hi) v c3]
  ·rw [Ywm _ _ (Yf1 hO hs) hpart.nd];have e1 : St w0 M (Yb (Yby φ φ2 base) hO ++ R) w' := by rw [q3 φ φ2 _ hE]; exact f4
   rw [<- Ysd (fun i hi => Ylu (φ := φ) (φ2 := φ2) hall hi) c4] at e1;generalize Yh3 (keys (Ysc hs hO)) φ (Yby φ φ2 base) = φ' at e1 ⊢;have hOnd : (keys hO).Nodup := Ybe c1;have hperm : ((usOf hO hs) ++ Ysc hs hO).Perm (((usOf hO hs).filter fun p => (look hO p.1).isNone) ++ hO) := by
    refine Yft ?_ ?_ ?_
    ·rw [Ybk, Yf1];refine List.nodup_append.2 ⟨hpart.nd, (List.filter_sublist.map _).nodup hOnd, fun a ha b hb e => ?_⟩;subst e;obtain ⟨x, hx⟩ := Ykk.2 ha;obtain ⟨q, hq, rfl⟩ := List.mem_map.1 hb;have := (List.mem_filter.1 hq).2;rw [hx] at this;cases this
    ·rw [Ybk];refine List.nodup_append.2 ⟨(List.filter_sublist.map _).nodup (by show (keys (usOf hO hs)).Nodup; rw [Yf1]; exact hpart.nd), hOnd, fun a ha b hb e => ?_⟩;subst e;obtain ⟨x, hx⟩ := Ykk.2 hb;obtain ⟨q, hq, rfl⟩ := List.mem_map.1 ha;have := (List.mem_filter.1 hq).2;rw [hx] at this;cases this
    ·intro i;have hf : ∀ (f : Nat -> Bool) (h : Heap), look (h.filter fun p => f p.1) i = if f i then look h i else none := by
      intro f h
      induction h with
      | nil => simp [look]
      | cons p h ih =>
       rw [List.filter_cons]
       by_cases e : p.1 = i
       ·subst e;cases hfi : f p.1 <;> simp [hfi, Yr] <;> simp_all
       ·cases hfp : f p.1 <;> simp [Yr, e, ih]
     rw [Yic, Yic];have a1 := hf (fun i => (look hs i).isNone) hO;have a2 := hf (fun i => (look hO i).isNone) (usOf hO hs);unfold Ysc;rw [a1, a2, Ysg];cases look hs i <;> cases look hO i <;> simp
   have hd : ∀ p ∈ ((usOf hO hs).filter fun p => (look hO p.1).isNone), p.2 = .dead := by
    intro p hp;obtain ⟨h1, h2⟩ := List.mem_filter.1 hp;obtain ⟨q, hq, rfl⟩ := List.mem_map.1 h1;dsimp only at h2 ⊢;cases hl : look hO q.1 with
    | none => rfl
    | some y => rw [hl] at h2; cases h2
   have e2 := St.deads (φ := φ') hd e1;refine e2.perm ?_;rw [<- List.append_assoc, <- Yp];exact ((Yu hperm).symm.append_right R)
 have q1 := Yq6.1 q1;have hA := hA.thin (by rw [Yf1]; exact hpart.nd);have hus := fun i (hi : i ∈ keys (thin hs (usOf hO hs))) => hus i (Ypm hi);cases hp : o.pan with
 | false => rw [hp] at q1 hA; exact .inl ⟨_, _, _, _, q1, hpart, hus, hA⟩
 | true => rw [hp] at q1 hA; exact .inr ⟨_, _, _, _, q1, hpart, hus, hA⟩
def likeC (cc : CC) (args : List AV) (hp : Heap) : Bool := Ynn cc.args args [] fun B => Yxn cc.H hp B
end
def ceOf {P : Program} (cc : CC) (h : ∀ W : InW, @CallC W P cc) : CE P := ⟨cc.g, fun W => @likeC W cc, fun W args hp k kp => @Y52 W cc args hp k kp, fun W args hp k kp => @Yu7 W P cc (h W) args hp k kp⟩
theorem CC.okOf {P : Program} (tt : (W : InW) -> @Tr (@TI W)) (ht : ∀ W : InW, @TabOk W P (tt W)) (hm : P.follows .mixedOrders = true) (T : Tab P) (n m : Nat) (cc : CC)
  (hb : ∀ (W : InW), @AllL W cc.args fun xs e1 => @AllH W cc.H fun ys e2 => ∀ K, @CC.spec cc W (e1 ++ e2) K -> @Yxz W (@cxT W P (tt W) T n m) n cc.g xs ys (fun v hpF => @outC W cc.H e2 cc.outs 0 false v hpF K) (fun v hpF => @outC W cc.H e2 cc.outs 0 true v hpF K)) : ∀ W : InW, @CallC W P cc := by
 intro W;have hP := Y01 P (tt W) T n m;have := CallC.of (c := @cxT W P (tt W) T n m) (Yta (T := T) (ht W) hm n m) (by rw [hP]; exact hm) n (cc := cc) (hb W);rwa [hP] at this
end Go.Proofs.Ytfbhampnigdaaaa
namespace Go.Proofs.Ytfbhampnigdaaaa
open Go.RowKit Go.ChangeShapes Go.WideShapes Go.ChangeAt
inductive WfC : Ty -> Cl -> Prop
 | int (k : IntKind) (n : Int) (h : (Lit.int k n).wf = true) : WfC (.int k) (.i n)
 | bool (b : Bool) : WfC .bool (.b b)
 | str (s : ByteArray) (h : s.size <= maxLen) : WfC .str (.s s)
 | sl (ts : List Ty) (xs : Dt) (hm : xs.length <= maxLen) (hl : ∀ row ∈ xs, row.length = ts.length) (h : ∀ i k t, i < xs.length -> ts[k]? = some t -> WfC t (cel xs i k)) : WfC (.sl ts) (.l xs)
inductive WfL : List Ty -> List Cl -> Prop
 | nil : WfL [] []
 | cons {t : Ty} {c : Cl} {ts : List Ty} {cs : List Cl} (h : WfC t c) (hs : WfL ts cs) : WfL (t :: ts) (c :: cs)
def WfA (a : AT) (d : List Cl) : Prop := match a with | .one t => WfL [t] d | .agg ts => WfL ts d
def WfD : List AT -> DS -> Prop
 | [], ds => ds = []
 | a :: ats, ds => ∃ d ds', ds = d :: ds' /\ WfA a d /\ WfD ats ds'
inductive RdL [InW] : List Ty -> List Value -> List Cl -> Prop
 | nil : RdL [] [] []
 | cons {t : Ty} {u : Value} {c : Cl} {ts : List Ty} {us : List Value} {cs : List Cl} (h : RdV t u c) (hz : Ymu t c) (hw : WfC t c) (hs : RdL ts us cs) : RdL (t :: ts) (u :: us) (c :: cs)
section
variable [W : InW]
theorem RdL.append {ts : List Ty} {us : List Value} {cs : List Cl} {ts' : List Ty} {us' : List Value} {cs' : List Cl} (h : RdL ts us cs) (h' : RdL ts' us' cs') : RdL (ts ++ ts') (us ++ us') (cs ++ cs') := by
 induction h with
 | nil => exact h'
 | cons a b c _ ih => exact .cons a b c ih
theorem RdL.len {ts : List Ty} {us : List Value} {cs : List Cl} (h : RdL ts us cs) : us.length = ts.length /\ cs.length = ts.length := by
 induction h with
 | nil => exact ⟨rfl, rfl⟩
 | cons _ _ _ _ ih => simp [ih.1, ih.2]
theorem RdL.at {ts : List Ty} {us : List Value} {cs : List Cl} (h : RdL ts us cs) : ∀ (k : Nat) (t : Ty) (u : Value) (c : Cl), ts[k]? = some t -> us[k]? = some u -> cs[k]? = some c -> RdV t u c /\ Ymu t c /\ WfC t c := by
 induction h with
 | nil => intro k t u c h; simp at h
 | cons a b d _ ih =>
  intro k t u c h1 h2 h3;cases k with
  | zero => simp only [List.getElem?_cons_zero, Option.some.injEq] at h1 h2 h3; subst h1; subst h2; subst h3; exact ⟨a, b, d⟩
  | succ k => exact ih k t u c (by simpa using h1) (by simpa using h2) (by simpa using h3)
theorem RdL.wf {ts : List Ty} {us : List Value} {cs : List Cl} (h : RdL ts us cs) : WfL ts cs := by
 induction h with
 | nil => exact .nil
 | cons _ _ c _ ih => exact .cons c ih
end
def Yz9 (rec : TypeId -> Option (List Ty)) : Nat -> List Field -> Option (List Ty)
 | _, [] => some []
 | off, f :: fs => match rec f.type with
  | none => none
  | some ts => if f.offset = off then (Yz9 rec (off + ts.length) fs).map (ts ++ ·) else none
def fitN : Nat -> List Ty -> List Ty
 | 0, _ => []
 | n + 1, ts => ts ++ fitN n ts
def fit0 (P : Program) (rec : TypeId -> Option (List Ty)) (t : TypeId) : Option (List Ty) :=
 match P.underlying t with
 | some .bool => some [.bool]
 | some (.int k) => some [.int k]
 | some .string => some [.str]
 | some (.slice e) => (match rec e with | some (t :: ts) => some [.sl (t :: ts)] | _ => none)
 | some (.struct fs) => Yz9 rec 0 fs.toList
 | some (.array n e) => (rec e).map (fitN n)
 | _ => none
def Yno (P : Program) : Nat -> TypeId -> Option (List Ty)
 | 0, _ => none
 | d + 1, t => match fit0 P (Yno P d) t with
  | some ts => if P.cellsOf t = ts.length then some ts else none
  | none => none
theorem Yd5 {P : Program} {d : Nat} {t : TypeId} {ts : List Ty} (h : Yno P d t = some ts) : P.cellsOf t = ts.length := by
 cases d with
 | zero => cases h
 | succ d =>
  unfold Yno at h
  split at h
  ·split at h
   ·cases h; assumption
   ·cases h
  ·cases h
theorem Yxi {α : Type} {f : Nat -> Option α} : ∀ {n : Nat} {r : List α}, (List.range n).mapM f = some r -> r.length = n /\ ∀ (i : Nat) (x : α), r[i]? = some x -> f i = some x := by
 have key : ∀ (l : List Nat) (r : List α), l.mapM f = some r -> r.length = l.length /\ ∀ (i : Nat) (x : α), r[i]? = some x -> ∃ j, l[i]? = some j /\ f j = some x := by
  intro l
  induction l with
  | nil => intro r h; simp at h; subst h; exact ⟨rfl, by simp⟩
  | cons a l ih =>
   intro r h;rw [List.mapM_cons] at h;simp only [bind, Option.bind_eq_some_iff, pure, Option.some.injEq] at h;obtain ⟨y, hy, ys, hys, rfl⟩ := h;obtain ⟨h1, h2⟩ := ih ys hys;refine ⟨by simp [h1], fun i x hx => ?_⟩;cases i with
   | zero => simp only [List.getElem?_cons_zero, Option.some.injEq] at hx; subst hx; exact ⟨a, rfl, hy⟩
   | succ i => obtain ⟨j, h3, h4⟩ := h2 i x (by simpa using hx); exact ⟨j, by simpa using h3, h4⟩
 intro n r h;obtain ⟨h1, h2⟩ := key _ _ h;rw [List.length_range] at h1;refine ⟨h1, fun i x hx => ?_⟩;obtain ⟨j, h3, h4⟩ := h2 i x hx;have hi : i < n := by
  rw [<- h1];exact (List.getElem?_eq_some_iff.1 hx).1
 rw [List.getElem?_range hi] at h3;cases h3;exact h4
theorem Ytb {w : World} {a : Addr} {n : Nat} {cs : List Value} (h : w.cells? 0 a n = some cs) : cs.length = n /\ ∀ i u, cs[i]? = some u -> w.cell? (a.add i) = some u := by
 unfold World.cells? at h;rw [if_pos (Nat.zero_le _)] at h;exact Yxi h
theorem Yx0 {w : World} {a : Addr} {u : Value} (h : w.cell? a = some u) : a.spot = none /\ a.block < w.heap.size := by
 unfold World.cell? at h
 split at h
 ·rename_i c e1 e2 hb;refine ⟨?_, ?_⟩
  ·split at h
   ·cases h
   ·rename_i hs; cases hsp : a.spot <;> simp_all
  ·rcases Nat.lt_or_ge a.block w.heap.size with hlt | hge
   ·exact hlt
   ·simp [Array.getElem?_eq_none hge] at hb
 ·cases h
section
variable {H : Type} {enc : TypeId × Value -> H} {P : Program}
def Yqs (enc : TypeId × Value -> H) (P : Program) (w : World) (rec : TypeId -> Option (List Ty)) (fuel : Nat) : Prop :=
 ∀ (t : TypeId) (ts : List Ty) (cs : List Value) (x : DataW H × List MemPlace), rec t = some ts -> DataW.trod enc P w 0 (fun _ => true) true fuel t cs = some x -> ∃ ds, @RdL (atW w) ts cs ds
theorem Yv5 {w : World} {rec : TypeId -> Option (List Ty)} {fuel : Nat} (hrec : Yqs enc P w rec fuel) (hc : ∀ t ts, rec t = some ts -> P.cellsOf t = ts.length) (cs : List Value) :
  ∀ (fs : List Field) (off : Nat) (ts : List Ty), Yz9 rec off fs = some ts -> (∀ f ∈ fs, ∃ x, DataW.trod enc P w 0 (fun _ => true) true fuel f.type ((cs.drop f.offset).take (P.cellsOf f.type)) = some x) ->
   ∃ ds, @RdL (atW w) ts ((cs.drop off).take ts.length) ds
 | [], off, ts, h, _ => by
  simp only [Yz9, Option.some.injEq] at h;subst h;exact ⟨[], by simpa using @RdL.nil (atW w)⟩
 | f :: fs, off, ts, h, hm => by
  unfold Yz9 at h
  split at h
  ·cases h
  ·rename_i t1 h1
   split at h
   ·rename_i hoff;rw [Option.map_eq_some_iff] at h;obtain ⟨t2, h2, rfl⟩ := h;obtain ⟨y, hy⟩ := hm f List.mem_cons_self;obtain ⟨d1, k1⟩ := hrec _ _ _ _ h1 hy;obtain ⟨d2, k2⟩ := Yv5 hrec hc cs fs _ _ h2 fun f hf => hm f (List.mem_cons_of_mem _ hf);rw [hoff, hc _ _ h1] at k1;refine ⟨d1 ++ d2, ?_⟩;have := RdL.append (W := atW w) k1 k2;have e : (cs.drop off).take (t1 ++ t2).length = (cs.drop off).take t1.length ++ (cs.drop (off + t1.length)).take t2.length := by
     rw [List.length_append, List.take_add, List.drop_drop]
    rw [e];exact this
   ·cases h
theorem Ytd {w : World} {rec : TypeId -> Option (List Ty)} {fuel : Nat} (hrec : Yqs enc P w rec fuel) {e : TypeId} {ts : List Ty} (he : rec e = some ts) (hc : P.cellsOf e = ts.length) (cs : List Value) :
  ∀ (n m : Nat), (∀ i, m <= i -> i < m + n -> ∃ x, DataW.trod enc P w 0 (fun _ => true) true fuel e ((cs.drop (i * P.cellsOf e)).take (P.cellsOf e)) = some x) ->
   ∃ ds, @RdL (atW w) (fitN n ts) ((cs.drop (m * ts.length)).take (n * ts.length)) ds
 | 0, m, _ => ⟨[], by simpa [fitN] using @RdL.nil (atW w)⟩
 | n + 1, m, h => by
  obtain ⟨x, hx⟩ := h m (Nat.le_refl _) (by omega);obtain ⟨d1, k1⟩ := hrec _ _ _ _ he hx;obtain ⟨d2, k2⟩ := Ytd hrec he hc cs n (m + 1) fun i h1 h2 => h i (by omega) (by omega);rw [hc] at k1;refine ⟨d1 ++ d2, ?_⟩;have := RdL.append (W := atW w) k1 k2;have e1 : (cs.drop (m * ts.length)).take ((n + 1) * ts.length) = (cs.drop (m * ts.length)).take ts.length ++ (cs.drop ((m + 1) * ts.length)).take (n * ts.length) := by
   rw [Nat.add_mul, Nat.one_mul, Nat.add_comm (n * ts.length), List.take_add, List.drop_drop, Nat.add_mul, Nat.one_mul]
  rw [e1];exact this
theorem Y1s {w : World} {rec : TypeId -> Option (List Ty)} {fuel : Nat} (hrec : Yqs enc P w rec fuel) {e : TypeId} {ts : List Ty} (hts : ts ≠ []) (he : rec e = some ts) (hc : P.cellsOf e = ts.length) {a : Addr} {len cap : Nat} (hlc : len <= cap) (hcm : cap <= maxLen) {els : List (DataW H × List MemPlace)}
  (hel : els.length = len) (h : ∀ i, i < len -> (w.cells? 0 (a.add (i * P.cellsOf e)) (P.cellsOf e)).bind (DataW.trod enc P w 0 (fun _ => true) true fuel e) = els[i]?) : ∃ ds, @RdL (atW w) [.sl ts] [.slice (some a) len cap] ds := by
 have hpos : 0 < ts.length := List.length_pos_iff.2 hts;have hget : ∀ i, i < len -> ∃ cs ds, w.cells? 0 (a.add (i * ts.length)) ts.length = some cs /\ @RdL (atW w) ts cs ds := fun i hi => by
  have hx : els[i]? = some els[i] := List.getElem?_eq_getElem (by omega);have := (h i hi).trans hx;rw [Option.bind_eq_some_iff] at this;obtain ⟨cs, k1, k2⟩ := this;obtain ⟨ds, k3⟩ := hrec _ _ _ _ he k2;rw [hc] at k1;exact ⟨cs, ds, k1, k3⟩
 have hall : ∃ xs : Dt, xs.length = len /\ ∃ us : List (List Value), us.length = len /\ ∀ i cs ds, us[i]? = some cs -> xs[i]? = some ds -> w.cells? 0 (a.add (i * ts.length)) ts.length = some cs /\ @RdL (atW w) ts cs ds := by
  clear h hel
  induction len with
  | zero => exact ⟨[], rfl, [], rfl, by simp⟩
  | succ n ih =>
   obtain ⟨xs, h1, us, h2, h3⟩ := ih (by omega) fun i hi => hget i (by omega);obtain ⟨cs, ds, k1, k2⟩ := hget n (by omega);refine ⟨xs ++ [ds], by simp [h1], us ++ [cs], by simp [h2], fun i c d hc' hd' => ?_⟩
   by_cases hi : i < n
   ·rw [List.getElem?_append_left (by omega)] at hc' hd';exact h3 i c d hc' hd'
   ·have hn : i = n := by
     have := (List.getElem?_eq_some_iff.1 hd').1;simp [h1] at this;omega
    subst hn;simp [List.getElem?_append, h1] at hd';simp [List.getElem?_append, h2] at hc';subst hd'; subst hc';exact ⟨k1, k2⟩
 obtain ⟨xs, hxl, us, hul, hx⟩ := hall;have hrow : ∀ i, i < len -> ∃ cs ds, us[i]? = some cs /\ xs[i]? = some ds /\ w.cells? 0 (a.add (i * ts.length)) ts.length = some cs /\ @RdL (atW w) ts cs ds := fun i hi => by
  have e1 : us[i]? = some us[i] := List.getElem?_eq_getElem (by omega);have e2 : xs[i]? = some xs[i] := List.getElem?_eq_getElem (by omega);exact ⟨_, _, e1, e2, hx i _ _ e1 e2⟩
 have hat : ∀ i k, i < len -> k < ts.length -> a.spot = none /\ a.block < w.heap.size /\ w.cell? ⟨a.block, a.off + i * ts.length + k, none⟩ = some ((us.getD i []).getD k undef) := fun i k hi hk => by
  have first : a.spot = none /\ a.block < w.heap.size := by
   obtain ⟨cs, ds, e1, e2, k1, k2⟩ := hrow 0 (by omega);obtain ⟨k3, k4⟩ := Ytb k1;have := k4 0 cs[0] (List.getElem?_eq_getElem (by omega));simp only [Nat.zero_mul, Addr.add, if_true] at this;exact Yx0 this
  obtain ⟨cs, ds, e1, e2, k1, k2⟩ := hrow i hi;obtain ⟨k3, k4⟩ := Ytb k1;have h5 := k4 k cs[k] (List.getElem?_eq_getElem (by omega));refine ⟨first.1, first.2, ?_⟩;have ea : (a.add (i * ts.length)).add k = ⟨a.block, a.off + i * ts.length + k, none⟩ := by
   obtain ⟨b, o, s⟩ := a;have : s = none := first.1
   subst this
   by_cases h0 : i * ts.length = 0 <;> by_cases h1 : k = 0 <;> simp [Addr.add, h0, h1]
  rw [ea] at h5;rw [h5];simp [List.getD_eq_getElem?_getD, e1, List.getElem?_eq_getElem (show k < cs.length by omega)]
 have hcell : ∀ i k t, i < len -> ts[k]? = some t -> @RdV (atW w) t ((us.getD i []).getD k undef) (cel xs i k) /\ Ymu t (cel xs i k) /\ WfC t (cel xs i k) := fun i k t hi ht => by
  obtain ⟨cs, ds, e1, e2, k1, k2⟩ := hrow i hi;obtain ⟨l1, l2⟩ := RdL.len (W := atW w) k2;have hk : k < ts.length := (List.getElem?_eq_some_iff.1 ht).1;have := RdL.at (W := atW w) k2 k t cs[k] ds[k] ht (List.getElem?_eq_getElem (by omega)) (List.getElem?_eq_getElem (by omega));simpa [cel, List.getD_eq_getElem?_getD, e1, e2, List.getElem?_eq_getElem (show k < cs.length by omega), List.getElem?_eq_getElem (show k < ds.length by omega)] using this
 refine ⟨[.l xs], @RdL.cons (atW w) _ _ _ _ _ _ ?_ ⟨_, rfl⟩ (.sl ts xs (by omega) (fun row hr => ?_) fun i k t hi ht => (hcell i k t (by omega) ht).2.2) (@RdL.nil (atW w))⟩
 ·have := @RdV.sl (atW w) ts (some a) cap (.l xs) (fun i k => (us.getD i []).getD k undef) (by show xs.length <= cap; omega) (by show xs.length <= maxLen; omega) (fun hne => ?_) (fun i k t hi ht => (hcell i k t (by rw [<- hxl]; exact hi) ht).1)
  ·rw [show (Cl.l xs).lst.length = len from hxl] at this;exact this
  ·have h0 : 0 < len := by rw [<- hxl]; exact List.length_pos_iff.2 hne
   obtain ⟨f1, f2, _⟩ := hat 0 0 h0 hpos;refine ⟨a.block, a.off, by obtain ⟨b, o, s⟩ := a; have : s = none := f1; subst this; rfl, f2, fun i k hi hk => (hat i k (by rw [<- hxl]; exact hi) hk).2.2⟩
 ·obtain ⟨i, hi, rfl⟩ := List.getElem_of_mem hr;obtain ⟨cs, ds, e1, e2, k1, k2⟩ := hrow i (by omega);rw [List.getElem?_eq_getElem hi] at e2;cases e2;exact (RdL.len (W := atW w) k2).2
theorem Yh4 {w : World} {t : Ty} {u : Value} {c : Cl} (h : @RdV (atW w) t u c) (hz : Ymu t c) (hw : WfC t c) : ∃ ds, @RdL (atW w) [t] [u] ds := ⟨[c], @RdL.cons (atW w) _ _ _ _ _ _ h hz hw (@RdL.nil (atW w))⟩
theorem Yf9 (w : World) : ∀ (d fuel : Nat), Yqs enc P w (Yno P d) fuel
 | 0, _ => fun t ts cs x h _ => by cases h
 | d + 1, fuel => fun t ts cs x hf h => by
  have hcs := Yd5 hf;unfold Yno at hf
  split at hf
  ·rename_i ts' h0
   split at hf
   ·cases hf;unfold fit0 at h0
    split at h0
    ·rename_i hu;cases h0;obtain ⟨b, rfl, _⟩ := DataW.trod_bool hu h;exact Yh4 (@RdV.bool (atW w) (.b b)) ⟨_, rfl⟩ (.bool b)
    ·rename_i k hu;cases h0;obtain ⟨n, rfl, _, hw⟩ := DataW.trod_int hu h;exact Yh4 (@RdV.int (atW w) k (.i n)) ⟨_, rfl⟩ (.int k n hw)
    ·rename_i hu;cases h0;obtain ⟨s, rfl, _, hw⟩ := DataW.trod_string hu h;exact Yh4 (@RdV.str (atW w) (.s s)) ⟨_, rfl⟩ (.str s hw)
    ·rename_i e hu
     split at h0
     ·rename_i t0 ts0 he;cases h0;rcases DataW.trod_slice hu h with ⟨rfl, _⟩ | ⟨a, len, cap, elems, rest, n, rfl, rfl, _, _, h1, h2, h3, h4, _⟩
      ·exact Yh4 (@RdV.nil (atW w) (t0 :: ts0) (.l []) rfl) ⟨_, rfl⟩ (.sl _ _ (Nat.zero_le _) (by simp) (by simp))
      ·exact Y1s (Yf9 w d n) (by simp) he (Yd5 he) h1 h2 h3 h4
     ·cases h0
    ·rename_i fs hu;obtain ⟨xs, n, rfl, _, hl, hxl, h1⟩ := DataW.trod_struct hu h;obtain ⟨ds, k⟩ := Yv5 (Yf9 w d n) (fun t ts => Yd5) cs fs.toList 0 _ h0 fun f hf => by
      obtain ⟨i, hi, rfl⟩ := List.getElem_of_mem hf;have := h1 i fs[i] (by simp [Array.getElem?_eq_getElem (show i < fs.size by simpa using hi)]);exact ⟨xs[i]'(by rw [hxl]; simpa using hi), by simpa [List.getElem?_eq_getElem (show i < xs.length by rw [hxl]; simpa using hi)] using this⟩
     refine ⟨ds, ?_⟩;rw [List.drop_zero, List.take_of_length_le (by omega)] at k;exact k
    ·rename_i n e hu;rw [Option.map_eq_some_iff] at h0;obtain ⟨ts0, he, rfl⟩ := h0;obtain ⟨xs, m, rfl, _, hl, hxl, h1⟩ := DataW.trod_array hu h;obtain ⟨ds, k⟩ := Ytd (Yf9 w d m) he (Yd5 he) cs n 0 fun i _ hi => by
      have := h1 i (by omega);exact ⟨xs[i]'(by omega), by rw [this, List.getElem?_eq_getElem]⟩
     refine ⟨ds, ?_⟩;have hlen : ∀ n, (fitN n ts0).length = n * ts0.length := fun n => by
      induction n with
      | zero => simp [fitN]
      | succ n ih => simp [fitN, ih, Nat.add_mul, Nat.add_comm]
     rw [Nat.zero_mul, List.drop_zero, List.take_of_length_le (by rw [<- hlen]; omega)] at k;exact k
    ·cases h0
   ·cases hf
  ·cases hf
def atOf (P : Program) (t : TypeId) : Option AT :=
 match P.underlying t with
 | some (.struct _) => (Yno P 9 t).map .agg
 | some (.array _ _) => (Yno P 9 t).map .agg
 | _ => (match Yno P 9 t with | some [ty] => some (.one ty) | _ => none)
def Y25 (P : Program) : List TypeId -> Option (List AT)
 | [] => some []
 | t :: ts => match atOf P t with
  | none => none
  | some a => (Y25 P ts).map (a :: ·)
theorem Y08 {w : World} {base : Nat} {t : TypeId} {v : Value} {d : DataW H} {ps : List MemPlace} {a : AT} (ha : atOf P t = some a) (hv : Value.okWide P w .any base t v) (h : DataW.Trod enc P w 0 (fun _ => true) true t v d ps) :
  ∃ dd, @ArgRd (atW w) a v dd /\ WfA a dd := by
 obtain ⟨fuel, h⟩ := h;have wide : ∀ (tys : List Ty), Yno P 9 t = some tys -> (∃ cs, v = .agg cs) -> ∃ dd, @ArgRd (atW w) (.agg tys) v dd /\ WfA (.agg tys) dd := fun tys hf ⟨cs, e⟩ => by
  subst e;obtain ⟨ds, k⟩ := Yf9 w 9 fuel t tys _ _ hf h;obtain ⟨l1, l2⟩ := RdL.len (W := atW w) k;refine ⟨ds, ⟨cs.toList, by simp, by simpa [Value.cells] using l1, l2, fun i t u c h1 h2 h3 => ?_⟩, RdL.wf (W := atW w) k⟩;have := RdL.at (W := atW w) k i t u c h1 (by simpa [Value.cells] using h2) h3;exact ⟨this.1, this.2.1⟩
 unfold atOf at ha;unfold Value.okWide at hv
 split at ha
 ·rename_i fs hu;rw [hu] at hv;rw [Option.map_eq_some_iff] at ha;obtain ⟨tys, hf, rfl⟩ := ha;obtain ⟨cs, e, _⟩ := hv;exact wide tys hf ⟨cs, e⟩
 ·rename_i n e hu;rw [hu] at hv;rw [Option.map_eq_some_iff] at ha;obtain ⟨tys, hf, rfl⟩ := ha;obtain ⟨cs, e, _⟩ := hv;exact wide tys hf ⟨cs, e⟩
 ·rename_i hn1 hn2
  split at ha
  ·rename_i ty hf;cases ha;obtain ⟨ds, k⟩ := Yf9 w 9 fuel t [ty] _ _ hf h;obtain ⟨l1, l2⟩ := RdL.len (W := atW w) k;have hone : v.cells = #[v] := by
    cases v <;> first | rfl | skip
    exfalso;rename_i cs;have hv2 : Cell.okWide P w .any base t (.agg cs) := by
     split at hv
     ·rename_i fs hu; exact (hn1 fs hu).elim
     ·rename_i n e hu; exact (hn2 n e hu).elim
     ·exact hv
    have hc := Yd5 hf;unfold Yno at hf
    split at hf
    ·rename_i ts' h0;unfold fit0 at h0;cases hu : P.underlying t with
     | none => rw [hu] at h0; cases h0
     | some td => cases td <;> simp only [hu] at h0 <;> first | (cases h0; done) | (exact (hn1 _ hu).elim) | (exact (hn2 _ _ hu).elim) | (unfold Cell.okWide at hv2; rw [hu] at hv2; simp [Cell.ok, hu] at hv2; done)
    ·cases hf
   rw [hone] at k;cases k with
   | cons a b c hs =>
    cases hs;exact ⟨_, ⟨_, rfl, a, b⟩, .cons c .nil⟩
  ·cases ha
theorem Ypd {w : World} {base : Nat} : ∀ {ts : List TypeId} {vs : List Value} {ds : List (DataW H)} {ps : List MemPlace} {ats : List AT}, Y25 P ts = some ats -> (∀ (j : Nat) t v, ts[j]? = some t -> vs[j]? = some v -> Value.okWide P w .any base t v) -> DataW.TrodAll enc P w 0 (fun _ => true) true ts vs ds ps ->
  ∃ dd, @Ywi (atW w) ats vs dd /\ WfD ats dd
 | [], [], [], _, ats, ha, _, _ => by cases ha; exact ⟨[], ⟨rfl, rfl⟩, rfl⟩
 | t :: ts, v :: vs, d :: ds, ps, ats, ha, hv, ⟨p, q, h1, h2, e⟩ => by
  unfold Y25 at ha
  split at ha
  ·cases ha
  ·rename_i a hat;rw [Option.map_eq_some_iff] at ha;obtain ⟨ats', ha', rfl⟩ := ha;obtain ⟨d1, k1, k2⟩ := Y08 hat (hv 0 t v rfl rfl) h1;obtain ⟨d2, k3, k4⟩ := Ypd ha' (fun j t v h1 h2 => hv (j + 1) t v (by simpa using h1) (by simpa using h2)) h2;exact ⟨d1 :: d2, ⟨v, vs, d1, d2, rfl, rfl, k1, k3⟩, ⟨d1, d2, rfl, k2, k4⟩⟩
theorem Yq5 {W W' : World} (hl : laidOutB P = true) (hb : Below W.heap.size W W') : ∀ {ts : List TypeId} {vs : List Value} {ds : List (DataW H)} {ps : List MemPlace}, (ts.all fun t => P.readableRec t && decide (t < P.types.size)) = true -> DataW.TrodAll enc P W 0 (fun _ => true) true ts vs ds ps ->
  DataW.TrodAll enc P W' 0 (fun b => decide (b < W.heap.size)) true ts vs ds ps
 | [], [], [], _, _, h => h
 | t :: ts, v :: vs, d :: ds, ps, hr, h => by
  have hlt := DataW.TrodAll.lt h;obtain ⟨p, q, h1, h2, e⟩ := h;simp only [List.all_cons, Bool.and_eq_true, decide_eq_true_eq] at hr;subst e;exact ⟨p, q, Below.trod hl hr.1.1 hr.1.2 h1 hb fun x hx => hlt x (List.mem_append_left _ hx), Yq5 hl hb hr.2 h2, rfl⟩
theorem law_end {g : FuncId} {f : Func} {s : ChangeSpec} {W : World} {base : Nat} {args : Array Value} {ds gs : List (DataW H)} {before : List MemPlace} {tb : TypeId} {ats : List AT} (hrt : f.resultTypes = #[tb]) (hub : P.underlying tb = some .bool) (hats : Y25 P f.params.toList = some ats) (hs : s.vars = [])
  (hl : laidOutB P = true) (hr : (f.params.toList.all fun t => P.readableRec t && decide (t < P.types.size)) = true)
  (hfn : ∀ ds : List (DataW H), ds.length = f.params.toList.length -> (s.fn H ds).results = [.lit (.bool true)] /\ (s.fn H ds).args = ds /\ (s.fn H ds).vars = [])
  (h : PureOk P g ats [(false, [.bool])] (WfD ats) fun _ => [[.b true]])
  (hval : ∀ (j : Nat) t v, f.params[j]? = some t -> args[j]? = some v -> Value.okWide P W .any base t v) (hW : DataW.Whole enc P f.params.toList s.vars false W args.toList ds gs before) :
  Calls P g args W fun e W' => ∃ v, e = .returned v /\ s.post enc P f false true false false W args v W' := by
 have hW0 := hW;obtain ⟨p, q, hA, hV, rfl, hfz, _⟩ := hW;rw [hs] at hV;have hgq : gs = [] /\ q = [] := by
  cases gs with
  | nil => exact ⟨rfl, hV⟩
  | cons _ _ => exact hV.elim
 obtain ⟨rfl, rfl⟩ := hgq;obtain ⟨_, hlen⟩ := trodAll_length hA;obtain ⟨dd, k1, k2⟩ := Ypd hats (fun j t v h1 h2 => hval j t v (by simpa using h1) (by simpa using h2)) hA;obtain ⟨xs, x1, x2⟩ := @Ym2 (atW W) _ _ _ k1;have hc := h (atW W) xs dd x1 k2 0 (by decide);have hSt : @St (atW W) W [] [] W := @St.start (atW W) W (@InOk.mk (atW W) W [] (Nat.le_refl _) (by simp) (Below.refl _ _))
 letI : InW := atW W
 have hnew : NewFor (keys (Ydi 0 0 [(false, [.bool])] [[.b true]])) xs [] := fun i hi => by
  have e : keys (Ydi 0 0 [(false, [.bool])] [[.b true]]) = [] := rfl;rw [e] at hi; cases hi
 have hcall := hc (fun _ => ⟨0, false, 0, none, 0, undef, fun _ => False⟩) W [] [] W hnew hSt;rw [x2] at hcall;have e0 : args.toList.toArray = args := by simp
 rw [e0] at hcall;refine hcall.mono fun e W' ⟨φ', _, he, hS⟩ => ?_;have hb : Below W.heap.size W W' := @St.belowIn (atW W) _ _ _ _ hS;obtain ⟨hf1, hf2, hf3⟩ := hfn (ds ++ []) (by simpa using hlen);refine ⟨_, he, ds, [], p ++ [], [], p, [], hW0, ?_, ?_, ?_, ?_, fun h => by cases h⟩
 ·rw [hf1, hrt];exact ⟨[], [], ⟨1, by show DataW.trod enc P W' _ _ _ 1 tb [.bool true] = _; simp [DataW.trod, hub]⟩, rfl, rfl⟩
 ·rw [hf2, List.append_nil];exact Yq5 hl hb hr hA
 ·rw [hs, hf3]; rfl
 ·refine World.keptBut_mono (fun x hx => ⟨hx, .inr (.inl (by simpa using hx))⟩) (hb.frame _)
end
theorem Y1h {P : Program} {cc : CC} {pre : DS -> Prop} (h : ∀ W : InW, @CallC W P cc) (ha : cc.args = []) (hH : cc.H = []) (ho : cc.outs = [⟨false, .lit (.bool true), [], false⟩]) (hs : ∀ (W : InW) (e : List (@Ed W)) (K : Nat -> List (@Ed W) -> Prop), @CC.spec cc W e K = K 0 []) : PureOk P cc.g [] [(false, [.bool])] pre fun _ => [[.b true]] := by
 intro W args ds hargs _ d _;obtain ⟨rfl, rfl⟩ := hargs;obtain ⟨j, e, o, v, r, ys', k1, k2, k3, k4, k5⟩ := h W [] [] [] [] (by rw [ha]; exact ⟨rfl, rfl⟩) (by rw [hH]; exact ⟨rfl, rfl⟩) (fun j e => j = 0 /\ e = []) (by rw [hs]; exact ⟨rfl, rfl⟩);obtain ⟨rfl, rfl⟩ := k1;rw [ho] at k2;cases k2;cases k3;cases k4;intro φ w0 M R w _ hS;refine (k5 φ w0 M R w (by simp [keys]) hS).mono fun e w' ⟨φ2, f1, f2, _, f4⟩ => ⟨φ, Agree.refl _ _, f2, f4⟩
end Go.Proofs.Ytfbhampnigdaaaa
