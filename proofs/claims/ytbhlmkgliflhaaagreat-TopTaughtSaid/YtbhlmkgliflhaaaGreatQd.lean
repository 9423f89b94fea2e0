/-
  A machine over abstract states, proved sound: the help of the proof of a law.
-/
import Derived.Test.YtbhlmkgliflhaaaGreatQc
import Derived.Carry
import Derived.OpenShut
import Derived.ChangeCalls
import Derived.ProofKit
set_option linter.unusedVariables false
set_option linter.unusedSectionVars false
set_option linter.unusedSimpArgs false
namespace Go.Proofs.YtbhlmkgliflhaaaGreat
open Go.RowKit
variable [InW]
attribute [local irreducible] Go.Oper.wp
inductive PI where
 | blk (T : TypeId) (ps : List Pt)
 | arr (T : Nat) (ts : List Ty)
 | row (T sz n : Nat) (ps : List Pt)
 | obj (x : OI)
 | mpI
 | mpP
 | lp (L : LI) (ps : List Pt)
 | dead
 | nst (T : Nat) (ts : List Ty)
 | fro (ts : List Ty)
def PI.isDead : PI -> Bool
 | .dead => true
 | _ => false
def Y0e (p : PI) (it : It) (es : List Ed) : Prop :=
 match p with
 | .blk T ps => ∃ xs, it = .blk T xs /\ Yj0 ps xs es
 | .arr T ts => ∃ xs, it = .arr T ts xs /\ es = [.l xs]
 | .row T sz n ps => ∃ xs, it = .row T sz n xs /\ Yj0 ps xs es
 | .obj x => it = .obj x /\ es = []
 | .mpI => ∃ xs, it = .obj (.mpI xs) /\ es = [.m xs]
 | .mpP => ∃ xs, it = .obj (.mpP xs) /\ es = [.l xs]
 | .lp L ps => ∃ xs, it = .lp L xs /\ Yj0 ps xs es
 | .dead => it = .dead /\ es = []
 | .nst T ts => ∃ xs, it = .nst T ts xs /\ es = [.l xs]
 | .fro ts => ∃ xs, it = .fro ts xs /\ es = [.l xs]
def Yhi : List (Nat × PI) -> Heap -> List Ed -> Prop
 | [], h, es => h = [] /\ es = []
 | p :: ps, h, es => ∃ it h' e1 e2, h = (p.1, it) :: h' /\ es = e1 ++ e2 /\ Y0e p.2 it e1 /\ Yhi ps h' e2
def Yw6 (p : PI) (it : It) (B : Bd) (K : It -> Bd -> List Ed -> Prop) : Prop :=
 match p with
 | .blk T ps => (match it with | .blk T' xs => Yc (Nat.beq T' T) (Yd7 ps xs B fun ys B es => K (.blk T ys) B es) | _ => Stuck 450)
 | .arr T ts => (match it with | .arr T' ts' xs => Yc (Nat.beq T' T && Ych.sameTs ts' ts) (K (.arr T ts xs) B [.l xs]) | _ => Stuck 451)
 | .row T sz n ps => (match it with | .row T' sz' n' xs => Yc (Nat.beq T' T && Nat.beq sz' sz && Nat.beq n' n) (Yd7 ps xs B fun ys B es => K (.row T sz n ys) B es) | _ => Stuck 452)
 | .obj x => Yc (Ywa it (.obj x)) (K (.obj x) B [])
 | .mpI => (match it with | .obj (.mpI xs) => K (.obj (.mpI xs)) B [.m xs] | .obj (.mpV [] 0) => K (.obj (.mpI [])) B [.m []] | _ => Stuck 476)
 | .mpP => (match it with | .obj (.mpP xs) => K (.obj (.mpP xs)) B [.l xs] | .obj (.mpV [] 0) => K (.obj (.mpP [])) B [.l []] | _ => Stuck 476)
 | .lp L ps => (match it with | .lp L' xs => PreL L' L (Yd7 ps xs B fun ys B es => K (.lp L ys) B es) | _ => Stuck 477)
 | .dead => Stuck 479
 | .nst T ts => (match it with | .nst T' ts' xs => Yc (Nat.beq T' T && Yby 9 (.sl ts') (.sl ts)) (K (.nst T ts xs) B [.l xs]) | _ => Stuck 451)
 | .fro ts => (match it with | .fro ts' xs => Yc (Yby 9 (.sl ts') (.sl ts)) (K (.fro ts xs) B [.l xs]) | _ => Stuck 451)
def Y2y (B : Bd) (it : It) (i : Nat) (y : It) (pid : Nat) : Prop := ∀ B', ExtB B B' -> ∀ φ : Phi, y.conc (hB φ B') pid = it.conc φ i
theorem Ysn {p : PI} {it : It} {B : Bd} {K : It -> Bd -> List Ed -> Prop} (h : Yw6 p it B K) {pid i : Nat} (hl : Yfs B pid = some (.id i)) : ∃ y B' es, K y B' es /\ Y0e p y es /\ ExtB B B' /\ Y2y B' it i y pid := by
 unfold Yw6 at h
 split at h
 ·split at h
  ·obtain ⟨h1, h2⟩ := Ya h;obtain rfl := Yd.1 h1;obtain ⟨ys, B', es, h3, h4, h5, h6⟩ := Ybh _ _ _ _ h2;exact ⟨_, _, _, h3, ⟨_, rfl, h4⟩, h5, fun B2 hB2 φ => by simp only [It.conc, h6 B2 hB2 φ, Yck (hB2 _ _ (h5 _ _ hl)), hdOf]⟩
  ·exact h.elim
 ·split at h
  ·obtain ⟨h1, h2⟩ := Ya h;simp only [Bool.and_eq_true, Yd] at h1;obtain ⟨rfl, h12⟩ := h1;obtain ⟨e, _⟩ := Y8 h12;subst e;exact ⟨_, _, _, h2, ⟨_, rfl, rfl⟩, .refl _, fun B2 hB2 φ => by simp only [It.conc, Yck (hB2 _ _ hl), hdOf]⟩
  ·exact h.elim
 ·split at h
  ·obtain ⟨h1, h2⟩ := Ya h;simp only [Bool.and_eq_true, Yd] at h1;obtain ⟨⟨rfl, rfl⟩, rfl⟩ := h1;obtain ⟨ys, B', es, h3, h4, h5, h6⟩ := Ybh _ _ _ _ h2;exact ⟨_, _, _, h3, ⟨_, rfl, h4⟩, h5, fun B2 hB2 φ => by simp only [It.conc, h6 B2 hB2 φ, Yck (hB2 _ _ (h5 _ _ hl)), hdOf]⟩
  ·exact h.elim
 ·obtain ⟨h1, h2⟩ := Ya h;rw [Ym1 h1];exact ⟨_, _, _, h2, ⟨rfl, rfl⟩, .refl _, fun B2 hB2 φ => by simp only [It.conc, Yck (hB2 _ _ hl), hdOf]⟩
 ·split at h
  ·exact ⟨_, _, _, h, ⟨_, rfl, rfl⟩, .refl _, fun B2 hB2 φ => by simp only [It.conc, Yck (hB2 _ _ hl), hdOf]⟩
  ·exact ⟨_, _, _, h, ⟨_, rfl, rfl⟩, .refl _, fun B2 hB2 φ => by simp only [It.conc, Yck (hB2 _ _ hl), hdOf, OI.obj, entI]; rfl⟩
  ·exact h.elim
 ·split at h
  ·exact ⟨_, _, _, h, ⟨_, rfl, rfl⟩, .refl _, fun B2 hB2 φ => by simp only [It.conc, Yck (hB2 _ _ hl), hdOf]⟩
  ·exact ⟨_, _, _, h, ⟨_, rfl, rfl⟩, .refl _, fun B2 hB2 φ => by simp only [It.conc, Yck (hB2 _ _ hl), hdOf, OI.obj, entP]; rfl⟩
  ·exact h.elim
 ·split at h
  ·obtain ⟨rfl, h2⟩ := h;obtain ⟨ys, B', es, h3, h4, h5, h6⟩ := Ybh _ _ _ _ h2;exact ⟨_, _, _, h3, ⟨_, rfl, h4⟩, h5, fun B2 hB2 φ => by simp only [It.conc, h6 B2 hB2 φ, Yck (hB2 _ _ (h5 _ _ hl)), hdOf]⟩
  ·exact h.elim
 ·exact h.elim
 ·split at h
  ·obtain ⟨h1, h2⟩ := Ya h;simp only [Bool.and_eq_true, Yd] at h1;obtain ⟨rfl, h12⟩ := h1;have e := Ty.sl.inj (Ybb _ _ _ h12);subst e;exact ⟨_, _, _, h2, ⟨_, rfl, rfl⟩, .refl _, fun B2 hB2 φ => by simp only [It.conc, Yck (hB2 _ _ hl), hdOf]⟩
  ·exact h.elim
 ·split at h
  ·obtain ⟨h1, h2⟩ := Ya h;have e := Ty.sl.inj (Ybb _ _ _ h1);subst e;exact ⟨_, _, _, h2, ⟨_, rfl, rfl⟩, .refl _, fun B2 hB2 φ => by simp only [It.conc, Yck (hB2 _ _ hl), hdOf]⟩
  ·exact h.elim
def Yvt (ts : List Ty) (x : AV) (K : Dt -> Prop) : Prop :=
 match x with
 | .rs ts' r => Yc (Yby 9 (.sl ts') (.sl ts)) (K r.xs)
 | .v (.slice none 0 0) => K []
 | _ => Stuck 486
theorem Yrq {ts : List Ty} {x : AV} {K : Dt -> Prop} (h : Yvt ts x K) : ∃ xs, K xs /\ ∀ (φ : Phi) (w0 : World) (M : List Nat) (L : RL) (w : World), St w0 M L w -> St w0 M (Res.fro (x.conc φ) ts xs InW.F :: L) w := by
 have key : ∀ (v : Value) (xs : Dt), RdV (.sl ts) v (.l xs) -> ∀ (w0 : World) (M : List Nat) (L : RL) (w : World), St w0 M L w -> St w0 M (Res.fro v ts xs InW.F :: L) w := fun v xs hr w0 M L w hS =>
  hS.add (Ext.refl _) (Yqy (fun b hb => Nat.lt_of_lt_of_le (InW.lt b hb) (Nat.le_trans hS.inw.base hS.kept.size)) (RdV.nowF hS (fun b hb => hb) hr)) (by simp [Res.fro, Res.foot]) (fun b hb => .inr hb)
 unfold Yvt at h
 split at h
 ·rename_i ts' r;obtain ⟨h1, h2⟩ := Ya h;have e := Ty.sl.inj (Ybb _ _ _ h1);subst e;exact ⟨_, h2, fun φ => key _ _ r.2⟩
 ·exact ⟨_, h, fun φ => key _ _ (RdV.nil rfl)⟩
 ·exact h.elim
def Yde : List (Nat × PI) -> Bd -> Heap -> (Heap -> Bd -> Heap -> List Ed -> Prop) -> Prop
 | [], B, hp, K => K [] B hp []
 | (pid, p) :: ps, B, hp, K => match p.isDead with
  | true => Yde ps B hp fun ys B hp e2 => K ((pid, .dead) :: ys) B hp e2
  | false => match Yfs B pid with
  | some (.id i) => Y4 hp i fun it => delK hp i fun hp => Yw6 p it B fun y B e1 => Yde ps B hp fun ys B hp e2 => K ((pid, y) :: ys) B hp (e1 ++ e2)
  | some (.conv i n) => (match p with
   | .arr T ts => Y4 hp i fun it => delK hp i fun hp => (match it with
    | .row T' sz n' cs => Yc (Nat.beq T' T && Nat.beq sz ts.length && Nat.beq n' n) (Yr6 ts n cs fun xs => Yde ps B hp fun ys B hp e2 => K ((pid, .arr T ts xs) :: ys) B hp (.l xs :: e2))
    | _ => Stuck 453)
   | _ => Stuck 454)
  | some .nil => (match p with
   | .arr T ts => Yde ps B hp fun ys B hp e2 => K ((pid, .arr T ts []) :: ys) B hp (.l [] :: e2)
   | .nst T ts => Yde ps B hp fun ys B hp e2 => K ((pid, .nst T ts []) :: ys) B hp (.l [] :: e2)
   | _ => Stuck 455)
  | some (.val x) => (match p with
   | .fro ts => Yvt ts x fun xs => Yde ps B hp fun ys B hp e2 => K ((pid, .fro ts xs) :: ys) B hp (.l xs :: e2)
   | _ => Stuck 456)
  | _ => Stuck 456
theorem Ybz : ∀ (ps : List (Nat × PI)) (B : Bd) (hp : Heap) (K : Heap -> Bd -> Heap -> List Ed -> Prop), Yde ps B hp K -> ∃ ys B' rest es, K ys B' rest es /\ Yhi ps ys es /\ ExtB B B' /\ rest.Sublist hp /\
  ∀ B2, ExtB B' B2 -> ∀ φ : Phi, (∀ (w0 : World) (M : List Nat) (A R : RL) (w : World), St w0 M (A ++ (Yb φ hp ++ R)) w -> St w0 M (A ++ (Yb (hB φ B2) ys ++ (Yb φ rest ++ R))) w) /\
   ∃ D, (Yb (hB φ B2) ys ++ Yb φ rest).Perm (D ++ Yb φ hp)
 | [], B, hp, K, h => ⟨[], B, hp, [], h, ⟨rfl, rfl⟩, .refl _, List.Sublist.refl _, fun B2 _ φ => ⟨fun w0 M A R w hS => by simpa [Yb] using hS, [], by simp [Yb]⟩⟩
 | (pid, p) :: ps, B, hp, K, h => by
  unfold Yde at h
  split at h
  ·rename_i hd;have e : p = .dead := by cases p <;> first | rfl | cases hd
   subst e;obtain ⟨ys, B2, rest, es, k1, k2, k3, k3s, k4⟩ := Ybz ps _ _ _ h;refine ⟨_, _, _, _, k1, ⟨_, _, [], es, rfl, rfl, ⟨rfl, rfl⟩, k2⟩, k3, k3s, fun B3 hB3 φ => ⟨fun w0 M A R w hS => ?_, ?_⟩⟩
   ·have h1 := (k4 B3 hB3 φ).1 w0 M _ R w hS;have h2 := h1.add (Ext.refl _) (r := .row (.slice none 0 0) 0 0 0 []) ⟨by simp, .inl ⟨rfl, rfl⟩⟩ (by simp [Res.foot, Value.ownBlock]);have e : Yb (hB φ B3) ((pid, .dead) :: ys) = Res.row (.slice none 0 0) 0 0 0 [] :: Yb (hB φ B3) ys := rfl;rw [e];exact h2.perm (by simpa using List.perm_middle.symm)
   ·obtain ⟨D, hD⟩ := (k4 B3 hB3 φ).2;exact ⟨It.dead.conc (hB φ B3) pid :: D, by simpa [Yb] using hD.cons (It.dead.conc (hB φ B3) pid)⟩
  rename_i hnd;clear hnd
  split at h
  ·rename_i i hl;obtain ⟨it, h1, h2⟩ := Yg h;obtain ⟨hp1, h3, h4, h4s⟩ := Yi8 h2 h1;obtain ⟨y, B1, e1, h5, h6, h7, h8⟩ := Ysn h3 hl;obtain ⟨ys, B2, rest, es, k1, k2, k3, k3s, k4⟩ := Ybz ps _ _ _ h5;refine ⟨_, _, _, _, k1, ⟨_, _, _, _, rfl, rfl, h6, k2⟩, h7.trans k3, k3s.trans h4s, fun B3 hB3 φ => ?_⟩;have e : Yb (hB φ B3) ((pid, y) :: ys) = it.conc φ i :: Yb (hB φ B3) ys := by
    simp only [Yb, List.map_cons, h8 B3 (k3.trans hB3) φ]
   refine ⟨fun w0 M A R w hS => ?_, ?_⟩
   ·have h9 : St w0 M ((A ++ [it.conc φ i]) ++ (Yb φ hp1 ++ R)) w := hS.perm (by
     rw [List.append_assoc];exact ((Yq h4).append_right R).append_left A)
    have := (k4 B3 hB3 φ).1 w0 M _ R w h9;rw [e];simpa using this
   ·obtain ⟨D, hD⟩ := (k4 B3 hB3 φ).2;refine ⟨D, ?_⟩;rw [e, List.cons_append];refine (hD.cons _).trans ?_;refine List.perm_middle.symm.trans ?_;exact (Yq h4).symm.append_left D
  ·rename_i i n hl
   split at h
   ·obtain ⟨it, h1, h2⟩ := Yg h;obtain ⟨hp1, h3, h4, h4s⟩ := Yi8 h2 h1
    split at h3
    ·rename_i T ts _ T' sz n' cs;obtain ⟨h5, h6⟩ := Ya h3;simp only [Bool.and_eq_true, Yd] at h5;obtain ⟨⟨rfl, rfl⟩, rfl⟩ := h5;obtain ⟨xs, h7, h8, h9, _⟩ := Ydi h6;obtain ⟨ys, B2, rest, es, k1, k2, k3, k3s, k4⟩ := Ybz ps _ _ _ h7;refine ⟨_, _, _, _, k1, ⟨_, _, [.l xs], es, rfl, rfl, ⟨_, rfl, rfl⟩, k2⟩, k3, k3s.trans h4s, fun B3 hB3 φ => ?_⟩;have e : Yb (hB φ B3) ((pid, .arr T' ts xs) :: ys) = (It.row T' ts.length n' cs).conc φ i :: Yb (hB φ B3) ys := by
      simp only [Yb, List.map_cons, It.conc, Yck (hB3 _ _ (k3 _ _ hl)), hdOf, h9 φ]
     refine ⟨fun w0 M A R w hS => ?_, ?_⟩
     ·have h9' : St w0 M ((A ++ [(It.row T' ts.length n' cs).conc φ i]) ++ (Yb φ hp1 ++ R)) w := hS.perm (by
       rw [List.append_assoc];exact ((Yq h4).append_right R).append_left A)
      have := (k4 B3 hB3 φ).1 w0 M _ R w h9';rw [e];simpa using this
     ·obtain ⟨D, hD⟩ := (k4 B3 hB3 φ).2;refine ⟨D, ?_⟩;rw [e, List.cons_append];refine (hD.cons _).trans ?_;refine List.perm_middle.symm.trans ?_;exact (Yq h4).symm.append_left D
    ·exact h3.elim
   ·exact h.elim
  ·rename_i hl
   split at h
   ·rename_i T ts;obtain ⟨ys, B2, rest, es, k1, k2, k3, k3s, k4⟩ := Ybz ps _ _ _ h;refine ⟨_, _, _, _, k1, ⟨_, _, [.l []], es, rfl, rfl, ⟨_, rfl, rfl⟩, k2⟩, k3, k3s, fun B3 hB3 φ => ⟨fun w0 M A R w hS => ?_, ?_⟩⟩
    ·have h1 := (k4 B3 hB3 φ).1 w0 M _ R w hS;have h2 := h1.add (Ext.refl _) (r := .row (.slice none 0 0) T ts.length 0 []) ⟨by simp, .inl ⟨rfl, rfl⟩⟩ (by simp [Res.foot, Value.ownBlock]);have e : Yb (hB φ B3) ((pid, .arr T ts []) :: ys) = Res.row (.slice none 0 0) T ts.length 0 [] :: Yb (hB φ B3) ys := by
      simp only [Yb, List.map_cons, It.conc, Yck (hB3 _ _ (k3 _ _ hl)), hdOf, Yt]; rfl
     rw [e];exact h2.perm (by rw [List.cons_append]; exact List.perm_middle.symm)
    ·obtain ⟨D, hD⟩ := (k4 B3 hB3 φ).2;exact ⟨(It.arr T ts []).conc (hB φ B3) pid :: D, by simpa [Yb] using hD.cons ((It.arr T ts []).conc (hB φ B3) pid)⟩
   ·rename_i T ts;obtain ⟨ys, B2, rest, es, k1, k2, k3, k3s, k4⟩ := Ybz ps _ _ _ h;refine ⟨_, _, _, _, k1, ⟨_, _, [.l []], es, rfl, rfl, ⟨_, rfl, rfl⟩, k2⟩, k3, k3s, fun B3 hB3 φ => ⟨fun w0 M A R w hS => ?_, ?_⟩⟩
    ·have h1 := (k4 B3 hB3 φ).1 w0 M _ R w hS;have h2 := h1.add (Ext.refl _) (r := Res.nst (.slice none 0 0) T ts 0 [] fun _ => False) (Yk7 (fun b hb => hb.elim) (fun b hb hz => hz) ⟨rfl, [], ⟨by simp, .inl ⟨rfl, rfl⟩⟩, fun i k t hi => by simp at hi⟩) (by simp [Res.nst, Res.foot, Value.ownBlock]) (fun b hb => hb.elim);have e : Yb (hB φ B3) ((pid, .nst T ts []) :: ys) = Res.nst (.slice none 0 0) T ts 0 [] (fun _ => False) :: Yb (hB φ B3) ys := by
      simp only [Yb, List.map_cons, It.conc, Yck (hB3 _ _ (k3 _ _ hl)), hdOf]; rfl
     rw [e];exact h2.perm (by rw [List.cons_append]; exact List.perm_middle.symm)
    ·obtain ⟨D, hD⟩ := (k4 B3 hB3 φ).2;exact ⟨(It.nst T ts []).conc (hB φ B3) pid :: D, by simpa [Yb] using hD.cons ((It.nst T ts []).conc (hB φ B3) pid)⟩
   ·exact h.elim
  ·rename_i x hl
   split at h
   ·rename_i ts;obtain ⟨xs, h, hv⟩ := Yrq h;obtain ⟨ys, B2, rest, es, k1, k2, k3, k3s, k4⟩ := Ybz ps _ _ _ h;refine ⟨_, _, _, _, k1, ⟨_, _, [.l xs], es, rfl, rfl, ⟨_, rfl, rfl⟩, k2⟩, k3, k3s, fun B3 hB3 φ => ⟨fun w0 M A R w hS => ?_, ?_⟩⟩
    ·have h1 := (k4 B3 hB3 φ).1 w0 M _ R w hS;have h2 := hv φ _ _ _ _ h1;have e : Yb (hB φ B3) ((pid, .fro ts xs) :: ys) = Res.fro (x.conc φ) ts xs InW.F :: Yb (hB φ B3) ys := by
      simp only [Yb, List.map_cons, It.conc, Yck (hB3 _ _ (k3 _ _ hl)), hdOf]
     rw [e];exact h2.perm (by rw [List.cons_append]; exact List.perm_middle.symm)
    ·obtain ⟨D, hD⟩ := (k4 B3 hB3 φ).2;exact ⟨(It.fro ts xs).conc (hB φ B3) pid :: D, by simpa [Yb] using hD.cons ((It.fro ts xs).conc (hB φ B3) pid)⟩
   ·exact h.elim
  ·exact h.elim
theorem Yex : ∀ (ps : List (Nat × PI)) (B : Bd) (hp : Heap) (K : Heap -> Bd -> Heap -> List Ed -> Prop), Yde ps B hp K -> ∃ ys B' rest es, K ys B' rest es /\ Yhi ps ys es /\ ExtB B B' /\ rest.Sublist hp /\
  ∀ B2, ExtB B' B2 -> ∀ (φ : Phi) (w0 : World) (M : List Nat) (A R : RL) (w : World), St w0 M (A ++ (Yb φ hp ++ R)) w -> St w0 M (A ++ (Yb (hB φ B2) ys ++ (Yb φ rest ++ R))) w := fun ps B hp K h => by
 obtain ⟨ys, B', rest, es, a, b, c, d, e⟩ := Ybz ps B hp K h;exact ⟨ys, B', rest, es, a, b, c, d, fun B2 hB2 φ => (e B2 hB2 φ).1⟩
def oid (t : Nat) : Nat := 3 * (1000 + t) + 1
def Ycm : List (Nat × AV) -> Nat -> Option AV
 | [], _ => none
 | p :: s, t => match Nat.beq p.1 t with | true => some p.2 | false => Ycm s t
def Yje (s : List (Nat × AV)) : Nat -> Nat -> List AV
 | _, 0 => []
 | t, n + 1 => (match Ycm s t with | some y => y | none => .opq (oid t)) :: Yje s (t + 1) n
def tmOf (len : Nat) (s : List (Nat × AV)) : List AV := Yje s 0 len
theorem Yf5 (s : List (Nat × AV)) : ∀ (n t k : Nat), (Yje s t n)[k]? = if k < n then some (match Ycm s (t + k) with | some y => y | none => .opq (oid (t + k))) else none
 | 0, t, k => by simp [Yje]
 | n + 1, t, 0 => by simp [Yje]
 | n + 1, t, k + 1 => by simp [Yje, Yf5 s n (t + 1) k, show t + 1 + k = t + (k + 1) by omega]
theorem Yeu (s : List (Nat × AV)) : ∀ (n t : Nat), (Yje s t n).length = n
 | 0, _ => rfl
 | n + 1, t => by simp [Yje, Yeu s n]
def Ymj : List (Nat × Pt) -> List (Nat × AV) -> List Ed -> Prop
 | [], s, es => s = [] /\ es = []
 | p :: ps, s, es => ∃ y s' e1 e2, s = (p.1, y) :: s' /\ es = e1 ++ e2 /\ Ymk p.2 y e1 /\ Ymj ps s' e2
def Yw5 (p : Pt) (x : AV) (B : Bd) (K : AV -> Bd -> List Ed -> Prop) : Prop :=
 match p with
 | .held q => (match x with | .held z => Ybq q z B fun y B es => K (.held y) B es | _ => Stuck 457)
 | p => Ybq p x B K
def Yts (tm : List AV) : List (Nat × Pt) -> Bd -> (List (Nat × AV) -> Bd -> List Ed -> Prop) -> Prop
 | [], B, K => K [] B []
 | (t, p) :: ps, B, K => getK tm t fun x => Yw5 p x B fun y B e1 => Yts tm ps B fun s B e2 => K ((t, y) :: s) B (e1 ++ e2)
def FitS (B : Bd) (x y : AV) : Prop := (x.rd = true /\ y.rd = true /\ Same B x y) \/ ∃ x' y', x = .held x' /\ y = .held y' /\ Same B x' y'
theorem FitS.ext {B B' : Bd} {x y : AV} (h : FitS B x y) (hB : ExtB B B') : FitS B' x y := by
 rcases h with ⟨h1, h2, h3⟩ | ⟨x', y', h1, h2, h3⟩
 ·exact .inl ⟨h1, h2, h3.ext hB⟩
 ·exact .inr ⟨x', y', h1, h2, h3.ext hB⟩
theorem Ysm {p : Pt} {x : AV} {B : Bd} {K : AV -> Bd -> List Ed -> Prop} (h : Yw5 p x B K) : ∃ y B' es, K y B' es /\ Ymk p y es /\ ExtB B B' /\ FitS B' x y := by
 unfold Yw5 at h
 split at h
 ·split at h
  ·obtain ⟨y, B', es, h1, h2, h3, h4, _⟩ := Ycw _ _ _ _ h;exact ⟨_, _, _, h1, ⟨_, rfl, h2⟩, h3, .inr ⟨_, _, rfl, rfl, h4⟩⟩
  ·exact h.elim
 ·obtain ⟨y, B', es, h1, h2, h3, h4, h5, h6⟩ := Ycw _ _ _ _ h;exact ⟨_, _, _, h1, h2, h3, .inl ⟨h5, h6, h4⟩⟩
theorem Yg7 {tm : List AV} : ∀ (ps : List (Nat × Pt)) (B : Bd) (K : List (Nat × AV) -> Bd -> List Ed -> Prop), Yts tm ps B K -> ∃ s B' es, K s B' es /\ Ymj ps s es /\ ExtB B B' /\ ∀ q ∈ s, ∃ x, tm[q.1]? = some x /\ FitS B' x q.2
 | [], B, K, h => ⟨[], B, [], h, ⟨rfl, rfl⟩, .refl _, fun q hq => by cases hq⟩
 | (t, p) :: ps, B, K, h => by
  obtain ⟨x, h1, h2⟩ := Ybn h;obtain ⟨y, B1, e1, h3, h4, h5, h6⟩ := Ysm h2;obtain ⟨s, B2, e2, k1, k2, k3, k4⟩ := Yg7 ps B1 _ h3;refine ⟨_, _, _, k1, ⟨_, _, _, _, rfl, rfl, h4, k2⟩, h5.trans k3, fun q hq => ?_⟩;rcases List.mem_cons.1 hq with rfl | hq
  ·exact ⟨x, h1, h6.ext k3⟩
  ·exact k4 q hq
theorem Yld {s : List (Nat × AV)} {t : Nat} {y : AV} : Ycm s t = some y -> (t, y) ∈ s := by
 induction s with
 | nil => intro h; cases h
 | cons p s ih =>
  intro h;unfold Ycm at h
  split at h
  ·rename_i hb;cases h;rw [<- Yd.1 hb];exact List.mem_cons_self
  ·exact List.mem_cons_of_mem _ (ih h)
end Go.Proofs.YtbhlmkgliflhaaaGreat
namespace Go.Proofs.YtbhlmkgliflhaaaGreat
open Go.RowKit
variable [InW]
attribute [local irreducible] Go.Oper.wp
def Ydz (φ : Phi) (B : Bd) (a : Act) : Phi := fun i => if i % 3 = 1 /\ 3001 <= i then ⟨0, false, 0, none, 0, a.tmps.getD (i / 3 - 1000) undef, fun _ => False⟩ else hB φ B i
theorem Yp4 (φ : Phi) (B : Bd) (a : Act) (t : Nat) : (Ydz φ B a (oid t)).v = a.tmps.getD t undef := by
 have h1 : oid t % 3 = 1 /\ 3001 <= oid t := by unfold oid; omega
 have h2 : oid t / 3 - 1000 = t := by unfold oid; omega
 simp [Ydz, h1, h2]
def Ycd (i : Nat) : Bool := !(Nat.beq (i % 3) 1 && Nat.ble 3001 i)
theorem Yv {φ : Phi} {B : Bd} {a : Act} {i : Nat} (h : Ycd i = true) : Ydz φ B a i = hB φ B i := by
 unfold Ydz;rw [if_neg];rintro ⟨h1, h2⟩;simp only [Ycd, Yd.2 h1, Nat.ble_eq_true_of_le h2, Bool.and_self, Bool.not_true, Bool.false_eq_true] at h
theorem Yu1 {x : AV} (h : x.rd = true) : x.isHeld = false := by cases x <;> first | rfl | cases h
def Yjq (s : List (Nat × AV)) : List AV -> Nat -> Bool
 | [], _ => true
 | x :: xs, t => match x with
  | .held _ => (match Ycm s t with | some _ => Yjq s xs (t + 1) | none => false)
  | _ => Yjq s xs (t + 1)
theorem Yhc {s : List (Nat × AV)} : ∀ {xs : List AV} {t : Nat}, Yjq s xs t = true -> ∀ (k : Nat) (x : AV), xs[k]? = some x -> x.isHeld = true -> ∃ y, Ycm s (t + k) = some y
 | [], _, _, k, x, h, _ => by simp at h
 | z :: xs, t, hh, k, x, hx, hd => by
  have rest : Yjq s xs (t + 1) = true := by
   unfold Yjq at hh
   split at hh
   ·split at hh
    ·exact hh
    ·cases hh
   ·exact hh
  cases k with
  | zero =>
   simp only [List.getElem?_cons_zero, Option.some.injEq] at hx;subst hx;cases z <;> simp [AV.isHeld] at hd;unfold Yjq at hh;simp only at hh
   split at hh
   ·rename_i y hy; exact ⟨y, by simpa using hy⟩
   ·cases hh
  | succ k =>
   have := Yhc rest k x (by simpa using hx) hd;rwa [show t + (k + 1) = t + 1 + k by omega]
theorem Yqw {x : AV} {xs : List AV} (h : x.isHeld = false) : Ybd (x :: xs) = Ybd xs := by cases x <;> first | rfl | cases h
def Yyq (φ φ2 : Phi) (a : Act) (k : Nat) (x y : AV) : Prop :=
 (x.isHeld = false /\ y.isHeld = false /\ (y.rd = true -> a.tmps[k]? = some (y.conc φ2))) \/ ∃ x' y', x = .held x' /\ y = .held y' /\ y'.conc φ2 = x'.conc φ
theorem Yno {φ φ2 : Phi} {a : Act} : ∀ {xs ys : List AV} {t : Nat}, xs.length = ys.length -> (∀ k x y, xs[k]? = some x -> ys[k]? = some y -> Yyq φ φ2 a (t + k) x y) -> (Ybd ys).map (Yec φ2) = (Ybd xs).map (Yec φ)
 | [], [], _, _, _ => rfl
 | x :: xs, y :: ys, t, hl, h => by
  have ih := Yno (φ := φ) (φ2 := φ2) (a := a) (xs := xs) (ys := ys) (t := t + 1) (by simpa using hl) fun k u v hu hv => by
   rw [show t + 1 + k = t + (k + 1) by omega];exact h (k + 1) u v (by simpa using hu) (by simpa using hv)
  rcases h 0 x y rfl rfl with ⟨h1, h2, _⟩ | ⟨x', y', rfl, rfl, hf⟩
  ·rw [Yqw h1, Yqw h2];exact ih
  ·simp only [Ybd, List.map_cons, ih, Yec, hf]
 | [], _ :: _, _, hl, _ => by simp at hl
 | _ :: _, [], _, hl, _ => by simp at hl
theorem RepT.as {φ φ2 : Phi} {tm tm2 : List AV} {a : Act} (h : RepT φ tm a) (hl : tm.length = tm2.length) (hs : ∀ k x y, tm[k]? = some x -> tm2[k]? = some y -> Yyq φ φ2 a k x y) : RepT φ2 tm2 a := by
 have get : ∀ k y, tm2[k]? = some y -> ∃ x, tm[k]? = some x /\ Yyq φ φ2 a k x y := fun k y hy => by
  have hk : k < tm.length := by rw [hl]; exact (List.getElem?_eq_some_iff.1 hy).1
  exact ⟨tm[k], List.getElem?_eq_getElem hk, hs k _ _ (List.getElem?_eq_getElem hk) hy⟩
 refine ⟨fun t v hv hh => ?_, fun t v hv hh => ?_, fun t v hv hr => ?_, ?_, by rw [<- hl]; exact h.len⟩
 ·obtain ⟨x, hx, h1⟩ := get t v hv;rcases h1 with ⟨h2, _, _⟩ | ⟨_, _, _, rfl, _⟩
  ·exact h.size t x hx h2
  ·cases hh
 ·obtain ⟨x, hx, h1⟩ := get t v hv;rcases h1 with ⟨_, h2, _⟩ | ⟨x', _, rfl, rfl, _⟩
  ·rw [h2] at hh; cases hh
  ·exact h.held t _ hx rfl
 ·obtain ⟨x, hx, h1⟩ := get t v hv;rcases h1 with ⟨_, _, h2⟩ | ⟨x', _, rfl, rfl, _⟩
  ·exact h2 hr
  ·cases hr
 ·rw [h.df]
  congr 1
  exact (Yno (t := 0) hl fun k x y hx hy => by rw [Nat.zero_add]; exact hs k x y hx hy).symm
mutual
theorem Yj7 {φ : Phi} {B : Bd} {a : Act} : ∀ y : AV, y.ids Ycd = true -> y.conc (Ydz φ B a) = y.conc (hB φ B)
 | .v _, _ => rfl
 | .ptr id k, h => by simp only [AV.conc, Yv (show Ycd id = true from h)]
 | .sl id _ _ _, h => by simp only [AV.conc, Yv (show Ycd id = true from h)]
 | .slc id _ _ _, h => by simp only [AV.conc, Yv (show Ycd id = true from h)]
 | .emp id, h => by simp only [AV.conc, Yv (show Ycd id = true from h)]
 | .agg cs, h => by simp only [AV.conc, Yb1 cs h]
 | .tup cs, h => by simp only [AV.conc, Yb1 cs h]
 | .fn f x y, h => by
  unfold AV.ids at h
  split at h
  ·rename_i h1;simp only [AV.conc, Yb1 x h1, Yb1 y h]
  ·cases h
 | .ifc t x, h => by simp only [AV.conc, Yj7 x h]
 | .mp id, h => by simp only [AV.conc, Yv (show Ycd id = true from h)]
 | .yl id, h => by simp only [AV.conc, Yv (show Ycd id = true from h)]
 | .held _, _ => rfl
 | .junk, _ => rfl
 | .si _ _, _ => rfl
 | .sb _, _ => rfl
 | .ss _, _ => rfl
 | .rs _ _, _ => rfl
 | .rp _ _ _ _, _ => rfl
 | .rw id, h => by simp only [AV.conc, Yv (show Ycd id = true from h)]
 | .ep id _ _ _, h => by simp only [AV.conc, Yv (show Ycd id = true from h)]
 | .rwp id _ _ _, h => by simp only [AV.conc, Yv (show Ycd id = true from h)]
 | .opq id, h => by simp only [AV.conc, Yv (show Ycd id = true from h)]
 | .fp id _ _ _, h => by simp only [AV.conc, Yv (show Ycd id = true from h)]
theorem Yb1 {φ : Phi} {B : Bd} {a : Act} : ∀ ys : List AV, AV.idsL Ycd ys = true -> AV.concL (Ydz φ B a) ys = AV.concL (hB φ B) ys
 | [], _ => rfl
 | y :: ys, h => by
  unfold AV.idsL at h
  split at h
  ·rename_i h1;simp only [AV.concL, Yj7 y h1, Yb1 ys h]
  ·cases h
end
theorem Y2k {φ : Phi} {B : Bd} {a : Act} {pid : Nat} (hp : Ycd pid = true) : ∀ it : It, it.ids Ycd = true -> it.conc (Ydz φ B a) pid = it.conc (hB φ B) pid
 | .blk _ cs, h => by simp only [It.conc, Yv hp, Yb1 cs h]
 | .row _ _ _ cs, h => by simp only [It.conc, Yv hp, Yb1 cs h]
 | .rowV .., _ => by simp only [It.conc, Yv hp]
 | .obj _, _ => by simp only [It.conc, Yv hp]
 | .lp _ cs, h => by simp only [It.conc, Yv hp, Yb1 cs h]
 | .dead, _ => rfl
 | .arr .., _ => by simp only [It.conc, Yv hp]
 | .bk _ _ _ j, h => by simp only [It.conc, Yv hp, Yv (show Ycd j = true from h)]
 | .nst .., _ => by simp only [It.conc, Yv hp]
 | .fro .., _ => by simp only [It.conc, Yv hp]
 | .bkv _ _ _ cs j, h => by
  have h' : (match Ycd j with | true => AV.idsL Ycd cs | false => false) = true := h
  split at h'
  ·rename_i h1;simp only [It.conc, Yv hp, Yv h1, Yb1 cs h']
  ·cases h'
def lowH : Heap -> Bool
 | [] => true
 | p :: h => Ycd p.1 && p.2.ids Ycd && lowH h
theorem Yw7 {φ : Phi} {B : Bd} {a : Act} : ∀ h : Heap, lowH h = true -> Yb (Ydz φ B a) h = Yb (hB φ B) h
 | [], _ => rfl
 | p :: h, hh => by
  simp only [lowH, Bool.and_eq_true] at hh;have := Yw7 (φ := φ) (B := B) (a := a) h hh.2;simp only [Yb, List.map_cons, Y2k hh.1.1 p.2 hh.1.2] at this ⊢;rw [this]
def lowS : List (Nat × AV) -> Bool
 | [] => true
 | p :: s => p.2.ids Ycd && lowS s
theorem Ytv : ∀ {s : List (Nat × AV)}, lowS s = true -> ∀ q ∈ s, q.2.ids Ycd = true
 | [], _, q, hq => by cases hq
 | p :: s, h, q, hq => by
  simp only [lowS, Bool.and_eq_true] at h;rcases List.mem_cons.1 hq with rfl | hq
  ·exact h.1
  ·exact Ytv h.2 q hq
def nthA : List AV -> Nat -> AV
 | [], _ => .junk
 | x :: xs, n => match n with | 0 => x | n + 1 => nthA xs n
def Y1x (id : Nat) (hp : Heap) (K : Heap -> Prop) : Prop :=
 match look hp id with
 | some (.bk T ts xs j) => (match look hp j with
  | some (.arr T' ts' zs) => Yc (Nat.beq T' T && Ych.sameTs ts' ts && !(Nat.beq j id)) (Pre (zs.take xs.length = xs) (updK hp id (.arr T ts xs) fun hp => updK hp j .dead K))
  | _ => K hp)
 | _ => K hp
def Yl3 : List (Nat × Pt) -> List AV -> Heap -> (Heap -> Prop) -> Prop
 | [], _, hp, K => K hp
 | p :: ps, tm, hp, K => match p.2 with
  | .row _ => (match nthA tm p.1 with | .rw id => Y1x id hp fun hp => Yl3 ps tm hp K | _ => Yl3 ps tm hp K)
  | _ => Yl3 ps tm hp K
theorem Yza {hp : Heap} (hn : (keys hp).Nodup) {i j : Nat} {x y : It} (hi : look hp i = some x) (hj : look hp j = some y) (hne : i ≠ j) : ∃ r, hp.Perm ((i, x) :: (j, y) :: r) /\ ∀ x' y', (upd (upd hp i x') j y').Perm ((i, x') :: (j, y') :: r) := by
 induction hp with
 | nil => simp [look] at hi
 | cons p h ih =>
  simp only [keys, List.map_cons, List.nodup_cons] at hn;have one : ∀ (h : Heap), (keys h).Nodup -> ∀ (k : Nat) (z : It), look h k = some z -> ∃ r, h.Perm ((k, z) :: r) /\ ∀ z', (upd h k z').Perm ((k, z') :: r) := by
   intro h
   induction h with
   | nil => intro _ k z hk; simp [look] at hk
   | cons q h ih2 =>
    intro hn k z hk;simp only [keys, List.map_cons, List.nodup_cons] at hn;rw [Yn] at hk
    split at hk
    ·rename_i e;cases hk;refine ⟨h, by rw [<- e], fun z' => ?_⟩;unfold upd;rw [Yd.2 e, <- e]
    ·rename_i e;obtain ⟨r, h1, h2⟩ := ih2 hn.2 k z hk;refine ⟨q :: r, (h1.cons q).trans (List.Perm.swap _ _ _), fun z' => ?_⟩;unfold upd;rw [Yz.2 e];exact ((h2 z').cons q).trans (List.Perm.swap _ _ _)
  rw [Yn] at hi hj
  by_cases e1 : p.1 = i
  ·rw [if_pos e1] at hi;cases hi;have e2 : p.1 ≠ j := fun e => hne (e1.symm.trans e);rw [if_neg e2] at hj;obtain ⟨r, h1, h2⟩ := one h hn.2 j y hj;refine ⟨r, by rw [<- e1]; exact h1.cons p, fun x' y' => ?_⟩;have e3 : upd (p :: h) i x' = (p.1, x') :: h := by unfold upd; rw [Yd.2 e1]
   rw [e3];unfold upd;rw [Yz.2 e2, <- e1];exact (h2 y').cons _
  ·rw [if_neg e1] at hi
   by_cases e2 : p.1 = j
   ·rw [if_pos e2] at hj;cases hj;obtain ⟨r, h1, h2⟩ := one h hn.2 i x hi;refine ⟨r, ?_, fun x' y' => ?_⟩
    ·rw [<- e2]; exact (h1.cons p).trans (List.Perm.swap _ _ _)
    ·have e3 : upd (p :: h) i x' = p :: upd h i x' := by conv => lhs; unfold upd; rw [Yz.2 e1]
     rw [e3]
     conv => lhs; unfold upd; rw [Yd.2 e2]
     rw [<- e2];exact ((h2 x').cons _).trans (List.Perm.swap _ _ _)
   ·rw [if_neg e2] at hj;obtain ⟨r, h1, h2⟩ := ih hn.2 hi hj;refine ⟨p :: r, (h1.cons p).trans ?_, fun x' y' => ?_⟩
    ·exact (List.Perm.swap _ _ _).trans ((List.Perm.swap _ _ _).cons _)
    ·have e3 : upd (upd (p :: h) i x') j y' = p :: upd (upd h i x') j y' := by
      have e4 : upd (p :: h) i x' = p :: upd h i x' := by conv => lhs; unfold upd; rw [Yz.2 e1]
      rw [e4]
      conv => lhs; unfold upd; rw [Yz.2 e2]
     rw [e3];exact ((h2 x' y').cons p).trans ((List.Perm.swap _ _ _).trans ((List.Perm.swap _ _ _).cons _))
theorem Yvq {id : Nat} {hp : Heap} {K : Heap -> Prop} (h : Y1x id hp K) : ∃ hp', K hp' /\ ∀ (φ0 φ : Phi) (w0 : World) (M : List Nat) (R : RL) (tm : List AV) (a : Act) (w : World), RepS φ0 φ w0 M R tm hp a w -> RepS φ0 φ w0 M R tm hp' a w := by
 unfold Y1x at h
 split at h
 ·rename_i T ts xs j hl
  split at h
  ·rename_i T' ts' zs hl2;obtain ⟨h1, h2⟩ := Ya h;simp only [Bool.and_eq_true, Yd, Bool.not_eq_true'] at h1;obtain ⟨⟨rfl, h12⟩, h13⟩ := h1;obtain ⟨e, _⟩ := Y8 h12;subst e;obtain ⟨h3, h4⟩ := h2;have h5 := Yd3.1 (Yd3.1 h4);refine ⟨_, h5, fun φ0 φ w0 M R tm a w hr => ⟨hr.tmps, ?_, by rw [Yj9, Yj9]; exact hr.nd, hr.base⟩⟩;have hne : id ≠ j := fun e => Yz.1 h13 e.symm;obtain ⟨r, p1, p2⟩ := Yza hr.nd hl hl2 hne;have hS := hr.st.perm ((Yq p1).append_right R);have hS2 := St.lentBack (R := Yb φ r ++ R) h3 (by simpa [Yb] using hS);refine (show St w0 M (Yb φ ((id, .arr T' ts' xs) :: (j, .dead) :: r) ++ R) w by simpa [Yb] using hS2).perm ?_;exact ((Yq (p2 _ _)).append_right R).symm
  ·exact ⟨_, h, fun _ _ _ _ _ _ _ _ hr => hr⟩
 ·exact ⟨_, h, fun _ _ _ _ _ _ _ _ hr => hr⟩
theorem Ydw : ∀ {ps : List (Nat × Pt)} {tm : List AV} {hp : Heap} {K : Heap -> Prop}, Yl3 ps tm hp K -> ∃ hp', K hp' /\ ∀ (φ0 φ : Phi) (w0 : World) (M : List Nat) (R : RL) (tm : List AV) (a : Act) (w : World), RepS φ0 φ w0 M R tm hp a w -> RepS φ0 φ w0 M R tm hp' a w
 | [], _, _, _, h => ⟨_, h, fun _ _ _ _ _ _ _ _ hr => hr⟩
 | p :: ps, tm, hp, K, h => by
  unfold Yl3 at h
  split at h
  ·split at h
   ·obtain ⟨hp1, h1, h2⟩ := Yvq h;obtain ⟨hp2, h3, h4⟩ := Ydw h1;exact ⟨hp2, h3, fun φ0 φ w0 M R tm a w hr => h4 φ0 φ w0 M R tm a w (h2 φ0 φ w0 M R tm a w hr)⟩
   ·exact Ydw h
  ·exact Ydw h
def Y0r (T : List (Nat × Pt)) (H : List (Nat × PI)) (tm : List AV) (hp : Heap) (K : List (Nat × AV) -> Heap -> Bd -> Heap -> List Ed -> Prop) : Prop :=
 Yts tm T [] fun s B e1 => Yde H B hp fun ys B rest e2 => Yc (Yjq s tm 0 && lowS s && lowH ys && Yeh (ys.map (·.1))) (K s ys B rest (e1 ++ e2))
def Yue (φ : Phi) : Phi := fun x => φ (3 * x + 1)
theorem Ys2 {T : List (Nat × Pt)} {H : List (Nat × PI)} {tm : List AV} {hp : Heap} {K : List (Nat × AV) -> Heap -> Bd -> Heap -> List Ed -> Prop} (h : Y0r T H tm hp K) :
  ∃ s ys B rest e1 e2, K s ys B rest (e1 ++ e2) /\ Ymj T s e1 /\ Yhi H ys e2 /\ rest.Sublist hp /\ (∀ (k : Nat) (x : AV), tm[k]? = some x -> x.isHeld = true -> ∃ y, Ycm s k = some y) /\ (∀ q ∈ s, ∃ x, tm[q.1]? = some x /\ FitS B x q.2) /\ (keys ys).Nodup /\
   ∀ (φ0 φ : Phi) (w0 : World) (M : List Nat) (R : RL) (a : Act) (w : World), RepS φ0 φ w0 M R tm hp a w -> RepS (Yue (Ydz φ B a)) (Ydz φ B a) w0 M (Yb φ rest ++ R) (tmOf tm.length s) ys a w := by
 obtain ⟨s, B1, e1, h1, h2, h3, h4⟩ := Yg7 T [] _ h;obtain ⟨ys, B2, rest, e2, k1, k2, k3, k3s, k4⟩ := Yex H B1 hp _ h1;obtain ⟨hb, hk⟩ := Ya k1;simp only [Bool.and_eq_true] at hb;obtain ⟨⟨⟨b1, b2⟩, b3⟩, b4⟩ := hb;have hheld : ∀ (k : Nat) (x : AV), tm[k]? = some x -> x.isHeld = true -> ∃ y, Ycm s k = some y := fun k x hx hd => by
  have := Yhc b1 k x hx hd;simpa using this
 have hfit : ∀ q ∈ s, ∃ x, tm[q.1]? = some x /\ FitS B2 x q.2 := fun q hq => by
  obtain ⟨x, hx, hf⟩ := h4 q hq;exact ⟨x, hx, hf.ext k3⟩
 refine ⟨s, ys, B2, rest, e1, e2, hk, h2, k2, k3s, hheld, hfit, Ybg b4, fun φ0 φ w0 M R a w hr => ⟨?_, ?_, Ybg b4, fun x => rfl⟩⟩
 ·refine hr.tmps.as (by rw [tmOf, Yeu]) fun k x y hx hy => ?_;rw [tmOf, Yf5, Nat.zero_add] at hy
  split at hy
  ·simp only [Option.some.injEq] at hy
   split at hy
   ·rename_i y' hl;subst hy;obtain ⟨x', hx', hf⟩ := hfit _ (Yld hl);rw [hx] at hx';cases hx';have hlow := Ytv b2 _ (Yld hl);rcases hf with ⟨f1, f2, f3⟩ | ⟨x1, y1, f1, f2, f3⟩
    ·refine .inl ⟨Yu1 f1, Yu1 f2, fun _ => ?_⟩;rw [Yj7 _ hlow, f3 B2 (.refl _) φ];exact hr.tmps.slot k x hx f1
    ·dsimp only at f2;subst f1; subst f2;refine .inr ⟨_, _, rfl, rfl, ?_⟩;rw [Yj7 _ (show y1.ids Ycd = true from hlow), f3 B2 (.refl _) φ]
   ·rename_i hl;subst hy;have hnh : x.isHeld = false := by
     cases hd : x.isHeld with
     | false => rfl
     | true => obtain ⟨y, hy⟩ := hheld k x hx hd; rw [hl] at hy; cases hy
    refine .inl ⟨hnh, rfl, fun _ => ?_⟩;have hk2 := hr.tmps.size k x hx hnh
    show a.tmps[k]? = some (Ydz φ B2 a (oid k)).v
    rw [Yp4];simp [Array.getD_eq_getD_getElem?, hk2]
  ·cases hy
 ·have := k4 B2 (.refl _) φ w0 M [] R w (by simpa using hr.st);rw [Yw7 ys b3];simpa using this
end Go.Proofs.YtbhlmkgliflhaaaGreat
namespace Go.Proofs.YtbhlmkgliflhaaaGreat
open Go.RowKit
variable [InW]
attribute [local irreducible] Go.Oper.wp
def inL (t : Nat) : List Nat -> Bool
 | [] => false
 | u :: us => match Nat.beq u t with | true => true | false => inL t us
def Yfo (s : List (Nat × AV)) (J : List Nat) : Nat -> Nat -> List AV
 | _, 0 => []
 | t, n + 1 => (match Ycm s t with | some y => y | none => (match inL t J with | true => .junk | false => .opq (oid t))) :: Yfo s J (t + 1) n
def Ydy (len : Nat) (s : List (Nat × AV)) (J : List Nat) : List AV := Yfo s J 0 len
theorem Ydp (s : List (Nat × AV)) (J : List Nat) : ∀ (n t k : Nat), (Yfo s J t n)[k]? = if k < n then some (match Ycm s (t + k) with | some y => y | none => (match inL (t + k) J with | true => .junk | false => .opq (oid (t + k)))) else none
 | 0, t, k => by simp [Yfo]
 | n + 1, t, 0 => by simp [Yfo]
 | n + 1, t, k + 1 => by simp [Yfo, Ydp s J n (t + 1) k, show t + 1 + k = t + (k + 1) by omega]
theorem Yc3 (s : List (Nat × AV)) (J : List Nat) : ∀ (n t : Nat), (Yfo s J t n).length = n
 | 0, _ => rfl
 | n + 1, t => by simp [Yfo, Yc3 s J n]
theorem RepT.forget {φ : Phi} {len : Nat} {s : List (Nat × AV)} {J : List Nat} {a : Act} (h : RepT φ (tmOf len s) a) : RepT φ (Ydy len s J) a := by
 refine h.as (by rw [tmOf, Ydy, Yeu, Yc3]) fun k x y hx hy => ?_;rw [tmOf, Yf5, Nat.zero_add] at hx;rw [Ydy, Ydp, Nat.zero_add] at hy
 split at hx
 ·rename_i hk;rw [if_pos hk] at hy;have hx0 := hx;simp only [Option.some.injEq] at hx hy;have hget : (tmOf len s)[k]? = some x := by rw [tmOf, Yf5, if_pos hk, Nat.zero_add]; exact hx0
  split at hx
  ·rename_i y' hl;rw [hl] at hy;dsimp only at hy;subst hx;subst hy;cases hd : y'.isHeld with
   | false => exact .inl ⟨hd, hd, fun hr => h.slot k _ hget hr⟩
   | true => cases y' <;> first | exact .inr ⟨_, _, rfl, rfl, rfl⟩ | cases hd
  ·rename_i hl;rw [hl] at hy;subst hx;dsimp only at hy
   split at hy
   ·subst hy; exact .inl ⟨rfl, rfl, fun hr => by cases hr⟩
   ·subst hy; exact .inl ⟨rfl, rfl, fun hr => h.slot k _ hget hr⟩
 ·cases hx
def Ysw (s : List (Nat × AV)) (J : List Nat) : List AV -> Nat -> Bool
 | [], _ => true
 | x :: xs, t => match Ycm s t with
  | some _ => Ysw s J xs (t + 1)
  | none => (match x with
   | .held _ => false
   | x => (match inL t J with
    | true => Ysw s J xs (t + 1)
    | false => (match x with | .opq i => (match Nat.beq i (oid t) with | true => Ysw s J xs (t + 1) | false => false) | _ => false)))
theorem Ynj {s : List (Nat × AV)} {J : List Nat} : ∀ {xs : List AV} {t : Nat}, Ysw s J xs t = true -> ∀ (k : Nat) (x : AV), xs[k]? = some x -> (∃ y, Ycm s (t + k) = some y) \/ (Ycm s (t + k) = none /\ x.isHeld = false /\ (inL (t + k) J = true \/ (inL (t + k) J = false /\ x = .opq (oid (t + k)))))
 | [], _, _, k, x, h => by simp at h
 | z :: xs, t, hh, k, x, hx => by
  have both : Ysw s J xs (t + 1) = true /\ ((∃ y, Ycm s t = some y) \/ (Ycm s t = none /\ z.isHeld = false /\ (inL t J = true \/ (inL t J = false /\ z = .opq (oid t))))) := by
   unfold Ysw at hh
   split at hh
   ·rename_i y hy; exact ⟨hh, .inl ⟨y, hy⟩⟩
   ·rename_i hn
    split at hh
    ·cases hh
    ·rename_i hnh;have hz : z.isHeld = false := by cases z <;> first | rfl | exact (hnh _ rfl).elim
     split at hh
     ·rename_i hj; exact ⟨hh, .inr ⟨hn, hz, .inl hj⟩⟩
     ·rename_i hj
      split at hh
      ·split at hh
       ·rename_i hb; exact ⟨hh, .inr ⟨hn, hz, .inr ⟨hj, by rw [Yd.1 hb]⟩⟩⟩
       ·cases hh
      ·cases hh
  cases k with
  | zero =>
   simp only [List.getElem?_cons_zero, Option.some.injEq] at hx;subst hx;exact both.2
  | succ k =>
   have := Ynj both.1 k x (by simpa using hx);rwa [show t + (k + 1) = t + 1 + k by omega]
def Ypz : Bd -> Bool
 | [] => true
 | (p, s) :: b => (match s with | .id i => (match Nat.beq (p % 3) 1 with | true => Nat.beq i p | false => true) | _ => !(Nat.beq (p % 3) 1)) && Ypz b
theorem Ymz : ∀ {B : Bd} {p : Nat} {s : Src'}, Ypz B = true -> Yfs B p = some s -> p % 3 = 1 -> s = .id p
 | [], p, s, _, h, _ => by cases h
 | (q, u) :: b, p, s, hb, h, hp => by
  simp only [Ypz, Bool.and_eq_true] at hb;unfold Yfs at h
  split at h
  ·rename_i hq;cases h;have e := Yd.1 hq;dsimp only at e;subst e;cases u with
   | id i =>
    have h1 := hb.1;simp only [Yd.2 hp] at h1;rw [Yd.1 h1]
   | nil => have h1 := hb.1; simp only [Yd.2 hp, Bool.not_true, Bool.false_eq_true] at h1
   | conv _ _ => have h1 := hb.1; simp only [Yd.2 hp, Bool.not_true, Bool.false_eq_true] at h1
   | val _ => have h1 := hb.1; simp only [Yd.2 hp, Bool.not_true, Bool.false_eq_true] at h1
  ·exact Ymz hb.2 h hp
theorem Ys0 {φ : Phi} {B : Bd} (h : Ypz B = true) (x : Nat) : hB φ B (3 * x + 1) = φ (3 * x + 1) := by
 unfold hB;cases hl : Yfs B (3 * x + 1) with
 | none => rfl
 | some s => rw [Ymz h hl (by omega)]; rfl
def Ypy : List (Nat × PI) -> Bd
 | [] => []
 | p :: h => match Nat.beq (p.1 % 3) 1 with | true => (p.1, .id p.1) :: Ypy h | false => Ypy h
def fitK (T : List (Nat × Pt)) (H : List (Nat × PI)) (J : List Nat) (tm : List AV) (hp : Heap) (Q : List Ed -> Prop) : Prop :=
 Yl3 T tm hp fun hp => Yts tm T (Ypy H) fun s B e1 => Yde H B hp fun ys B rest e2 => Yc (Ysw s J tm 0 && Ypz B && Yeh (ys.map (·.1))) (Q (e1 ++ e2))
theorem Yqz {T : List (Nat × Pt)} {H : List (Nat × PI)} {J : List Nat} {tm : List AV} {hp : Heap} {Q : List Ed -> Prop} (h : fitK T H J tm hp Q) : ∃ s ys e1 e2, Q (e1 ++ e2) /\ Ymj T s e1 /\ Yhi H ys e2 /\
  ∀ (φ0 φ : Phi) (w0 : World) (M : List Nat) (R : RL) (a : Act) (w : World), RepS φ0 φ w0 M R tm hp a w -> ∃ φ2, RepS φ0 φ2 w0 M R (Ydy tm.length s J) ys a w := by
 obtain ⟨hp1, h, hback⟩ := Ydw h;obtain ⟨s, B1, e1, h1, h2, h3, h4⟩ := Yg7 T _ _ h;obtain ⟨ys, B2, rest, e2, k1, k2, k3, k3s, k4⟩ := Yex H B1 hp1 _ h1;obtain ⟨hb, hk⟩ := Ya k1;simp only [Bool.and_eq_true] at hb;obtain ⟨⟨b1, b2⟩, b3⟩ := hb;refine ⟨s, ys, e1, e2, hk, h2, k2, fun φ0 φ w0 M R a w hr0 => ?_⟩;have hr := hback φ0 φ w0 M R tm a w hr0;refine ⟨hB φ B2, ?_, ?_, Ybg b3, fun x => by rw [Ys0 b2]; exact hr.base x⟩
 ·refine hr.tmps.as (by rw [Ydy, Yc3]) fun k x y hx hy => ?_;rw [Ydy, Ydp, Nat.zero_add] at hy
  split at hy
  ·simp only [Option.some.injEq] at hy;rcases Ynj b1 k x hx with ⟨y', hl⟩ | ⟨hl, hnh, hj | ⟨hj, rfl⟩⟩
   ·rw [Nat.zero_add] at hl;rw [hl] at hy;subst hy;obtain ⟨x', hx', hf⟩ := h4 _ (Yld hl);rw [hx] at hx';cases hx';rcases hf.ext k3 with ⟨f1, f2, f3⟩ | ⟨x1, y1, f1, f2, f3⟩
    ·exact .inl ⟨Yu1 f1, Yu1 f2, fun _ => by rw [f3 B2 (.refl _) φ]; exact hr.tmps.slot k x hx f1⟩
    ·dsimp only at f2;subst f1; subst f2;exact .inr ⟨_, _, rfl, rfl, f3 B2 (.refl _) φ⟩
   ·rw [Nat.zero_add] at hl hj;rw [hl, hj] at hy;subst hy;exact .inl ⟨hnh, rfl, fun hr => by cases hr⟩
   ·rw [Nat.zero_add] at hl hj hx;rw [hl, hj] at hy;subst hy;refine .inl ⟨rfl, rfl, fun _ => ?_⟩;have := hr.tmps.slot k _ hx rfl;rw [this]
    show some (φ (oid k)).v = some (hB φ B2 (oid k)).v
    have e : oid k = 3 * (1000 + k) + 1 := rfl;rw [e, Ys0 b2]
  ·cases hy
 ·have := k4 B2 (.refl _) φ w0 M [] R w (by simpa using hr.st);simp only [List.nil_append] at this;exact this.sub ((List.Sublist.refl _).append (List.sublist_append_right _ _))
mutual
def insP : Pt -> List Ed -> Option (AV × List Ed)
 | .int k, es => (match es with | .i n :: es => some (.si k n, es) | _ => none)
 | .bool, es => (match es with | .b x :: es => some (.sb x, es) | _ => none)
 | .str, es => (match es with | .s x :: es => some (.ss x, es) | _ => none)
 | .lit v, es => some (.v v, es)
 | .ptr pid k, es => some (.ptr pid k, es)
 | .row pid, es => some (.rw pid, es)
 | .rs _, es => (match es with | .ro ts r :: es => some (.rs ts r, es) | _ => none)
 | .mp pid, es => some (.mp pid, es)
 | .yl pid, es => some (.yl pid, es)
 | .opq pid, es => some (.opq pid, es)
 | .agg ps, es => (match insL ps es with | some (ys, es) => some (.agg ys, es) | none => none)
 | .tup ps, es => (match insL ps es with | some (ys, es) => some (.tup ys, es) | none => none)
 | .fn f a b, es => (match insL a es with | some (xs, es) => (match insL b es with | some (ys, es) => some (.fn f xs ys, es) | none => none) | none => none)
 | .ifc t p, es => (match insP p es with | some (y, es) => some (.ifc t y, es) | none => none)
 | .held p, es => (match insP p es with | some (y, es) => some (.held y, es) | none => none)
 | .sl pid a b c, es => some (.sl pid a b c, es)
 | .slc pid a b c, es => some (.slc pid a b c, es)
 | .rwp pid sz, es => (match es with | .i l :: .i n :: es => some (.rwp pid sz l.toNat n.toNat, es) | _ => none)
 | .emp pid, es => some (.emp pid, es)
def insL : List Pt -> List Ed -> Option (List AV × List Ed)
 | [], es => some ([], es)
 | p :: ps, es => (match insP p es with | some (y, es) => (match insL ps es with | some (ys, es) => some (y :: ys, es) | none => none) | none => none)
end
mutual
theorem Yi1 : ∀ (p : Pt) (y : AV) (es e : List Ed), Ymk p y es -> insP p (es ++ e) = some (y, e)
 | .int k, _, _, e, ⟨n, rfl, rfl⟩ => rfl
 | .bool, _, _, e, ⟨n, rfl, rfl⟩ => rfl
 | .str, _, _, e, ⟨n, rfl, rfl⟩ => rfl
 | .lit v, _, _, e, ⟨rfl, rfl⟩ => rfl
 | .ptr pid k, _, _, e, ⟨rfl, rfl⟩ => rfl
 | .row pid, _, _, e, ⟨rfl, rfl⟩ => rfl
 | .rs _, _, _, e, ⟨r, rfl, rfl⟩ => rfl
 | .mp pid, _, _, e, ⟨rfl, rfl⟩ => rfl
 | .yl pid, _, _, e, ⟨rfl, rfl⟩ => rfl
 | .opq pid, _, _, e, ⟨rfl, rfl⟩ => rfl
 | .agg ps, _, es, e, ⟨xs, rfl, h⟩ => by unfold insP; rw [Yfx ps xs es e h]
 | .tup ps, _, es, e, ⟨xs, rfl, h⟩ => by unfold insP; rw [Yfx ps xs es e h]
 | .fn f a b, _, _, e, ⟨xs, ys, e1, e2, rfl, rfl, h1, h2⟩ => by
  unfold insP;rw [List.append_assoc, Yfx a xs e1 (e2 ++ e) h1];simp only [Yfx b ys e2 e h2]
 | .ifc t p, _, es, e, ⟨y, rfl, h⟩ => by unfold insP; rw [Yi1 p y es e h]
 | .held p, _, es, e, ⟨y, rfl, h⟩ => by unfold insP; rw [Yi1 p y es e h]
 | .sl pid a b c, _, _, e, ⟨rfl, rfl⟩ => rfl
 | .slc pid a b c, _, _, e, ⟨rfl, rfl⟩ => rfl
 | .rwp pid sz, _, _, e, ⟨l, n, rfl, rfl⟩ => rfl
 | .emp pid, _, _, e, ⟨rfl, rfl⟩ => rfl
theorem Yfx : ∀ (ps : List Pt) (ys : List AV) (es e : List Ed), Yj0 ps ys es -> insL ps (es ++ e) = some (ys, e)
 | [], _, _, e, ⟨rfl, rfl⟩ => rfl
 | p :: ps, _, _, e, ⟨x, xs, e1, e2, rfl, rfl, h1, h2⟩ => by
  unfold insL;rw [List.append_assoc, Yi1 p x e1 (e2 ++ e) h1];simp only [Yfx ps xs e2 e h2]
end
def insT : List (Nat × Pt) -> List Ed -> Option (List (Nat × AV) × List Ed)
 | [], es => some ([], es)
 | (t, p) :: ps, es => (match insP p es with | some (y, es) => (match insT ps es with | some (ys, es) => some ((t, y) :: ys, es) | none => none) | none => none)
theorem Yxi : ∀ (ps : List (Nat × Pt)) (s : List (Nat × AV)) (es e : List Ed), Ymj ps s es -> insT ps (es ++ e) = some (s, e)
 | [], _, _, e, ⟨rfl, rfl⟩ => rfl
 | (t, p) :: ps, _, _, e, ⟨x, xs, e1, e2, rfl, rfl, h1, h2⟩ => by
  unfold insT;rw [List.append_assoc, Yi1 p x e1 (e2 ++ e) h1];simp only [Yxi ps xs e2 e h2]
def insI (p : PI) (es : List Ed) : Option (It × List Ed) :=
 match p with
 | .blk T ps => (match insL ps es with | some (ys, es) => some (.blk T ys, es) | none => none)
 | .arr T ts => (match es with | .l xs :: es => some (.arr T ts xs, es) | _ => none)
 | .row T sz n ps => (match insL ps es with | some (ys, es) => some (.row T sz n ys, es) | none => none)
 | .obj x => some (.obj x, es)
 | .mpI => (match es with | .m xs :: es => some (.obj (.mpI xs), es) | _ => none)
 | .mpP => (match es with | .l xs :: es => some (.obj (.mpP xs), es) | _ => none)
 | .lp L ps => (match insL ps es with | some (ys, es) => some (.lp L ys, es) | none => none)
 | .dead => some (.dead, es)
 | .nst T ts => (match es with | .l xs :: es => some (.nst T ts xs, es) | _ => none)
 | .fro ts => (match es with | .l xs :: es => some (.fro ts xs, es) | _ => none)
theorem Y1j (p : PI) (it : It) (es e : List Ed) (h : Y0e p it es) : insI p (es ++ e) = some (it, e) := by
 cases p with
 | blk T ps => obtain ⟨xs, rfl, h⟩ := h; unfold insI; simp only [Yfx ps xs es e h]
 | arr T ts => obtain ⟨xs, rfl, rfl⟩ := h; rfl
 | row T sz n ps => obtain ⟨xs, rfl, h⟩ := h; unfold insI; simp only [Yfx ps xs es e h]
 | obj x => obtain ⟨rfl, rfl⟩ := h; rfl
 | mpI => obtain ⟨xs, rfl, rfl⟩ := h; rfl
 | mpP => obtain ⟨xs, rfl, rfl⟩ := h; rfl
 | lp L ps => obtain ⟨xs, rfl, h⟩ := h; unfold insI; simp only [Yfx ps xs es e h]
 | dead => obtain ⟨rfl, rfl⟩ := h; rfl
 | nst T ts => obtain ⟨xs, rfl, rfl⟩ := h; rfl
 | fro ts => obtain ⟨xs, rfl, rfl⟩ := h; rfl
def insH : List (Nat × PI) -> List Ed -> Option (Heap × List Ed)
 | [], es => some ([], es)
 | (pid, p) :: ps, es => (match insI p es with | some (y, es) => (match insH ps es with | some (ys, es) => some ((pid, y) :: ys, es) | none => none) | none => none)
theorem Ylj : ∀ (ps : List (Nat × PI)) (h : Heap) (es e : List Ed), Yhi ps h es -> insH ps (es ++ e) = some (h, e)
 | [], _, _, e, ⟨rfl, rfl⟩ => rfl
 | (pid, p) :: ps, _, _, e, ⟨it, h', e1, e2, rfl, rfl, h1, h2⟩ => by
  unfold insH;rw [List.append_assoc, Y1j p it e1 (e2 ++ e) h1];simp only [Ylj ps h' e2 e h2]
end Go.Proofs.YtbhlmkgliflhaaaGreat
namespace Go.Proofs.YtbhlmkgliflhaaaGreat
open Go.RowKit
attribute [local irreducible] Go.Oper.wp
section
variable [InW]
def Ygj (base i : Nat) : Bool := match Nat.beq (i % 3) 0 with | true => Nat.blt i (3 * base) | false => true
def rhoB (B : Bd) (base p : Nat) : Nat := match Yfs B p with | some (.id i) => i | _ => 3 * (base + p)
def okP (B : Bd) (base p : Nat) : Bool :=
 match Yfs B p with
 | some (.id i) => Nat.beq (p % 3) 1 && Ycd p && Ygj base i
 | some (.val _) => false
 | some _ => Nat.beq (p % 3) 1 && Ycd p
 | none => Nat.beq (p % 3) 0
def Ybx (φ φ2 : Phi) (base : Nat) : Phi := fun i => if i % 3 = 0 /\ base <= i / 3 then φ2 (i / 3 - base) else φ i
theorem Ydj {φ φ2 : Phi} {base i : Nat} (h : Ygj base i = true) : Ybx φ φ2 base i = φ i := by
 unfold Ybx;rw [if_neg];rintro ⟨h1, h2⟩;unfold Ygj at h;rw [Yd.2 h1] at h;have := by simpa [Nat.blt_eq] using h
 omega
structure Ends (B : Bd) (φ φ2 : Phi) (a : Act) : Prop where
 base : ∀ x, φ2 (3 * x + 1) = Ydz φ B a (3 * x + 1)
theorem Ends.at {B : Bd} {φ φ2 : Phi} {a : Act} (h : Ends B φ φ2 a) {p : Nat} (hp : p % 3 = 1) (hl : Ycd p = true) : φ2 p = hB φ B p := by
 have e : p = 3 * (p / 3) + 1 := by omega
 rw [e, h.base, <- e, Yv hl]
theorem Ybe {B : Bd} {φ φ2 : Phi} {a : Act} {base p : Nat} (h : Ends B φ φ2 a) (hp : okP B base p = true) : Ybx φ φ2 base (rhoB B base p) = φ2 p := by
 have fresh : Ybx φ φ2 base (3 * (base + p)) = φ2 p := by
  have h1 : 3 * (base + p) % 3 = 0 /\ base <= 3 * (base + p) / 3 := by omega
  have h2 : 3 * (base + p) / 3 - base = p := by omega
  simp only [Ybx, h1, and_self, if_true, h2]
 unfold okP at hp;unfold rhoB
 split at hp
 ·rename_i i hl;simp only [Bool.and_eq_true, Yd] at hp;rw [hl];dsimp only;rw [Ydj hp.2, h.at hp.1.1 hp.1.2, Yck hl, hdOf]
 ·cases hp
 ·rename_i s hne1 hne2 hl;rw [hl];cases s <;> first | exact fresh | exact (hne1 _ rfl).elim | exact (hne2 _ rfl).elim
 ·rename_i hl;rw [hl];exact fresh
mutual
def outP (B : Bd) (base : Nat) : Pt -> List Ed -> (AV -> List Ed -> Prop) -> Prop
 | .int k, es, K => (match es with | .i n :: es => K (.si k n) es | _ => Stuck 460)
 | .bool, es, K => (match es with | .b x :: es => K (.sb x) es | _ => Stuck 461)
 | .str, es, K => (match es with | .s x :: es => K (.ss x) es | _ => Stuck 462)
 | .lit v, es, K => K (.v v) es
 | .ptr pid k, es, K => Yc (okP B base pid) (Y3 (rhoB B base pid) fun i => K (.ptr i k) es)
 | .row pid, es, K => Yc (okP B base pid) (Y3 (rhoB B base pid) fun i => K (.rw i) es)
 | .rs _, es, K => (match es with | .ro ts r :: es => K (.rs ts r) es | _ => Stuck 463)
 | .mp pid, es, K => Yc (okP B base pid) (Y3 (rhoB B base pid) fun i => K (.mp i) es)
 | .yl pid, es, K => Yc (okP B base pid) (Y3 (rhoB B base pid) fun i => K (.yl i) es)
 | .opq pid, es, K => (match Yfs B pid with
  | some (.val x) => Yc (Nat.beq (pid % 3) 1 && Ycd pid && x.ids (Ygj base) && x.rd) (K x es)
  | some (.id i) => Yc (okP B base pid) (K (.opq i) es)
  | none => Yc (okP B base pid) (Y3 (rhoB B base pid) fun i => K (.opq i) es)
  | _ => Stuck 464)
 | .agg ps, es, K => outL B base ps es fun xs es => K (.agg xs) es
 | .tup ps, es, K => outL B base ps es fun xs es => K (.tup xs) es
 | .fn f a b, es, K => outL B base a es fun xs es => outL B base b es fun ys es => K (.fn f xs ys) es
 | .ifc t p, es, K => outP B base p es fun x es => K (.ifc t x) es
 | .held p, es, K => outP B base p es fun x es => K (.held x) es
 | .sl pid a b c, es, K => Yc (okP B base pid) (Y3 (rhoB B base pid) fun i => K (.sl i a b c) es)
 | .slc pid a b c, es, K => Yc (okP B base pid) (Y3 (rhoB B base pid) fun i => K (.slc i a b c) es)
 | .rwp pid sz, es, K => (match es with | .i l :: .i n :: es => Yc (okP B base pid) (Y3 (rhoB B base pid) fun i => K (.rwp i sz l.toNat n.toNat) es) | _ => Stuck 485)
 | .emp pid, es, K => Yc (okP B base pid) (Y3 (rhoB B base pid) fun i => K (.emp i) es)
def outL (B : Bd) (base : Nat) : List Pt -> List Ed -> (List AV -> List Ed -> Prop) -> Prop
 | [], es, K => K [] es
 | p :: ps, es, K => outP B base p es fun x es => outL B base ps es fun xs es => K (x :: xs) es
end
mutual
theorem Yfn {B : Bd} {base : Nat} : ∀ (p : Pt) (es : List Ed) (K : AV -> List Ed -> Prop), outP B base p es K -> ∃ x y e, K x e /\ insP p es = some (y, e) /\ (∀ (φ φ2 : Phi) (a : Act), Ends B φ φ2 a -> x.conc (Ybx φ φ2 base) = y.conc φ2) /\
  ((x.rd = true /\ y.rd = true) \/ ∃ x' y', x = .held x' /\ y = .held y' /\ ∀ (φ φ2 : Phi) (a : Act), Ends B φ φ2 a -> x'.conc (Ybx φ φ2 base) = y'.conc φ2)
 | .int k, es, K, h => by
  unfold outP at h
  split at h
  ·exact ⟨_, _, _, h, rfl, fun _ _ _ _ => rfl, .inl ⟨rfl, rfl⟩⟩
  ·exact h.elim
 | .bool, es, K, h => by
  unfold outP at h
  split at h
  ·exact ⟨_, _, _, h, rfl, fun _ _ _ _ => rfl, .inl ⟨rfl, rfl⟩⟩
  ·exact h.elim
 | .str, es, K, h => by
  unfold outP at h
  split at h
  ·exact ⟨_, _, _, h, rfl, fun _ _ _ _ => rfl, .inl ⟨rfl, rfl⟩⟩
  ·exact h.elim
 | .lit v, es, K, h => by unfold outP at h; exact ⟨_, _, _, h, rfl, fun _ _ _ _ => rfl, .inl ⟨rfl, rfl⟩⟩
 | .ptr pid k, es, K, h => by
  unfold outP at h;obtain ⟨h1, h2⟩ := Ya h;exact ⟨_, _, _, Yi.1 h2, rfl, fun φ φ2 a he => by simp only [AV.conc, Ybe he h1], .inl ⟨rfl, rfl⟩⟩
 | .row pid, es, K, h => by
  unfold outP at h;obtain ⟨h1, h2⟩ := Ya h;exact ⟨_, _, _, Yi.1 h2, rfl, fun φ φ2 a he => by simp only [AV.conc, Ybe he h1], .inl ⟨rfl, rfl⟩⟩
 | .rs _, es, K, h => by
  unfold outP at h
  split at h
  ·exact ⟨_, _, _, h, rfl, fun _ _ _ _ => rfl, .inl ⟨rfl, rfl⟩⟩
  ·exact h.elim
 | .mp pid, es, K, h => by
  unfold outP at h;obtain ⟨h1, h2⟩ := Ya h;exact ⟨_, _, _, Yi.1 h2, rfl, fun φ φ2 a he => by simp only [AV.conc, Ybe he h1], .inl ⟨rfl, rfl⟩⟩
 | .yl pid, es, K, h => by
  unfold outP at h;obtain ⟨h1, h2⟩ := Ya h;exact ⟨_, _, _, Yi.1 h2, rfl, fun φ φ2 a he => by simp only [AV.conc, Ybe he h1], .inl ⟨rfl, rfl⟩⟩
 | .opq pid, es, K, h => by
  unfold outP at h
  split at h
  ·rename_i x hl;obtain ⟨h1, h2⟩ := Ya h;simp only [Bool.and_eq_true, Yd] at h1;obtain ⟨⟨⟨h11, h12⟩, h13⟩, h14⟩ := h1;refine ⟨_, _, _, h2, rfl, fun φ φ2 a he => ?_, .inl ⟨h14, rfl⟩⟩
   show x.conc (Ybx φ φ2 base) = (φ2 pid).v
   rw [he.at h11 h12, Yck hl, hdOf];exact Yij (fun i hi => Ydj hi) x h13
  ·rename_i i hl;obtain ⟨h1, h2⟩ := Ya h;refine ⟨_, _, _, h2, rfl, fun φ φ2 a he => ?_, .inl ⟨rfl, rfl⟩⟩;have := Ybe he h1;simp only [rhoB, hl] at this;simp only [AV.conc, this]
  ·obtain ⟨h1, h2⟩ := Ya h;exact ⟨_, _, _, Yi.1 h2, rfl, fun φ φ2 a he => by simp only [AV.conc, Ybe he h1], .inl ⟨rfl, rfl⟩⟩
  ·exact h.elim
 | .agg ps, es, K, h => by
  unfold outP at h;obtain ⟨xs, ys, e, h1, h2, h3⟩ := Yda ps es _ h;exact ⟨_, _, _, h1, by unfold insP; rw [h2], fun φ φ2 a he => by simp only [AV.conc, h3 φ φ2 a he], .inl ⟨rfl, rfl⟩⟩
 | .tup ps, es, K, h => by
  unfold outP at h;obtain ⟨xs, ys, e, h1, h2, h3⟩ := Yda ps es _ h;exact ⟨_, _, _, h1, by unfold insP; rw [h2], fun φ φ2 a he => by simp only [AV.conc, h3 φ φ2 a he], .inl ⟨rfl, rfl⟩⟩
 | .fn f p q, es, K, h => by
  unfold outP at h;obtain ⟨xs, ys, e, h1, h2, h3⟩ := Yda p es _ h;obtain ⟨us, vs, e2, k1, k2, k3⟩ := Yda q e _ h1;exact ⟨_, .fn f ys vs, _, k1, by unfold insP; rw [h2]; simp only [k2], fun φ φ2 a he => by simp only [AV.conc, h3 φ φ2 a he, k3 φ φ2 a he], .inl ⟨rfl, rfl⟩⟩
 | .ifc t p, es, K, h => by
  unfold outP at h;obtain ⟨x, y, e, h1, h2, h3, _⟩ := Yfn p es _ h;exact ⟨_, _, _, h1, by unfold insP; rw [h2], fun φ φ2 a he => by simp only [AV.conc, h3 φ φ2 a he], .inl ⟨rfl, rfl⟩⟩
 | .held p, es, K, h => by
  unfold outP at h;obtain ⟨x, y, e, h1, h2, h3, _⟩ := Yfn p es _ h;exact ⟨_, _, _, h1, by unfold insP; rw [h2], fun φ φ2 a he => rfl, .inr ⟨x, y, rfl, rfl, h3⟩⟩
 | .sl pid _ _ _, es, K, h => by
  unfold outP at h;obtain ⟨h1, h2⟩ := Ya h;exact ⟨_, _, _, Yi.1 h2, rfl, fun φ φ2 a he => by simp only [AV.conc, Ybe he h1], .inl ⟨rfl, rfl⟩⟩
 | .slc pid _ _ _, es, K, h => by
  unfold outP at h;obtain ⟨h1, h2⟩ := Ya h;exact ⟨_, _, _, Yi.1 h2, rfl, fun φ φ2 a he => by simp only [AV.conc, Ybe he h1], .inl ⟨rfl, rfl⟩⟩
 | .rwp pid sz, es, K, h => by
  unfold outP at h
  split at h
  ·obtain ⟨h1, h2⟩ := Ya h;exact ⟨_, _, _, Yi.1 h2, rfl, fun φ φ2 a he => by simp only [AV.conc, Ybe he h1], .inl ⟨rfl, rfl⟩⟩
  ·exact h.elim
 | .emp pid, es, K, h => by
  unfold outP at h;obtain ⟨h1, h2⟩ := Ya h;exact ⟨_, _, _, Yi.1 h2, rfl, fun φ φ2 a he => by simp only [AV.conc, Ybe he h1], .inl ⟨rfl, rfl⟩⟩
theorem Yda {B : Bd} {base : Nat} : ∀ (ps : List Pt) (es : List Ed) (K : List AV -> List Ed -> Prop), outL B base ps es K -> ∃ xs ys e, K xs e /\ insL ps es = some (ys, e) /\ ∀ (φ φ2 : Phi) (a : Act), Ends B φ φ2 a -> AV.concL (Ybx φ φ2 base) xs = AV.concL φ2 ys
 | [], es, K, h => by unfold outL at h; exact ⟨_, _, _, h, rfl, fun _ _ _ _ => rfl⟩
 | p :: ps, es, K, h => by
  unfold outL at h;obtain ⟨x, y, e, h1, h2, h3, _⟩ := Yfn p es _ h;obtain ⟨xs, ys, e2, k1, k2, k3⟩ := Yda ps e _ h1;exact ⟨_, y :: ys, _, k1, by unfold insL; rw [h2]; simp only [k2], fun φ φ2 a he => by simp only [AV.concL, h3 φ φ2 a he, k3 φ φ2 a he]⟩
end
def outT (B : Bd) (base : Nat) : List (Nat × Pt) -> List Ed -> (List (Nat × AV) -> List Ed -> Prop) -> Prop
 | [], es, K => K [] es
 | (t, p) :: ps, es, K => outP B base p es fun x es => outT B base ps es fun s es => K ((t, x) :: s) es
def outI (B : Bd) (base : Nat) (p : PI) (es : List Ed) (K : It -> List Ed -> Prop) : Prop :=
 match p with
 | .blk T ps => outL B base ps es fun xs es => K (.blk T xs) es
 | .arr T ts => (match es with | .l xs :: es => K (.arr T ts xs) es | _ => Stuck 465)
 | .row T sz n ps => outL B base ps es fun xs es => K (.row T sz n xs) es
 | .obj x => K (.obj x) es
 | .mpI => (match es with | .m xs :: es => K (.obj (.mpI xs)) es | _ => Stuck 478)
 | .mpP => (match es with | .l xs :: es => K (.obj (.mpP xs)) es | _ => Stuck 478)
 | .lp L ps => outL B base ps es fun xs es => K (.lp L xs) es
 | .dead => K .dead es
 | .nst T ts => (match es with | .l xs :: es => K (.nst T ts xs) es | _ => Stuck 465)
 | .fro ts => (match es with | .l xs :: es => K (.fro ts xs) es | _ => Stuck 465)
def outH (B : Bd) (base : Nat) : List (Nat × PI) -> List Ed -> (Heap -> List Ed -> Prop) -> Prop
 | [], es, K => K [] es
 | (pid, p) :: ps, es, K => Yc (okP B base pid) (outI B base p es fun it es => outH B base ps es fun h es => Y3 (rhoB B base pid) fun i => K ((i, it) :: h) es)
inductive Backs (B : Bd) (base : Nat) : List (Nat × AV) -> List (Nat × AV) -> Prop
 | nil : Backs B base [] []
 | cons {t : Nat} {x y : AV} {s s' : List (Nat × AV)} (hc : ∀ (φ φ2 : Phi) (a : Act), Ends B φ φ2 a -> x.conc (Ybx φ φ2 base) = y.conc φ2)
   (hr : (x.rd = true /\ y.rd = true) \/ ∃ x' y', x = .held x' /\ y = .held y' /\ ∀ (φ φ2 : Phi) (a : Act), Ends B φ φ2 a -> x'.conc (Ybx φ φ2 base) = y'.conc φ2) (h : Backs B base s s') : Backs B base ((t, x) :: s) ((t, y) :: s')
theorem Backs.look {B : Bd} {base : Nat} {s s' : List (Nat × AV)} (h : Backs B base s s') (k : Nat) : (Ycm s k = none /\ Ycm s' k = none) \/ ∃ x y, Ycm s k = some x /\ Ycm s' k = some y /\ (∀ (φ φ2 : Phi) (a : Act), Ends B φ φ2 a -> x.conc (Ybx φ φ2 base) = y.conc φ2) /\
  ((x.rd = true /\ y.rd = true) \/ ∃ x' y', x = .held x' /\ y = .held y' /\ ∀ (φ φ2 : Phi) (a : Act), Ends B φ φ2 a -> x'.conc (Ybx φ φ2 base) = y'.conc φ2) := by
 induction h with
 | nil => exact .inl ⟨rfl, rfl⟩
 | @cons t x y s s' hc hr _ ih =>
  unfold Ycm;cases hb : Nat.beq t k with
  | true => exact .inr ⟨x, y, rfl, rfl, hc, hr⟩
  | false => exact ih
theorem Yp8 {B : Bd} {base : Nat} : ∀ (ps : List (Nat × Pt)) (es : List Ed) (K : List (Nat × AV) -> List Ed -> Prop), outT B base ps es K -> ∃ s s' e, K s e /\ insT ps es = some (s', e) /\ Backs B base s s'
 | [], es, K, h => ⟨[], [], es, h, rfl, .nil⟩
 | (t, p) :: ps, es, K, h => by
  obtain ⟨x, y, e, h1, h2, h3, h4⟩ := Yfn p es _ h;obtain ⟨s, s', e2, k1, k2, k3⟩ := Yp8 ps e _ h1;exact ⟨_, (t, y) :: s', _, k1, by unfold insT; rw [h2]; simp only [k2], .cons h3 h4 k3⟩
theorem Ywn {B : Bd} {base pid : Nat} {p : PI} {es : List Ed} {K : It -> List Ed -> Prop} (h : outI B base p es K) (hp : okP B base pid = true) : ∃ it y e, K it e /\ insI p es = some (y, e) /\ ∀ (φ φ2 : Phi) (a : Act), Ends B φ φ2 a -> it.conc (Ybx φ φ2 base) (rhoB B base pid) = y.conc φ2 pid := by
 cases p with
 | blk T ps =>
  obtain ⟨xs, ys, e, h1, h2, h3⟩ := Yda _ es _ h;exact ⟨_, .blk T ys, _, h1, by unfold insI; simp only [h2], fun φ φ2 a he => by simp only [It.conc, h3 φ φ2 a he, Ybe he hp]⟩
 | arr T ts =>
  unfold outI at h;dsimp only at h
  split at h
  ·exact ⟨_, _, _, h, rfl, fun φ φ2 a he => by simp only [It.conc, Ybe he hp]⟩
  ·exact h.elim
 | row T sz n ps =>
  obtain ⟨xs, ys, e, h1, h2, h3⟩ := Yda _ es _ h;exact ⟨_, .row T sz n ys, _, h1, by unfold insI; simp only [h2], fun φ φ2 a he => by simp only [It.conc, h3 φ φ2 a he, Ybe he hp]⟩
 | obj x => exact ⟨_, .obj x, _, h, rfl, fun φ φ2 a he => by simp only [It.conc, Ybe he hp]⟩
 | mpI =>
  unfold outI at h;dsimp only at h
  split at h
  ·exact ⟨_, _, _, h, rfl, fun φ φ2 a he => by simp only [It.conc, Ybe he hp]⟩
  ·exact h.elim
 | mpP =>
  unfold outI at h;dsimp only at h
  split at h
  ·exact ⟨_, _, _, h, rfl, fun φ φ2 a he => by simp only [It.conc, Ybe he hp]⟩
  ·exact h.elim
 | lp L ps =>
  obtain ⟨xs, ys, e, h1, h2, h3⟩ := Yda _ es _ h;exact ⟨_, .lp L ys, _, h1, by unfold insI; simp only [h2], fun φ φ2 a he => by simp only [It.conc, h3 φ φ2 a he, Ybe he hp]⟩
 | dead => exact ⟨_, .dead, _, h, rfl, fun φ φ2 a he => rfl⟩
 | nst T ts =>
  unfold outI at h;dsimp only at h
  split at h
  ·exact ⟨_, _, _, h, rfl, fun φ φ2 a he => by simp only [It.conc, Ybe he hp]⟩
  ·exact h.elim
 | fro ts =>
  unfold outI at h;dsimp only at h
  split at h
  ·exact ⟨_, _, _, h, rfl, fun φ φ2 a he => by simp only [It.conc, Ybe he hp]⟩
  ·exact h.elim
theorem Yk6 {B : Bd} {base : Nat} : ∀ (ps : List (Nat × PI)) (es : List Ed) (K : Heap -> List Ed -> Prop), outH B base ps es K -> ∃ h h' e, K h e /\ insH ps es = some (h', e) /\ ∀ (φ φ2 : Phi) (a : Act), Ends B φ φ2 a -> Yb (Ybx φ φ2 base) h = Yb φ2 h'
 | [], es, K, h => ⟨[], [], es, h, rfl, fun _ _ _ _ => rfl⟩
 | (pid, p) :: ps, es, K, h => by
  obtain ⟨hp, h⟩ := Ya h;obtain ⟨it, y, e, h1, h2, h3⟩ := Ywn h hp;obtain ⟨s, s', e2, k1, k2, k3⟩ := Yk6 ps e _ h1;refine ⟨_, (pid, y) :: s', _, Yi.1 k1, by unfold insH; rw [h2]; simp only [k2], fun φ φ2 a he => ?_⟩;have := k3 φ φ2 a he;simp only [Yb, List.map_cons, h3 φ φ2 a he] at this ⊢;rw [this]
def Ykn (s : List (Nat × AV)) (J : List Nat) : List AV -> Nat -> (List AV -> Prop) -> Prop
 | [], _, K => K []
 | x :: xs, t, K => match Ycm s t with
  | some y => Ykn s J xs (t + 1) fun r => K (y :: r)
  | none => (match inL t J with | true => Ykn s J xs (t + 1) fun r => K (.junk :: r) | false => Ykn s J xs (t + 1) fun r => K (x :: r))
theorem Ykm {s : List (Nat × AV)} {J : List Nat} : ∀ {xs : List AV} {t : Nat} {K : List AV -> Prop}, Ykn s J xs t K -> ∃ r, K r /\ r.length = xs.length /\ ∀ (k : Nat) (x : AV), xs[k]? = some x -> r[k]? = some (match Ycm s (t + k) with | some y => y | none => (match inL (t + k) J with | true => .junk | false => x))
 | [], t, K, h => ⟨[], h, rfl, fun k x hx => by simp at hx⟩
 | z :: xs, t, K, h => by
  have go : ∀ y, (Ykn s J xs (t + 1) fun r => K (y :: r)) -> (y = match Ycm s t with | some y => y | none => (match inL t J with | true => .junk | false => z)) -> ∃ r, K r /\ r.length = (z :: xs).length /\ ∀ (k : Nat) (x : AV), (z :: xs)[k]? = some x -> r[k]? = some (match Ycm s (t + k) with | some y => y | none => (match inL (t + k) J with | true => .junk | false => x)) := fun y hy e => by
   obtain ⟨r, h1, h2, h3⟩ := Ykm hy;refine ⟨y :: r, h1, by simp [h2], fun k x hx => ?_⟩;cases k with
   | zero =>
    simp only [List.getElem?_cons_zero, Option.some.injEq] at hx;subst hx;simp only [List.getElem?_cons_zero, Nat.add_zero, e]
   | succ k =>
    have := h3 k x (by simpa using hx);rw [show t + (k + 1) = t + 1 + k by omega];simpa using this
  unfold Ykn at h
  split at h
  ·rename_i y hy;exact go y h (by rw [hy])
  ·rename_i hn
   split at h
   ·rename_i hj; exact go _ h (by rw [hn, hj])
   ·rename_i hj; exact go _ h (by rw [hn, hj])
def Ynn (base : Nat) : List AV -> Bool
 | [] => true
 | x :: xs => x.ids (Ygj base) && Ynn base xs
def hOld (base : Nat) : Heap -> Bool
 | [] => true
 | p :: h => Ygj base p.1 && p.2.ids (Ygj base) && hOld base h
theorem Ynm {base : Nat} : ∀ {xs : List AV}, Ynn base xs = true -> ∀ x ∈ xs, x.ids (Ygj base) = true
 | [], _, x, hx => by cases hx
 | y :: ys, h, x, hx => by
  simp only [Ynn, Bool.and_eq_true] at h;rcases List.mem_cons.1 hx with rfl | hx
  ·exact h.1
  ·exact Ynm h.2 x hx
theorem Yqx {base : Nat} {φ φ2 : Phi} : ∀ {h : Heap}, hOld base h = true -> Yb (Ybx φ φ2 base) h = Yb φ h
 | [], _ => rfl
 | p :: h, hh => by
  simp only [hOld, Bool.and_eq_true] at hh;have := Yqx (φ := φ) (φ2 := φ2) hh.2;simp only [Yb, List.map_cons, Ysx (p := Ygj base) (fun i hi => Ydj hi) hh.1.1 p.2 hh.1.2] at this ⊢;rw [this]
theorem Yro {B : Bd} {base len : Nat} {tm tm' : List AV} {rest hO hI : Heap} {s s' : List (Nat × AV)} {J : List Nat} (hlen : tm.length = len) (hback : Backs B base s s') (htm : tm'.length = tm.length /\ ∀ (k : Nat) (x : AV), tm[k]? = some x -> tm'[k]? = some (match Ycm s k with | some y => y | none => (match inL k J with | true => .junk | false => x)))
  (hheld : ∀ (k : Nat) (x : AV), tm[k]? = some x -> x.isHeld = true -> ∃ y, Ycm s k = some y) (hold : Ynn base tm = true) (hrest : hOld base rest = true) (hH : ∀ (φ φ2 : Phi) (a : Act), Ends B φ φ2 a -> Yb (Ybx φ φ2 base) hO = Yb φ2 hI) (hnd : (keys (rest ++ hO)).Nodup)
  {φ0 φ φ2 : Phi} {w0 : World} {M : List Nat} {R : RL} {a a' : Act} {w w' : World} {hp : Heap} (hr : RepS φ0 φ w0 M R tm hp a w) (hr2 : RepS (Yue (Ydz φ B a)) φ2 w0 M (Yb φ rest ++ R) (Ydy len s' J) hI a' w') :
  RepS φ0 (Ybx φ φ2 base) w0 M R tm' (rest ++ hO) a' w' := by
 have he : Ends B φ φ2 a := ⟨fun x => hr2.base x⟩;refine ⟨?_, ?_, hnd, fun x => ?_⟩
 ·refine hr2.tmps.as (by rw [Ydy, Yc3, htm.1, hlen]) fun k x y hx hy => ?_;rw [Ydy, Ydp, Nat.zero_add] at hx
  split at hx
  ·rename_i hk;have hx0 := hx;have hget : (Ydy len s' J)[k]? = some x := by rw [Ydy, Ydp, if_pos hk, Nat.zero_add]; exact hx0
   simp only [Option.some.injEq] at hx;have hk2 : k < tm.length := by omega
   have hz := htm.2 k tm[k] (List.getElem?_eq_getElem hk2);rw [hy] at hz;simp only [Option.some.injEq] at hz;rcases hback.look k with ⟨h1, h2⟩ | ⟨u, v, h1, h2, h3, h4⟩
   ·rw [h2] at hx;rw [h1] at hz;dsimp only at hx hz;have hnh : tm[k].isHeld = false := by
     cases hd : tm[k].isHeld with
     | false => rfl
     | true => obtain ⟨q, hq⟩ := hheld k _ (List.getElem?_eq_getElem hk2) hd; rw [h1] at hq; cases hq
    cases hj : inL k J with
    | true =>
     rw [hj] at hx hz;subst hx; subst hz;exact .inl ⟨rfl, rfl, fun h => by cases h⟩
    | false =>
     rw [hj] at hx hz;subst hx; subst hz;refine .inl ⟨rfl, hnh, fun hrd => ?_⟩;have e1 := hr2.tmps.slot k _ hget rfl;have e2 := hr.tmps.slot k _ (List.getElem?_eq_getElem hk2) hrd;rw [e1, Yij (p := Ygj base) (fun i hi => Ydj hi) _ (Ynm hold _ (List.getElem_mem hk2))]
     show some (φ2 (oid k)).v = some (tm[k].conc φ)
     have e3 : φ2 (oid k) = Ydz φ B a (oid k) := he.base (1000 + k);rw [e3, Yp4];simp [Array.getD_eq_getD_getElem?, e2]
   ·rw [h2] at hx;rw [h1] at hz;dsimp only at hx hz;subst hx; subst hz;rcases h4 with ⟨h5, h6⟩ | ⟨u', v', rfl, rfl, h5⟩
    ·exact .inl ⟨Yu1 h6, Yu1 h5, fun _ => by rw [h3 φ φ2 a he]; exact hr2.tmps.slot k _ hget h6⟩
    ·exact .inr ⟨_, _, rfl, rfl, h5 φ φ2 a he⟩
  ·cases hx
 ·rw [Yl, Yqx hrest, hH φ φ2 a he];have := hr2.st;refine this.perm ?_;rw [<- List.append_assoc];exact List.perm_append_comm.append_right R
 ·have e : Ygj base (3 * x + 1) = true := by
   unfold Ygj;rw [Yz.2 (by omega : (3 * x + 1) % 3 ≠ 0)]
  rw [Ydj e];exact hr.base x
end
end Go.Proofs.YtbhlmkgliflhaaaGreat
namespace Go.Proofs.YtbhlmkgliflhaaaGreat
open Go.RowKit
attribute [local irreducible] Go.Oper.wp
inductive OK where
 | norm
 | exit (i : Nat)
 | ret
 | pan (v : Value)
structure Out where
 kind : OK
 T : List (Nat × Pt)
 H : List (Nat × PI)
 junk : List Nat
structure LC where
 len : Nat
 T : List (Nat × Pt)
 H : List (Nat × PI)
 W : List Nat
 outs : List Out
 spec : [InW] -> List Ed -> (Nat -> List Ed -> Prop) -> Prop
section
variable [W : InW]
def OK.ax : OK -> AX
 | .norm => .norm
 | .exit i => .exit i
 | .ret => .ret
 | .pan v => .pan (.v v)
def LoopC (P : Program) (a : Code) (lc : LC) : Prop :=
 ∀ s ys e1 e2, Ymj lc.T s e1 -> Yhi lc.H ys e2 -> ∀ K, lc.spec (e1 ++ e2) K -> ∃ j e o s' r ys', K j e /\ lc.outs[j]? = some o /\ insT o.T e = some (s', r) /\ insH o.H r = some (ys', []) /\
  BigT (fun Q ac w => InLoop P a Q ac w) (Ydy lc.len s lc.W) ys o.kind.ax (Ydy lc.len s' o.junk) ys'
def maxL : List Nat -> Nat -> Nat
 | [], m => m
 | i :: is, m => match Nat.ble i m with | true => maxL is m | false => maxL is i
def Yox (tm : List AV) (hp : Heap) : List Nat := AV.leadL tm (Y1i hp (hp.map (·.1)))
def Ytw (lc : LC) (tm : List AV) (hp : Heap) (K : KX) : Prop :=
 Yc (lenB tm lc.len) (Y0r lc.T lc.H tm hp fun s ys B rest es => Y3 (maxL (Yox tm hp) 1024) fun base =>
  Yc (Ynn base tm && hOld base rest) (lc.spec es fun j e => match lc.outs[j]? with
   | none => Stuck 470
   | some o => outT B base o.T e fun s' r => outH B base o.H r fun hO r => (match r with
    | _ :: _ => Stuck 471
    | [] => Yc (Yjq s' tm 0 && Yeh ((rest ++ hO).map (·.1))) (Ykn s' o.junk tm 0 fun tm' => appK rest hO fun hp' => K o.kind.ax tm' hp'))))
theorem Yso {P : Program} {a : Code} {lc : LC} (hc : LoopC P a lc) : Yma P a (Ytw lc) := by
 intro tm hp K h;obtain ⟨hlen, h⟩ := Ya h;have hlen := Y6 hlen;obtain ⟨s, ys, B, rest, e1, e2, h1, h2, h3, h4, h5, h6, h7, h8⟩ := Ys2 h;have h1 := Yi.1 h1;generalize maxL (Yox tm hp) 1024 = base at h1;obtain ⟨hb, h1⟩ := Ya h1;rw [Bool.and_eq_true] at hb;obtain ⟨j, e, o, s', r, ys', k1, k2, k3, k4, k5⟩ := hc s ys e1 e2 h2 h3 _ h1;rw [k2] at k1;obtain ⟨sO, s2, r2, m1, m2, m3⟩ := Yp8 _ _ _ k1;rw [k3] at m2;cases m2;obtain ⟨hO, h2', r3, n1, n2, n3⟩ := Yk6 _ _ _ m1;rw [k4] at n2;cases n2;dsimp only at n1;obtain ⟨hnd, n1⟩ := Ya n1;rw [Bool.and_eq_true] at hnd;have hhe : ∀ (k : Nat) (x : AV), tm[k]? = some x -> x.isHeld = true -> ∃ y, Ycm sO k = some y := fun k x hx hh => by
  have := Yhc hnd.1 k x hx hh;rwa [Nat.zero_add] at this
 obtain ⟨tm', p1, p2, p3⟩ := Ykm n1;have p4 := Ycb.1 p1;refine ⟨o.kind.ax, tm', rest ++ hO, p4, fun φ0 φ w0 M R ac w hr Q kk => ?_⟩;have hin := h8 φ0 φ w0 M R ac w hr;rw [hlen] at hin;have hin2 : RepS (Yue (Ydz φ B ac)) (Ydz φ B ac) w0 M (Yb φ rest ++ R) (Ydy lc.len s lc.W) ys ac w := ⟨hin.tmps.forget, hin.st, hin.nd, hin.base⟩;refine k5 _ _ w0 M _ ac w hin2 Q fun φ2 x a' w' hx hr2 => ?_;have hx2 : ∀ φ, o.kind.ax.is φ x := fun φ => by
  cases hk : o.kind <;> rw [hk] at hx <;> exact hx
 exact kk _ x a' w' (hx2 _) (Yro hlen m3 ⟨p2, fun k x hx => by have := p3 k x hx; rwa [Nat.zero_add] at this⟩ hhe hb.1 hb.2 n3 (Ybg hnd.2) hr hr2)
def Ysp (lc : LC) (tm : List AV) (hp : Heap) (K : KX) : Prop := Yl3 lc.T tm hp fun hp => Ytw lc tm hp K
theorem Yvb {P : Program} {a : Code} {lc : LC} (hc : LoopC P a lc) : Yma P a (Ysp lc) := by
 intro tm hp K h;obtain ⟨hp1, h1, h2⟩ := Ydw h;obtain ⟨x, tm', hp', h3, h4⟩ := Yso hc tm hp1 K h1;exact ⟨x, tm', hp', h3, fun φ0 φ w0 M R ac w hr Q kk => h4 φ0 φ w0 M R ac w (h2 φ0 φ w0 M R tm ac w hr) Q kk⟩
def Y2g : OK -> AX -> Bool
 | .norm, .norm => true
 | .exit i, .exit j => Nat.beq i j
 | .ret, .ret => true
 | .pan v, .pan (.v u) => Ycg u v
 | _, _ => false
def Yqq : List Out -> Nat -> AX -> List AV -> Heap -> (Nat -> List Ed -> Prop) -> Prop
 | [], _, _, _, _, _ => Stuck 472
 | o :: os, j, x, tm, hp, Q => match Y2g o.kind x with
  | true => fitK o.T o.H o.junk tm hp fun e => Q j e
  | false => Yqq os (j + 1) x tm hp Q
def Yth (lc : LC) (Again : List Ed -> Prop) (Q : Nat -> List Ed -> Prop) (x : AX) (tm : List AV) (hp : Heap) : Prop :=
 Yc (lenB tm lc.len) (match x with
 | .norm => fitK lc.T lc.H lc.W tm hp Again
 | x => Yqq lc.outs 0 x tm hp Q)
theorem Ylf : ∀ {os : List Out} {j : Nat} {x : AX} {tm : List AV} {hp : Heap} {Q : Nat -> List Ed -> Prop}, Yqq os j x tm hp Q -> ∃ (k : Nat) (o : Out) (s : List (Nat × AV)) (ys : Heap) (e1 e2 : List Ed), Q (j + k) (e1 ++ e2) /\ os[k]? = some o /\ o.kind.ax = x /\ insT o.T (e1 ++ e2) = some (s, e2) /\ insH o.H e2 = some (ys, []) /\
  ∀ (φ0 φ : Phi) (w0 : World) (M : List Nat) (R : RL) (a : Act) (w : World), RepS φ0 φ w0 M R tm hp a w -> ∃ φ2, RepS φ0 φ2 w0 M R (Ydy tm.length s o.junk) ys a w
 | [], _, _, _, _, _, h => h.elim
 | o :: os, j, x, tm, hp, Q, h => by
  unfold Yqq at h
  split at h
  ·rename_i hk;obtain ⟨s, ys, e1, e2, h1, h2, h3, h4⟩ := Yqz h;refine ⟨0, o, s, ys, e1, e2, h1, rfl, ?_, Yxi _ _ _ _ h2, by have := Ylj _ _ _ [] h3; rwa [List.append_nil] at this, h4⟩;unfold Y2g at hk
   split at hk <;> first | (rename_i h1; rw [h1]; rfl) | skip
   ·rename_i i j h1; rw [h1, Yd.1 hk]; rfl
   ·rename_i v u h1; rw [h1, Ydh _ _ hk]; rfl
   ·cases hk
  ·obtain ⟨k, o', s, ys, e1, e2, h1, h2, h3⟩ := Ylf h;exact ⟨k + 1, o', s, ys, e1, e2, by rw [show j + (k + 1) = j + 1 + k by omega]; exact h1, by simpa using h2, h3⟩
theorem LoopC.of {c : Cx} (hcL : HandOkL c) (hm : c.P.follows .mixedOrders = true) (n : Nat) {root : Code} (hroot : (c.P.funcs[c.fn]?).bind (·.body) = some root) {a : Code} (hsub : Sub root (.loop a)) {lc : LC} (meas : List Ed -> Nat)
  (hb : ∀ s ys e1 e2, Ymj lc.T s e1 -> Yhi lc.H ys e2 -> ∀ K, lc.spec (e1 ++ e2) K -> Ye9 c n a (Ydy lc.len s lc.W) ys (Yth lc (fun e => meas e < meas (e1 ++ e2) /\ lc.spec e K) K)) : LoopC c.P a lc := by
 have key : ∀ m s ys e1 e2, meas (e1 ++ e2) = m -> Ymj lc.T s e1 -> Yhi lc.H ys e2 -> ∀ K, lc.spec (e1 ++ e2) K -> ∃ j e o s' r ys', K j e /\ lc.outs[j]? = some o /\ insT o.T e = some (s', r) /\ insH o.H r = some (ys', []) /\
   BigT (fun Q ac w => InLoop c.P a Q ac w) (Ydy lc.len s lc.W) ys o.kind.ax (Ydy lc.len s' o.junk) ys' := by
  intro m
  induction m using Nat.strongRecOn with
  | _ m ih =>
   intro s ys e1 e2 hme hT hH K hs;obtain ⟨x, tm1, hp1, h1, h2⟩ := Ygt hcL hm n hroot a hsub.loop _ _ _ (hb s ys e1 e2 hT hH K hs);have out : Yqq lc.outs 0 x tm1 hp1 K -> (∀ φ e, x.is φ e -> e ≠ .normal) -> tm1.length = lc.len -> ∃ j e o s' r ys', K j e /\ lc.outs[j]? = some o /\ insT o.T e = some (s', r) /\ insH o.H r = some (ys', []) /\
     BigT (fun Q ac w => InLoop c.P a Q ac w) (Ydy lc.len s lc.W) ys o.kind.ax (Ydy lc.len s' o.junk) ys' := fun h hne hlen => by
    obtain ⟨k, o, s', ys', f1, f2, g1, g2, g3, g4, g5, g6⟩ := Ylf h;rw [Nat.zero_add] at g1;refine ⟨k, _, o, s', _, ys', g1, g2, g4, g5, fun φ0 φ w0 M R ac w hr Q kk => InLoop.round (h2 φ0 φ w0 M R ac w hr _ fun φ2 e a' w' hx hr2 => ?_)⟩;have he := hne φ2 e hx;obtain ⟨φ3, hr3⟩ := g6 φ0 φ2 w0 M R a' w' hr2;rw [hlen] at hr3;have hx3 : o.kind.ax.is φ3 e := by
     rw [g3];have : o.kind.ax.is φ2 e := by rw [g3]; exact hx
     rw [<- g3];cases hk : o.kind <;> rw [hk] at this <;> exact this
    cases e <;> first | exact absurd rfl he | exact kk φ3 _ a' w' hx3 hr3
   unfold Yth at h1;obtain ⟨hlen, h1⟩ := Ya h1;have hlen := Y6 hlen
   split at h1
   ·obtain ⟨s2, ys2, f1, f2, g1, g2, g3, g4⟩ := Yqz h1;obtain ⟨j, e, o, s', r, ys', k1, k2, k3, k4, k5⟩ := ih _ (hme ▸ g1.1) s2 ys2 f1 f2 rfl g2 g3 K g1.2;refine ⟨j, e, o, s', r, ys', k1, k2, k3, k4, fun φ0 φ w0 M R ac w hr Q kk => InLoop.round (h2 φ0 φ w0 M R ac w hr _ fun φ2 e2 a' w' hx hr2 => ?_)⟩;obtain ⟨φ3, hr3⟩ := g4 φ0 φ2 w0 M R a' w' hr2;rw [hlen] at hr3;cases hx;exact k5 φ0 φ3 w0 M R a' w' hr3 Q kk
   ·rename_i hnn;refine out h1 (fun φ e hx he => ?_) hlen;subst he;cases x <;> first | exact hnn rfl | cases hx | exact hx.elim | skip
 intro s ys e1 e2 hT hH K hs;exact key _ s ys e1 e2 rfl hT hH K hs
end
end Go.Proofs.YtbhlmkgliflhaaaGreat
namespace Go.Proofs.YtbhlmkgliflhaaaGreat
open Go.RowKit
attribute [local irreducible] Go.Oper.wp
theorem Sub.trans {a b c : Code} (h1 : Sub a b) (h2 : Sub b c) : Sub a c := by
 induction h2 with
 | refl => exact h1
 | seqL _ ih => exact ih.seqL
 | seqR _ ih => exact ih.seqR
 | condL _ ih => exact ih.condL
 | condR _ ih => exact ih.condR
 | block _ ih => exact ih.block
 | loop _ ih => exact ih.loop
 | scope _ ih => exact ih.scope
theorem Yb2 : ∀ {body a : Code}, a ∈ Yw body -> Sub body (.loop a)
 | .seq x y, a, h => by
  simp only [Yw, List.mem_append] at h;rcases h with h | h
  ·exact Sub.trans (.seqL .refl) (Yb2 h)
  ·exact Sub.trans (.seqR .refl) (Yb2 h)
 | .cond _ x y, a, h => by
  simp only [Yw, List.mem_append] at h;rcases h with h | h
  ·exact Sub.trans (.condL .refl) (Yb2 h)
  ·exact Sub.trans (.condR .refl) (Yb2 h)
 | .block _ x, a, h => Sub.trans (.block .refl) (Yb2 (by simpa [Yw] using h))
 | .loop x, a, h => by
  simp only [Yw, List.mem_cons] at h;rcases h with rfl | h
  ·exact .refl
  ·exact Sub.trans (.loop .refl) (Yb2 h)
 | .scope x, a, h => Sub.trans (.scope .refl) (Yb2 (by simpa [Yw] using h))
 | .region _ _ _, a, h => by simp [Yw] at h
 | .exit _, a, h => by simp [Yw] at h
 | .ret, a, h => by simp [Yw] at h
 | .skip, a, h => by simp [Yw] at h
def Yqt (k : Nat) : List Code -> List Code
 | [] => []
 | a :: bs => match Nat.beq (Yfu a) k with | true => a :: Yqt k bs | false => Yqt k bs
theorem Ylh {k : Nat} : ∀ {bs : List Code} {a : Code}, a ∈ bs -> Yfu a = k -> a ∈ Yqt k bs
 | b :: bs, a, h, hk => by
  unfold Yqt;rcases List.mem_cons.1 h with rfl | h
  ·have e : Nat.beq (Yfu a) k = true := by subst hk; exact Nat.beq_refl _
   rw [e]; simp
  ·split
   ·exact List.mem_cons_of_mem _ (Ylh h hk)
   ·exact Ylh h hk
theorem Ylg {k : Nat} : ∀ {bs : List Code} {a : Code}, a ∈ Yqt k bs -> a ∈ bs
 | b :: bs, a, h => by
  unfold Yqt at h
  split at h
  ·rcases List.mem_cons.1 h with rfl | h
   ·simp
   ·exact List.mem_cons_of_mem _ (Ylg h)
  ·exact List.mem_cons_of_mem _ (Ylg h)
def Yjt (P : Program) (g : FuncId) : Code := ((P.funcs[g]?).bind (·.body)).getD .skip
def Yey (P : Program) (g : FuncId) (k : Nat) : List Code := Yqt k (Yw (Yjt P g))
def Ynh (P : Program) (g : FuncId) (k : Nat) : Code := (Yey P g k).headD .skip
theorem Yw9 {P : Program} {g : FuncId} {key : Nat} (h1 : (match Yey P g key with | [_] => true | _ => false) = true) : (∀ (body a : Code), (P.funcs[g]?).bind (·.body) = some body -> a ∈ Yw body -> Yfu a = key -> a = Ynh P g key) /\ Sub (Yjt P g) (.loop (Ynh P g key)) := by
 have key1 : ∃ x, Yey P g key = [x] := by
  revert h1
  split
  ·rename_i x h; exact fun _ => ⟨x, h⟩
  ·exact fun h => by cases h
 obtain ⟨x, hx⟩ := key1;have hl : Ynh P g key = x := by unfold Ynh; rw [hx]; rfl
 refine ⟨fun body a hb ha hk => ?_, ?_⟩
 ·have e : Yjt P g = body := by unfold Yjt; rw [hb]; rfl
  have h2 : a ∈ Yey P g key := Ylh (by rw [e]; exact ha) hk;rw [hx] at h2;rw [hl];simpa using h2
 ·rw [hl];refine Yb2 (Ylg (k := key) ?_)
  show x ∈ Yey P g key
  rw [hx]; simp
theorem Yxg {P : Program} {g : FuncId} {key : Nat} (h1 : (match Yey P g key with | [_] => true | _ => false) = true) : (P.funcs[g]?).bind (·.body) = some (Yjt P g) := by
 unfold Yjt;cases hb : (P.funcs[g]?).bind (·.body) with
 | some b => rfl
 | none =>
  unfold Yey Yjt at h1;rw [hb] at h1;simp [Yw, Yqt] at h1
theorem LE.okOf {P : Program} (tt : (W : InW) -> @Tr (@TI W)) (ht : ∀ W : InW, @TabOk W P (tt W)) (hm : P.follows .mixedOrders = true) (T : Tab P) (n m : Nat) {g : FuncId} {key : Nat} (h1 : (match Yey P g key with | [_] => true | _ => false) = true) (lc : LC) (meas : (W : InW) -> List (@Ed W) -> Nat)
  (hb : ∀ (W : InW) (s : List (Nat × @AV W)) (ys : @Heap W) (e1 e2 : List (@Ed W)), @Ymj W lc.T s e1 -> @Yhi W lc.H ys e2 -> ∀ K, @LC.spec lc W (e1 ++ e2) K -> @Ye9 W { @cxT W P (tt W) T n m with fn := g } n (Ynh P g key) (@Ydy W lc.len s lc.W) ys (@Yth W lc (fun e => meas W e < meas W (e1 ++ e2) /\ @LC.spec lc W e K) K)) :
  ∀ (W : InW) (body a : Code), (P.funcs[g]?).bind (·.body) = some body -> a ∈ Yw body -> Yfu a = key -> @Yma W P a (@Ysp W lc) := by
 intro W body a hbd ha hk;obtain ⟨h2, h3⟩ := Yw9 h1;rw [h2 body a hbd ha hk];refine Yvb ?_;have hP := Yye P (tt W) T n m;have hL := (Yre (T := T) (ht W) hm n m).at g;have := LoopC.of (c := { @cxT W P (tt W) T n m with fn := g }) hL (by rw [show ({ @cxT W P (tt W) T n m with fn := g } : Cx).P = P from hP]; exact hm) n (root := Yjt P g) (by
  show ((cxT P (tt W) T n m).P.funcs[g]?).bind (·.body) = _
  rw [hP]; exact Yxg h1) h3 (lc := lc) (meas W) (hb W)
 rw [show ({ @cxT W P (tt W) T n m with fn := g } : Cx).P = P from hP] at this;exact this
end Go.Proofs.YtbhlmkgliflhaaaGreat
namespace Go.Proofs.YtbhlmkgliflhaaaGreat
open Go.RowKit
attribute [local irreducible] Go.Oper.wp
section
variable [W : InW]
mutual
def AllP : Pt -> (AV -> List Ed -> Prop) -> Prop
 | .int k, M => ∀ n, M (.si k n) [.i n]
 | .bool, M => ∀ b, M (.sb b) [.b b]
 | .str, M => ∀ s, M (.ss s) [.s s]
 | .lit v, M => M (.v v) []
 | .ptr pid k, M => M (.ptr pid k) []
 | .row pid, M => M (.rw pid) []
 | .rs ts, M => ∀ r : Ro ts, M (.rs ts r) [.ro ts r]
 | .mp pid, M => M (.mp pid) []
 | .yl pid, M => M (.yl pid) []
 | .opq pid, M => M (.opq pid) []
 | .agg ps, M => AllL ps fun xs es => M (.agg xs) es
 | .tup ps, M => AllL ps fun xs es => M (.tup xs) es
 | .fn f a b, M => AllL a fun xs e1 => AllL b fun ys e2 => M (.fn f xs ys) (e1 ++ e2)
 | .ifc t p, M => AllP p fun y es => M (.ifc t y) es
 | .held p, M => AllP p fun y es => M (.held y) es
 | .sl pid a b c, M => M (.sl pid a b c) []
 | .slc pid a b c, M => M (.slc pid a b c) []
 | .rwp pid sz, M => ∀ l n : Nat, M (.rwp pid sz l n) [.i l, .i n]
 | .emp pid, M => M (.emp pid) []
def AllL : List Pt -> (List AV -> List Ed -> Prop) -> Prop
 | [], M => M [] []
 | p :: ps, M => AllP p fun x e1 => AllL ps fun xs e2 => M (x :: xs) (e1 ++ e2)
end
mutual
theorem Yil : ∀ {p : Pt} {M : AV -> List Ed -> Prop} {x : AV} {es : List Ed}, AllP p M -> Ymk p x es -> M x es
 | .int k, M, _, _, h, ⟨n, rfl, rfl⟩ => h n
 | .bool, M, _, _, h, ⟨n, rfl, rfl⟩ => h n
 | .str, M, _, _, h, ⟨n, rfl, rfl⟩ => h n
 | .lit v, M, _, _, h, ⟨rfl, rfl⟩ => h
 | .ptr pid k, M, _, _, h, ⟨rfl, rfl⟩ => h
 | .row pid, M, _, _, h, ⟨rfl, rfl⟩ => h
 | .rs ts, M, _, _, h, ⟨r, rfl, rfl⟩ => h r
 | .mp pid, M, _, _, h, ⟨rfl, rfl⟩ => h
 | .yl pid, M, _, _, h, ⟨rfl, rfl⟩ => h
 | .opq pid, M, _, _, h, ⟨rfl, rfl⟩ => h
 | .agg ps, M, _, es, h, ⟨xs, rfl, hi⟩ => Ycl (M := fun xs es => M (.agg xs) es) h hi
 | .tup ps, M, _, es, h, ⟨xs, rfl, hi⟩ => Ycl (M := fun xs es => M (.tup xs) es) h hi
 | .fn f a b, M, _, _, h, ⟨xs, ys, e1, e2, rfl, rfl, h1, h2⟩ => Ycl (M := fun ys e2 => M (.fn f xs ys) (e1 ++ e2)) (Ycl (M := fun xs e1 => AllL b fun ys e2 => M (.fn f xs ys) (e1 ++ e2)) h h1) h2
 | .ifc t p, M, _, es, h, ⟨y, rfl, hi⟩ => Yil (M := fun y es => M (.ifc t y) es) h hi
 | .held p, M, _, es, h, ⟨y, rfl, hi⟩ => Yil (M := fun y es => M (.held y) es) h hi
 | .sl pid _ _ _, M, _, _, h, ⟨rfl, rfl⟩ => h
 | .slc pid _ _ _, M, _, _, h, ⟨rfl, rfl⟩ => h
 | .rwp pid _, M, _, _, h, ⟨l, n, rfl, rfl⟩ => h l n
 | .emp pid, M, _, _, h, ⟨rfl, rfl⟩ => h
theorem Ycl : ∀ {ps : List Pt} {M : List AV -> List Ed -> Prop} {xs : List AV} {es : List Ed}, AllL ps M -> Yj0 ps xs es -> M xs es
 | [], M, _, _, h, ⟨rfl, rfl⟩ => h
 | p :: ps, M, _, _, h, ⟨x, xs, e1, e2, rfl, rfl, h1, h2⟩ => Ycl (M := fun xs e2 => M (x :: xs) (e1 ++ e2)) (Yil (M := fun x e1 => AllL ps fun xs e2 => M (x :: xs) (e1 ++ e2)) h h1) h2
end
def AllI (p : PI) (M : It -> List Ed -> Prop) : Prop :=
 match p with
 | .blk T ps => AllL ps fun xs es => M (.blk T xs) es
 | .arr T ts => ∀ xs, M (.arr T ts xs) [.l xs]
 | .row T sz n ps => AllL ps fun xs es => M (.row T sz n xs) es
 | .obj x => M (.obj x) []
 | .mpI => ∀ xs, M (.obj (.mpI xs)) [.m xs]
 | .mpP => ∀ xs, M (.obj (.mpP xs)) [.l xs]
 | .lp L ps => AllL ps fun xs es => M (.lp L xs) es
 | .dead => M .dead []
 | .nst T ts => ∀ xs, M (.nst T ts xs) [.l xs]
 | .fro ts => ∀ xs, M (.fro ts xs) [.l xs]
def AllH : List (Nat × PI) -> (Heap -> List Ed -> Prop) -> Prop
 | [], M => M [] []
 | p :: ps, M => AllI p.2 fun it e1 => AllH ps fun h e2 => M ((p.1, it) :: h) (e1 ++ e2)
def AllT : List (Nat × Pt) -> (List (Nat × AV) -> List Ed -> Prop) -> Prop
 | [], M => M [] []
 | p :: ps, M => AllP p.2 fun x e1 => AllT ps fun s e2 => M ((p.1, x) :: s) (e1 ++ e2)
theorem Yyn {p : PI} {M : It -> List Ed -> Prop} {it : It} {es : List Ed} (h : AllI p M) (hi : Y0e p it es) : M it es := by
 cases p with
 | blk T ps => obtain ⟨xs, rfl, hi⟩ := hi; exact Ycl (M := fun xs es => M (.blk T xs) es) h hi
 | arr T ts => obtain ⟨xs, rfl, rfl⟩ := hi; exact h xs
 | row T sz n ps => obtain ⟨xs, rfl, hi⟩ := hi; exact Ycl (M := fun xs es => M (.row T sz n xs) es) h hi
 | obj x => obtain ⟨rfl, rfl⟩ := hi; exact h
 | mpI => obtain ⟨xs, rfl, rfl⟩ := hi; exact h xs
 | mpP => obtain ⟨xs, rfl, rfl⟩ := hi; exact h xs
 | lp L ps => obtain ⟨xs, rfl, hi⟩ := hi; exact Ycl (M := fun xs es => M (.lp L xs) es) h hi
 | dead => obtain ⟨rfl, rfl⟩ := hi; exact h
 | nst T ts => obtain ⟨xs, rfl, rfl⟩ := hi; exact h xs
 | fro ts => obtain ⟨xs, rfl, rfl⟩ := hi; exact h xs
theorem Yl6 : ∀ {ps : List (Nat × PI)} {M : Heap -> List Ed -> Prop} {h : Heap} {es : List Ed}, AllH ps M -> Yhi ps h es -> M h es
 | [], M, _, _, h, ⟨rfl, rfl⟩ => h
 | p :: ps, M, _, _, h, ⟨x, xs, e1, e2, rfl, rfl, h1, h2⟩ => Yl6 (M := fun xs e2 => M ((p.1, x) :: xs) (e1 ++ e2)) (Yyn (M := fun x e1 => AllH ps fun xs e2 => M ((p.1, x) :: xs) (e1 ++ e2)) h h1) h2
theorem Yrl : ∀ {ps : List (Nat × Pt)} {M : List (Nat × AV) -> List Ed -> Prop} {h : List (Nat × AV)} {es : List Ed}, AllT ps M -> Ymj ps h es -> M h es
 | [], M, _, _, h, ⟨rfl, rfl⟩ => h
 | p :: ps, M, _, _, h, ⟨x, xs, e1, e2, rfl, rfl, h1, h2⟩ => Yrl (M := fun xs e2 => M ((p.1, x) :: xs) (e1 ++ e2)) (Yil (M := fun x e1 => AllT ps fun xs e2 => M ((p.1, x) :: xs) (e1 ++ e2)) h h1) h2
def AllC (t : Ty) (M : AV -> Cl -> Prop) : Prop :=
 match t with
 | .int k => ∀ n, M (.si k n) (.i n)
 | .bool => ∀ b, M (.sb b) (.b b)
 | .str => ∀ s, M (.ss s) (.s s)
 | .sl ts => ∀ r : Ro ts, M (.rs ts r) (.l r.xs)
def Y0f : List Ty -> (List AV -> List Cl -> Prop) -> Prop
 | [], M => M [] []
 | t :: ts, M => AllC t fun x c => Y0f ts fun xs cs => M (x :: xs) (c :: cs)
def AllA (a : AT) (M : AV -> List Cl -> Prop) : Prop :=
 match a with
 | .one t => AllC t fun x c => M x [c]
 | .agg ts => Y0f ts fun xs cs => M (.agg xs) cs
def Y0g : List AT -> (List AV -> DS -> Prop) -> Prop
 | [], M => M [] []
 | a :: ats, M => AllA a fun x d => Y0g ats fun xs ds => M (x :: xs) (d :: ds)
theorem Yrm {t : Ty} {M : AV -> Cl -> Prop} {x : AV} {c : Cl} (h : AllC t M) (hc : Yrn t x c) : M x c := by
 cases t <;> (obtain ⟨_, rfl, rfl⟩ := hc; exact h _)
theorem Yn2 : ∀ {ts : List Ty} {M : List AV -> List Cl -> Prop} {xs : List AV} {cs : List Cl}, Y0f ts M -> Ymb ts xs cs -> M xs cs
 | [], M, _, _, h, ⟨rfl, rfl⟩ => h
 | t :: ts, M, _, _, h, ⟨x, xs, c, cs, rfl, rfl, h1, h2⟩ => Yn2 (M := fun xs cs => M (x :: xs) (c :: cs)) (Yrm (M := fun x c => Y0f ts fun xs cs => M (x :: xs) (c :: cs)) h h1) h2
theorem Yyo {a : AT} {M : AV -> List Cl -> Prop} {x : AV} {d : List Cl} (h : AllA a M) (ha : Y10 a x d) : M x d := by
 cases a with
 | one t => obtain ⟨c, rfl, hc⟩ := ha; exact Yrm (M := fun x c => M x [c]) h hc
 | agg ts => obtain ⟨xs, rfl, hc⟩ := ha; exact Yn2 (M := fun xs cs => M (.agg xs) cs) h hc
theorem Yn3 : ∀ {ats : List AT} {M : List AV -> DS -> Prop} {xs : List AV} {ds : DS}, Y0g ats M -> Yn4 ats xs ds -> M xs ds
 | [], M, _, _, h, ⟨rfl, rfl⟩ => h
 | a :: ats, M, _, _, h, ⟨x, xs, d, ds, rfl, rfl, h1, h2⟩ => Yn3 (M := fun xs ds => M (x :: xs) (d :: ds)) (Yyo (M := fun x d => Y0g ats fun xs ds => M (x :: xs) (d :: ds)) h h1) h2
end
theorem PureOk.of' {P : Program} (tt : (W : InW) -> @Tr (@TI W)) (ht : ∀ W : InW, @TabOk W P (tt W)) (hm : P.follows .mixedOrders = true) (T : Tab P) (n m : Nat) {g : FuncId} {ats : List AT} {rs : RTs} {pre : DS -> Prop} {res : DS -> DS}
  (h : ∀ (W : InW), @Y0g W ats fun args ds => pre ds -> @Yvp W (@cxT W P (tt W) T n m) n g args [] 0 (@Yzq W rs fun o => o = res ds) fun _ _ _ _ => Stuck 421) : PureOk P g ats rs pre res :=
 PureOk.of tt ht hm T n m fun W args ds ha hp => @Yn3 W _ _ _ _ (h W) ha hp
theorem LE.okOf' {P : Program} (tt : (W : InW) -> @Tr (@TI W)) (ht : ∀ W : InW, @TabOk W P (tt W)) (hm : P.follows .mixedOrders = true) (T : Tab P) (n m : Nat) {g : FuncId} {key : Nat} (h1 : (match Yey P g key with | [_] => true | _ => false) = true) (lc : LC) (meas : (W : InW) -> List (@Ed W) -> Nat)
  (hb : ∀ (W : InW), @AllT W lc.T fun s e1 => @AllH W lc.H fun ys e2 => ∀ K, @LC.spec lc W (e1 ++ e2) K -> @Ye9 W { @cxT W P (tt W) T n m with fn := g } n (Ynh P g key) (@Ydy W lc.len s lc.W) ys (@Yth W lc (fun e => meas W e < meas W (e1 ++ e2) /\ @LC.spec lc W e K) K)) :
  ∀ (W : InW) (body a : Code), (P.funcs[g]?).bind (·.body) = some body -> a ∈ Yw body -> Yfu a = key -> @Yma W P a (@Ysp W lc) :=
 LE.okOf tt ht hm T n m h1 lc meas fun W s ys e1 e2 hT hH => @Yl6 W _ _ _ _ (@Yrl W _ _ _ _ (hb W) hT) hH
end Go.Proofs.YtbhlmkgliflhaaaGreat
namespace Go.Proofs.YtbhlmkgliflhaaaGreat
open Go.RowKit
attribute [local irreducible] Go.Oper.wp
section
variable [W : InW]
mutual
def Yzp : Pt -> AV -> List (Nat × Nat) -> (List (Nat × Nat) -> Bool) -> Bool
 | .int k, x, B, K => (match x with | .si k' _ => decide (k' = k) && K B | .v (.int k' _) => decide (k' = k) && K B | _ => false)
 | .bool, x, B, K => (match x with | .sb _ => K B | .v (.bool _) => K B | _ => false)
 | .str, x, B, K => (match x with | .ss _ => K B | .v (.string _) => K B | _ => false)
 | .lit v, x, B, K => (match x with | .v u => (match Ycg u v with | true => K B | false => false) | _ => false)
 | .ptr p k, x, B, K => (match x with | .ptr i k' => (match Nat.beq k' k with | true => K ((p, i) :: B) | false => false) | _ => false)
 | .row p, x, B, K => (match x with | .rw i => K ((p, i) :: B) | .v (.slice none 0 0) => K B | .sl i 0 0 _ => K ((p, i) :: B) | _ => false)
 | .rs _, x, B, K => (match x with | .rs _ _ => K B | .v (.slice none 0 0) => K B | _ => false)
 | .mp p, x, B, K => (match x with | .mp i => K ((p, i) :: B) | _ => false)
 | .yl p, x, B, K => (match x with | .yl i => K ((p, i) :: B) | _ => false)
 | .opq _, _, B, K => K B
 | .agg ps, x, B, K => (match x with | .agg xs => Ymh ps xs B K | .v (.agg cs) => Ymh ps (cs.toList.map .v) B K | _ => false)
 | .tup ps, x, B, K => (match x with | .tup xs => Ymh ps xs B K | _ => false)
 | .fn f a b, x, B, K => (match x with | .fn f' xs ys => (match Ytg f' f with | true => Ymh a xs B fun B => Ymh b ys B K | false => false) | _ => false)
 | .ifc t p, x, B, K => (match x with | .ifc t' y => (match Nat.beq t' t with | true => Yzp p y B K | false => false) | .v (.iface t' y) => (match Nat.beq t' t with | true => Yzp p (.v y) B K | false => false) | _ => false)
 | .held _, _, _, _ => false
 | .sl p a b c, x, B, K => (match x with | .sl i a' b' c' => (match Nat.beq a' a && Nat.beq b' b && Nat.beq c' c with | true => K ((p, i) :: B) | false => false) | _ => false)
 | .slc p a b c, x, B, K => (match x with | .slc i a' b' c' => (match Nat.beq a' a && Nat.beq b' b && Nat.beq c' c with | true => K ((p, i) :: B) | false => false) | _ => false)
 | .rwp p sz, x, B, K => (match x with | .rwp i sz' _ _ => (match Nat.beq sz' sz with | true => K ((p, i) :: B) | false => false) | _ => false)
 | .emp p, x, B, K => (match x with | .emp i => K ((p, i) :: B) | _ => false)
def Ymh : List Pt -> List AV -> List (Nat × Nat) -> (List (Nat × Nat) -> Bool) -> Bool
 | [], xs, B, K => (match xs with | [] => K B | _ :: _ => false)
 | p :: ps, xs, B, K => (match xs with | [] => false | x :: xs => Yzp p x B fun B => Ymh ps xs B K)
end
def idAt : List (Nat × Nat) -> Nat -> Option Nat
 | [], _ => none
 | q :: B, p => match Nat.beq q.1 p with | true => some q.2 | false => idAt B p
def likeI (p : PI) (it : It) (B : List (Nat × Nat)) (K : List (Nat × Nat) -> Bool) : Bool :=
 match p with
 | .blk T ps => (match it with | .blk T' xs => (match Nat.beq T' T with | true => Ymh ps xs B K | false => false) | _ => false)
 | .arr T ts => (match it with | .arr T' _ _ => (match Nat.beq T' T with | true => K B | false => false) | .bk T' _ _ _ => (match Nat.beq T' T with | true => K B | false => false) | .row T' _ _ _ => (match Nat.beq T' T with | true => K B | false => false) | _ => false)
 | .row T sz n ps => (match it with | .row T' sz' n' xs => (match Nat.beq T' T && Nat.beq sz' sz && Nat.beq n' n with | true => Ymh ps xs B K | false => false) | _ => false)
 | .obj x => (match Ywa it (.obj x) with | true => K B | false => false)
 | .mpI => (match it with | .obj (.mpI _) => K B | .obj (.mpV [] 0) => K B | _ => false)
 | .mpP => (match it with | .obj (.mpP _) => K B | .obj (.mpV [] 0) => K B | _ => false)
 | .lp _ ps => (match it with | .lp _ xs => Ymh ps xs B K | _ => false)
 | .dead => K B
 | .nst T _ => (match it with | .nst T' _ _ => (match Nat.beq T' T with | true => K B | false => false) | _ => false)
 | .fro _ => (match it with | .fro _ _ => K B | _ => false)
def Yxd : List (Nat × PI) -> Heap -> List (Nat × Nat) -> Bool
 | [], _, _ => true
 | (pid, p) :: ps, hp, B => match p.isDead with
  | true => Yxd ps hp B
  | false => match idAt B pid with
  | none => Yxd ps hp B
  | some i => match look hp i with
   | none => false
   | some it => likeI p it B fun B => Yxd ps hp B
def Y01 : List (Nat × PI) -> List (Nat × Nat)
 | [] => []
 | p :: h => match Nat.beq (p.1 % 3) 1 with | true => (p.1, p.1) :: Y01 h | false => Y01 h
def likeO (p : Pt) (H : List (Nat × PI)) (x : AV) (hp : Heap) : Bool := Yzp p x (Y01 H) fun B => Yxd H hp B
end
end Go.Proofs.YtbhlmkgliflhaaaGreat
namespace Go.Proofs.YtbhlmkgliflhaaaGreat
open Go.RowKit
attribute [local irreducible] Go.Oper.wp
section
variable [W : InW]
def endC (c : Cx) (n : Nat) (fn : Func) (tm : List AV) (hp : Heap) (ps : PS) (kR kP : AV -> Heap -> Prop) : Prop :=
 revK (Ybd tm) [] fun fs => Yio c n tm fs ps hp fun ps hp => match ps with
  | .run => Yd6 c.tt tm hp fn.results.toList fun vs => kR (outA vs) hp
  | .live v => kP (.v v) hp
  | .done _ => Stuck 80
def Yvm (c : Cx) (n : Nat) (g : FuncId) (args : List AV) (hp : Heap) (kR kP : AV -> Heap -> Prop) : Prop :=
 match c.P.funcs[g]? with
 | none => Stuck 51
 | some fn => match fn.body with
  | none => Stuck 52
  | some cd => Yc (Ydq args) (padK args fn.ntmps fun tm0 =>
   Ye9 { c with fn := g } n cd tm0 hp fun x tm hpF => match x with
    | .norm => endC c n fn tm hpF .run kR kP
    | .ret => endC c n fn tm hpF .run kR kP
    | .pan (.v v) => endC c n fn tm hpF (.live v) kR kP
    | _ => Stuck 53)
theorem Ypu {args : List AV} (h : Ydq args = true) (n : Nat) : Ybd (args ++ List.replicate n (.v undef)) = [] /\ ∀ (t : Nat) (v : AV), (args ++ List.replicate n (.v undef))[t]? = some v -> v.isHeld = false := by
 obtain ⟨a, b⟩ := Yfq h;refine ⟨by rw [Yi3, a, Yfy]; rfl, fun t v hv => ?_⟩;rw [List.getElem?_append] at hv
 split at hv
 ·exact b t v hv
 ·rw [List.getElem?_replicate] at hv
  split at hv
  ·cases hv; rfl
  ·cases hv
theorem Yxp {args : List AV} {hs : Heap} (hnoh : Ydq args = true) (hnd : (keys hs).Nodup) (m : Nat) (φ : Phi) (w0 : World) (M : List Nat) (R : RL) (w : World) (hS : St w0 M (Yb φ hs ++ R) w) :
  RepS (Yue φ) φ w0 M R (args ++ List.replicate (m - args.length) (.v undef)) hs
   { tmps := (AV.concL φ args).toArray ++ Array.replicate (m - (AV.concL φ args).toArray.size) undef, defers := [] } w := by
 have hl : (AV.concL φ args).length = args.length := Ye _ _;have hst : ∀ (t : Nat) (v : AV), (args ++ List.replicate (m - args.length) (.v undef))[t]? = some v -> v.isHeld = false := (Ypu hnoh _).2;refine ⟨⟨fun t v hv _ => ?_, fun t v hv hh => ?_, fun t v hv hj => ?_, ?_, ?_⟩, hS, hnd, fun x => rfl⟩
 ·have := (List.getElem?_eq_some_iff.1 hv).1;simpa [hl] using this
 ·rw [hst t v hv] at hh; cases hh
 ·rw [Array.getElem?_append, List.getElem?_append] at *;simp only [List.size_toArray, hl] at hv ⊢
  split
  ·rename_i hlt;rw [if_pos hlt] at hv;have := Yb9 φ args t;rw [hv] at this;simpa using this
  ·rename_i hge;rw [if_neg hge] at hv;rw [List.getElem?_replicate] at hv
   split at hv
   ·rename_i hlt;cases hv;rw [Array.getElem?_replicate, if_pos hlt];rfl
   ·cases hv
 ·rw [(Ypu hnoh _).1]; rfl
 ·simp [hl]
def BigF (P : Program) (g : FuncId) (xs : List AV) (ys : Heap) (pan : Bool) (v : AV) (ys' : Heap) : Prop :=
 ∀ (φ : Phi) (w0 : World) (M : List Nat) (R : RL) (w : World), (keys ys).Nodup -> St w0 M (Yb φ ys ++ R) w ->
  Calls P g (AV.concL φ xs).toArray w fun e w' => ∃ φ2 : Phi, (∀ x, φ2 (3 * x + 1) = φ (3 * x + 1)) /\ e = Yrk pan (v.conc φ2) /\ (keys ys').Nodup /\ St w0 M (Yb φ2 ys' ++ R) w'
theorem Yz7 {c : Cx} (hcL : HandOkL c) (hm : c.P.follows .mixedOrders = true) {n : Nat} {g : FuncId} {args : List AV} {hp : Heap} {kR kP : AV -> Heap -> Prop} (h : Yvm c n g args hp kR kP) :
  ∃ pan v hpF, (match pan with | true => kP v hpF | false => kR v hpF) /\ BigF c.P g args hp pan v hpF := by
 have hc := hcL.toHandOkR;unfold Yvm at h
 split at h
 ·exact h.elim
 ·rename_i fn hf
  split at h
  ·exact h.elim
  ·rename_i cd hb;obtain ⟨hnoh, h1⟩ := Ya h;have h2 := Yhx h1;obtain ⟨x, tm', hpF, h3, h4⟩ := Ygt (hcL.at g) hm n (root := cd) (by show (c.P.funcs[g]?).bind (·.body) = some cd; rw [hf]; exact hb) cd .refl _ _ _ h2;have fin : ∀ (ps : PS), (∀ (φ : Phi) (e : Exit), x.is φ e -> ∀ (P : Program) (R : Ending -> World -> Prop) (a : Act) (w : World), Yed P fn a.tmps R a.defers ps.mode w -> Yly P fn R e a w) ->
     endC c n fn tm' hpF ps kR kP -> ∃ pan v hpF, (match pan with | true => kP v hpF | false => kR v hpF) /\ BigF c.P g args hp pan v hpF := by
    intro ps hexit hend;have hrev := Yok.1 hend;rw [List.append_nil] at hrev;obtain ⟨ps', hp', h5, h6⟩ := Yd4 hc hm _ _ _ _ (fun f hf' => Yel (by simpa using hf')) hrev;have go : ∀ (v : AV) (pan : Bool),
      (∀ (φ0 φ : Phi) (w0 : World) (M : List Nat) (R : RL) (a : Act) (w : World) (Rp : Ending -> World -> Prop), RepS φ0 φ w0 M R tm' hp' a w -> Rp (Yrk pan (v.conc φ)) w -> Leaves c.P fn a.tmps Rp [] ps'.mode w) ->
      BigF c.P g args hp pan v hp' := by
     intro v pan hpost φ w0 M R w hnd hS;refine Yeq hf hb ?_;refine h4 _ _ w0 M R _ w (Yxp hnoh hnd fn.ntmps φ w0 M R w hS) _ fun φ' e a' w' hx hr => ?_;refine hexit φ' e hx c.P _ a' w' ?_;rw [hr.tmps.df, <- List.map_reverse];refine h6 _ φ' w0 M R a' w' hr fn _ fun φ1 w1 hr1 => ?_;refine hpost _ φ1 w0 M R a' w1 _ hr1 ?_;exact ⟨φ1, fun x => hr1.base x, rfl, hr1.nd, hr1.st⟩
    cases ps' with
    | run =>
     obtain ⟨vs, h7, h8, h9⟩ := Yc8 hc.tab h5;exact ⟨false, outA vs, hp', h7, go _ false fun φ0 φ w0 M R a w Rp hr hR => ⟨_, Yg0 h8 (h9 φ0 φ w0 M R a w hr), hR⟩⟩
    | live v => exact ⟨true, .v v, hp', h5, go (.v v) true fun φ0 φ w0 M R a w Rp hr hR => hR⟩
    | done v => exact h5.elim
   cases x with
   | norm => exact fin .run (fun φ e he P R a w hl => by cases he; exact hl) h3
   | ret => exact fin .run (fun φ e he P R a w hl => by cases he; exact hl) h3
   | pan v =>
    cases v <;> first | exact h3.elim | skip
    rename_i v;exact fin (.live v) (fun φ e he P R a w hl => by cases he; exact hl) h3
   | exit i => exact h3.elim
structure CO where
 pan : Bool
 val : Pt
 H : List (Nat × PI)
 same : Bool
end
structure CC where
 g : FuncId
 args : List Pt
 H : List (Nat × PI)
 outs : List CO
 spec : [InW] -> List Ed -> (Nat -> List Ed -> Prop) -> Prop
section
variable [W : InW]
def CallC (P : Program) (cc : CC) : Prop :=
 ∀ xs ys e1 e2, Yj0 cc.args xs e1 -> Yhi cc.H ys e2 -> ∀ K, cc.spec (e1 ++ e2) K -> ∃ j e o v r ys', K j e /\ cc.outs[j]? = some o /\ insP o.val e = some (v, r) /\ insH o.H r = some (ys', []) /\ BigF P cc.g xs ys o.pan v (match o.same with | true => ys | false => ys')
mutual
def Y2p : Pt -> AV -> Bool
 | .lit v, x => (match x with | .v u => Ycg u v | _ => false)
 | .ptr _ _, x => (match x with | .ptr _ _ => true | _ => false)
 | .tup ps, x => (match x with | .tup xs => Y2q ps xs | _ => false)
 | _, _ => true
def Y2q : List Pt -> List AV -> Bool
 | [], _ => true
 | p :: ps, xs => (match xs with | [] => false | x :: xs => Y2p p x && Y2q ps xs)
end
def fitC (H0 : List (Nat × PI)) (e0 : List Ed) (o : CO) (v : AV) (hpF : Heap) (Q : List Ed -> Prop) : Prop :=
 match o.same with
 | true => Ybq o.val v (Ypy H0) fun y B e1 => Yde H0 B hpF fun ys B _ e2 => Yc (Ypz B && Yeh (ys.map (·.1))) (Yc o.H.isEmpty (e2 = e0 /\ Q e1))
 | false => Ybq o.val v (Ypy o.H) fun y B e1 => Yde o.H B hpF fun ys B _ e2 => Yc (Ypz B && Yeh (ys.map (·.1))) (Q (e1 ++ e2))
theorem Yxl {H : List (Nat × PI)} {pan : Bool} {p : Pt} {v : AV} {hpF : Heap} {B0 : Bd} {Q : AV -> Heap -> List Ed -> List Ed -> Prop}
  (h : Ybq p v B0 fun y B e1 => Yde H B hpF fun ys B _ e2 => Yc (Ypz B && Yeh (ys.map (·.1))) (Q y ys e1 e2)) : ∃ y ys e1 e2, Q y ys e1 e2 /\ Ymk p y e1 /\ Yhi H ys e2 /\
  ∀ (P : Program) (g : FuncId) (xs : List AV) (zs : Heap), BigF P g xs zs pan v hpF -> BigF P g xs zs pan y ys := by
 obtain ⟨y, B1, e1, h1, h2, h3, h4, _, _⟩ := Ycw _ _ _ _ h;obtain ⟨ys, B2, rest, e2, k1, k2, k3, k3s, k4⟩ := Yex _ _ _ _ h1;obtain ⟨hb, hk⟩ := Ya k1;rw [Bool.and_eq_true] at hb;refine ⟨y, ys, e1, e2, hk, h2, k2, fun P g xs zs hbig φ w0 M R w hnd hS => ?_⟩;refine (hbig φ w0 M R w hnd hS).mono fun e w' ⟨φ2, f1, f2, f3, f4⟩ => ⟨hB φ2 B2, fun x => by rw [Ys0 hb.1]; exact f1 x, ?_, Ybg hb.2, ?_⟩
 ·rw [f2, h4 B2 k3 φ2]
 ·have := k4 B2 (.refl _) φ2 w0 M [] R w' (by simpa using f4);simp only [List.nil_append] at this;exact this.sub ((List.Sublist.refl _).append (List.sublist_append_right _ _))
theorem Yxn {H0 : List (Nat × PI)} {zs : Heap} {e0 : List Ed} (h0 : Yhi H0 zs e0) {o : CO} {v : AV} {hpF : Heap} {Q : List Ed -> Prop} (h : fitC H0 e0 o v hpF Q) : ∃ y ys e, Q e /\ (∃ r, insP o.val e = some (y, r) /\ insH o.H r = some (ys, [])) /\
  ∀ (P : Program) (g : FuncId) (xs : List AV), BigF P g xs zs o.pan v hpF -> BigF P g xs zs o.pan y (match o.same with | true => zs | false => ys) := by
 unfold fitC at h
 split at h
 ·rename_i hs;obtain ⟨y, ys, e1, e2, hk, h2, h3, h4⟩ := Yxl (pan := o.pan) (Q := fun y ys e1 e2 => Yc o.H.isEmpty (e2 = e0 /\ Q e1)) h;obtain ⟨hO, he, hq⟩ := Ya hk
  replace hO := List.isEmpty_iff.1 hO
  subst he;have e := Ylj _ _ _ [] h3;rw [Ylj _ _ _ [] h0] at e;cases e;exact ⟨y, [], e1, hq, ⟨[], by have := Yi1 _ _ _ [] h2; rwa [List.append_nil] at this, by rw [hO]; rfl⟩, fun P g xs hb => h4 P g xs _ hb⟩
 ·rename_i hs;obtain ⟨y, ys, e1, e2, hq, h2, h3, h4⟩ := Yxl (pan := o.pan) (Q := fun y ys e1 e2 => Q (e1 ++ e2)) h;exact ⟨y, ys, e1 ++ e2, hq, ⟨e2, Yi1 _ _ _ _ h2, by have := Ylj _ _ _ [] h3; rwa [List.append_nil] at this⟩, fun P g xs hb => h4 P g xs _ hb⟩
def outC (H0 : List (Nat × PI)) (e0 : List Ed) : List CO -> Nat -> Bool -> AV -> Heap -> (Nat -> List Ed -> Prop) -> Prop
 | [], _, _, _, _, _ => Stuck 482
 | o :: os, j, pan, v, hpF, Q => match (o.pan == pan) && (Y2p o.val v && (match os with | [] => true | _ => likeO o.val o.H v hpF)) with
  | true => fitC H0 e0 o v hpF fun e => Q j e
  | false => outC H0 e0 os (j + 1) pan v hpF Q
theorem Yp9 {H0 : List (Nat × PI)} {zs : Heap} {e0 : List Ed} (h0 : Yhi H0 zs e0) {pan : Bool} {v : AV} {hpF : Heap} {Q : Nat -> List Ed -> Prop} : ∀ {os : List CO} {j : Nat}, outC H0 e0 os j pan v hpF Q -> ∃ k o y ys e, Q (j + k) e /\ os[k]? = some o /\ o.pan = pan /\ (∃ r, insP o.val e = some (y, r) /\ insH o.H r = some (ys, [])) /\
  ∀ (P : Program) (g : FuncId) (xs : List AV), BigF P g xs zs pan v hpF -> BigF P g xs zs o.pan y (match o.same with | true => zs | false => ys)
 | [], _, h => h.elim
 | o :: os, j, h => by
  unfold outC at h
  split at h
  ·rename_i hb;rw [Bool.and_eq_true] at hb;have e : o.pan = pan := by simpa using hb.1
   clear hb;obtain ⟨y, ys, e', h1, h2, h3⟩ := Yxn h0 h;exact ⟨0, o, y, ys, e', h1, rfl, e, h2, fun P g xs hb => h3 P g xs (by rw [e]; exact hb)⟩
  ·obtain ⟨k, o', y, ys, e, h1, h2, h3⟩ := Yp9 h0 h;exact ⟨k + 1, o', y, ys, e, by rw [show j + (k + 1) = j + 1 + k by omega]; exact h1, by simpa using h2, h3⟩
theorem CallC.of {c : Cx} (hcL : HandOkL c) (hm : c.P.follows .mixedOrders = true) (n : Nat) {cc : CC}
  (hb : AllL cc.args fun xs e1 => AllH cc.H fun ys e2 => ∀ K, cc.spec (e1 ++ e2) K -> Yvm c n cc.g xs ys (fun v hpF => outC cc.H e2 cc.outs 0 false v hpF K) (fun v hpF => outC cc.H e2 cc.outs 0 true v hpF K)) : CallC c.P cc := by
 intro xs ys e1 e2 h1 h2 K hs;have h := Yl6 (M := fun ys e2 => ∀ K, cc.spec (e1 ++ e2) K -> Yvm c n cc.g xs ys (fun v hpF => outC cc.H e2 cc.outs 0 false v hpF K) (fun v hpF => outC cc.H e2 cc.outs 0 true v hpF K)) (Ycl (M := fun xs e1 => AllH cc.H fun ys e2 => ∀ K, cc.spec (e1 ++ e2) K -> Yvm c n cc.g xs ys (fun v hpF => outC cc.H e2 cc.outs 0 false v hpF K) (fun v hpF => outC cc.H e2 cc.outs 0 true v hpF K)) hb h1) h2 K hs;obtain ⟨pan, v, hpF, h3, h4⟩ := Yz7 hcL hm h;have h5 : outC cc.H e2 cc.outs 0 pan v hpF K := by cases pan <;> exact h3
 obtain ⟨k, o, y, ys', e, k1, k2, k3, ⟨r, k4, k5⟩, k6⟩ := Yp9 h2 h5;rw [Nat.zero_add] at k1;exact ⟨k, e, o, y, r, ys', k1, k2, k4, k5, k6 _ _ _ h4⟩
end
end Go.Proofs.YtbhlmkgliflhaaaGreat
namespace Go.Proofs.YtbhlmkgliflhaaaGreat
open Go.RowKit
attribute [local irreducible] Go.Oper.wp
section
variable [W : InW]
def Ywl (rest : Heap) : Heap -> (Heap -> Prop) -> Prop
 | [], K => K []
 | p :: h, K => match look rest p.1 with
  | some _ => Ywl rest h K
  | none => Ywl rest h fun r => K (p :: r)
theorem Yiv {rest : Heap} : ∀ {hp : Heap} {K : Heap -> Prop}, Ywl rest hp K -> ∃ hs, K hs /\ hs.Sublist hp
 | [], K, h => ⟨[], h, .slnil⟩
 | p :: hp, K, h => by
  unfold Ywl at h
  split at h
  ·obtain ⟨hs, h1, h2⟩ := Yiv h;exact ⟨hs, h1, h2.cons p⟩
  ·obtain ⟨hs, h1, h2⟩ := Yiv h;exact ⟨_, h1, h2.cons_cons p⟩
theorem Y06 {hs hp : Heap} (h : hs.Sublist hp) (hn : (keys hp).Nodup) : PartOf hs hp :=
 ⟨(h.map _).nodup hn, fun p hm => Ybv hn (h.mem hm)⟩
def usK (hO : Heap) : Heap -> (Heap -> Prop) -> Prop
 | [], K => K []
 | p :: hs, K => match look hO p.1 with
  | some y => usK hO hs fun r => K ((p.1, y) :: r)
  | none => usK hO hs fun r => K ((p.1, .dead) :: r)
def newK (hs : Heap) : Heap -> (Heap -> Prop) -> Prop
 | [], K => K []
 | p :: h, K => match look hs p.1 with
  | some _ => newK hs h K
  | none => newK hs h fun r => K (p :: r)
def usOf (hO hs : Heap) : Heap := hs.map fun p => (p.1, match look hO p.1 with | some y => y | none => .dead)
def Yqi (hs hO : Heap) : Heap := hO.filter fun p => (look hs p.1).isNone
theorem Yvu {hO : Heap} : ∀ {hs : Heap} {K : Heap -> Prop}, usK hO hs K ↔ K (usOf hO hs)
 | [], K => Iff.rfl
 | p :: hs, K => by
  unfold usK;cases hl : look hO p.1 <;> simp only [Yvu (hs := hs), usOf, List.map_cons, hl]
theorem Ytr {hs : Heap} : ∀ {h : Heap} {K : Heap -> Prop}, newK hs h K ↔ K (Yqi hs h)
 | [], K => Iff.rfl
 | p :: h, K => by
  unfold newK;cases hl : look hs p.1 <;> simp [Ytr (h := h), Yqi, hl]
theorem Yft (hO hs : Heap) : keys (usOf hO hs) = keys hs := by simp [usOf, keys, Function.comp_def]
theorem Yqm {hO : Heap} : ∀ {hs : Heap} {i : Nat}, look (usOf hO hs) i = (look hs i).map fun _ => match look hO i with | some y => y | none => .dead
 | [], i => rfl
 | p :: hs, i => by
  simp only [usOf, List.map_cons];rw [Yn, Yn]
  by_cases e : p.1 = i
  ·simp [e]
  ·rw [if_neg e, if_neg e]; exact Yqm
theorem Yuk : ∀ (us hs : Heap), keys us = keys hs -> (keys hs).Nodup -> Yh hs us = us := by
 have key : ∀ (us pre hs : Heap), keys us = keys hs -> (keys (pre ++ hs)).Nodup -> Yh (pre ++ hs) us = pre ++ us := by
  intro us
  induction us with
  | nil =>
   intro pre hs h1 h2;cases hs with
   | nil => rfl
   | cons _ _ => simp [keys] at h1
  | cons p us ih =>
   intro pre hs h1 h2;cases hs with
   | nil => simp [keys] at h1
   | cons q hs =>
    simp only [keys, List.map_cons, List.cons.injEq] at h1;obtain ⟨i, y⟩ := p;obtain ⟨i', x⟩ := q;obtain ⟨rfl, h1⟩ := h1;have hpre : i ∉ keys pre := fun hm => by
     rw [Yb4, List.nodup_append] at h2;exact h2.2.2 _ hm _ (by simp [keys]) rfl
    rw [Yh, Yrr hpre];have := ih (pre ++ [(i, y)]) hs h1 (by
     simpa [keys] using h2)
    simpa using this
 intro us hs h1 h2;simpa using key us [] hs h1 (by simpa using h2)
theorem St.deads {φ : Phi} {w0 w : World} {M : List Nat} {R : RL} : ∀ {ds : Heap}, (∀ p ∈ ds, p.2 = .dead) -> St w0 M R w -> St w0 M (Yb φ ds ++ R) w
 | [], _, h => h
 | (i, x) :: ds, hd, h => by
  have h1 := St.deads (φ := φ) (ds := ds) (fun p hp => hd p (List.mem_cons_of_mem _ hp)) h;have e : x = .dead := hd (i, x) List.mem_cons_self;subst e;simp only [Yb, List.map_cons, It.conc, List.cons_append] at h1 ⊢;exact h1.add (Ext.refl _) (r := .row (.slice none 0 0) 0 0 0 []) ⟨by simp, .inl ⟨rfl, rfl⟩⟩ (by simp [Res.foot, Value.ownBlock])
def Yhw (ks : List Nat) (φ φ' : Phi) : Phi := fun i => if i ∈ ks then φ' i else φ i
theorem Yjl (ks : List Nat) (φ φ' : Phi) : Agree ks φ (Yhw ks φ φ') := fun i hi => by simp [Yhw, hi]
def mayB (base : Nat) (ks : List Nat) (i : Nat) : Bool := match Ygj base i with | true => true | false => ks.contains i
theorem Yk4 {base : Nat} {ks : List Nat} {φ φ2 : Phi} (hk : ∀ k ∈ ks, Ygj base k = false) {i : Nat} (h : mayB base ks i = true) : Yhw ks φ (Ybx φ φ2 base) i = Ybx φ φ2 base i := by
 unfold mayB at h;unfold Yhw
 split at h
 ·rename_i ho;rw [if_neg (fun hm => by rw [hk i hm] at ho; cases ho), Ydj ho]
 ·rw [if_pos (List.contains_iff_mem.1 h)]
def Yud (base : Nat) : Heap -> Bool
 | [] => true
 | p :: h => !(Ygj base p.1) && Yud base h
theorem Yl5 {base : Nat} : ∀ {h : Heap}, Yud base h = true -> ∀ k ∈ keys h, Ygj base k = false
 | [], _, k, hk => by simp [keys] at hk
 | p :: h, hh, k, hk => by
  simp only [Yud, Bool.and_eq_true, Bool.not_eq_true'] at hh;simp only [keys, List.map_cons, List.mem_cons] at hk;rcases hk with rfl | hk
  ·exact hh.1
  ·exact Yl5 hh.2 k hk
def mayH (base : Nat) (ks : List Nat) : Heap -> Bool
 | [] => true
 | p :: h => mayB base ks p.1 && p.2.ids (mayB base ks) && mayH base ks h
theorem Yqj {base : Nat} {ks : List Nat} {φ φ' : Phi} (h : ∀ i, mayB base ks i = true -> φ' i = φ i) : ∀ {hs : Heap}, mayH base ks hs = true -> Yb φ' hs = Yb φ hs
 | [], _ => rfl
 | p :: hs, hh => by
  simp only [mayH, Bool.and_eq_true] at hh;have := Yqj h hh.2;simp only [Yb, List.map_cons, Ysx h hh.1.1 p.2 hh.1.2] at this ⊢;rw [this]
def Y08 (i : Nat) : Bool := Nat.beq (i % 3) 1
def ownH : Heap -> Bool
 | [] => true
 | p :: h => Y08 p.1 && p.2.ids Y08 && ownH h
theorem Yp7 {φ φ' : Phi} (h : ∀ x, φ' (3 * x + 1) = φ (3 * x + 1)) : ∀ hs : Heap, ownH hs = true -> Yb φ' hs = Yb φ hs
 | [], _ => rfl
 | p :: hs, hh => by
  simp only [ownH, Bool.and_eq_true] at hh;have := Yp7 h hs hh.2;have hl : ∀ i, Y08 i = true -> φ' i = φ i := fun i hi => by
   have e : i = 3 * (i / 3) + 1 := by have := Yd.1 hi; omega
   rw [e]; exact h _
  simp only [Yb, List.map_cons, Ysx hl hh.1.1 p.2 hh.1.2] at this ⊢;rw [this]
def lowL : List AV -> Bool
 | [] => true
 | x :: xs => x.ids Ycd && lowL xs
theorem Yla : ∀ {xs : List AV}, lowL xs = true -> AV.idsL Ycd xs = true
 | [], _ => rfl
 | x :: xs, h => by
  simp only [lowL, Bool.and_eq_true] at h;unfold AV.idsL;rw [h.1];exact Yla h.2
def nilK (h : Heap) (K : Prop) : Prop := match h with | [] => K | _ :: _ => Stuck 483
def endE (es : List Ed) (K : Prop) : Prop := match es with | [] => K | _ :: _ => Stuck 481
theorem Ywz {h : Heap} {K : Prop} (hh : nilK h K) : h = [] /\ K := by cases h <;> first | exact ⟨rfl, hh⟩ | exact hh.elim
theorem Yq4 {h : List Ed} {K : Prop} (hh : endE h K) : h = [] /\ K := by cases h <;> first | exact ⟨rfl, hh⟩ | exact hh.elim
def thP : List AV -> List AV -> Bool
 | [], [] => true
 | .ptr a b :: xs, .ptr c d :: ys => Nat.beq a c && Nat.beq b d && thP xs ys
 | _, _ => false
def thV : AV -> AV -> Bool
 | .ptr a b, .ptr c d => Nat.beq a c && Nat.beq b d
 | .rw a, .rw b => Nat.beq a b
 | .mp a, .mp b => Nat.beq a b
 | .fn (.func g) [] xs, .fn (.func g') [] ys => Nat.beq g g' && thP xs ys
 | _, _ => false
def thL : List AV -> List AV -> Bool
 | [], [] => true
 | x :: xs, y :: ys => thV x y && thL xs ys
 | _, _ => false
def thO : Option It -> It -> Bool
 | some (.blk t xs), .blk t' ys => Nat.beq t t' && thL xs ys
 | _, _ => false
theorem Y14 : ∀ {xs ys : List AV}, thP xs ys = true -> xs = ys := by
 intro xs ys
 fun_induction thP xs ys with
 | case1 => intro _; rfl
 | case2 a b xs c d ys ih =>
  intro h;simp only [Bool.and_eq_true, Yd] at h;obtain ⟨⟨rfl, rfl⟩, h⟩ := h;rw [ih h]
 | case3 => intro h; cases h
theorem Y13 {x y : AV} (h : thV x y = true) : x = y := by
 unfold thV at h
 split at h
 ·simp only [Bool.and_eq_true, Yd] at h; obtain ⟨rfl, rfl⟩ := h; rfl
 ·rw [Yd.1 h]
 ·rw [Yd.1 h]
 ·simp only [Bool.and_eq_true, Yd] at h; obtain ⟨rfl, h⟩ := h; rw [Y14 h]
 ·cases h
theorem Y16 : ∀ {xs ys : List AV}, thL xs ys = true -> xs = ys := by
 intro xs ys
 fun_induction thL xs ys with
 | case1 => intro _; rfl
 | case2 x xs y ys ih =>
  intro h;simp only [Bool.and_eq_true] at h;rw [Y13 h.1, ih h.2]
 | case3 => intro h; cases h
theorem Y15 {o : Option It} {y : It} (h : thO o y = true) : o = some y := by
 unfold thO at h
 split at h
 ·simp only [Bool.and_eq_true, Yd] at h; obtain ⟨rfl, h⟩ := h; rw [Y16 h]
 ·cases h
def thin (hs : Heap) : Heap -> Heap
 | [] => []
 | p :: us => match thO (look hs p.1) p.2 with | true => thin hs us | false => p :: thin hs us
def Yvx (hs : Heap) : Heap -> (Heap -> Prop) -> Prop
 | [], K => K []
 | p :: us, K => match thO (look hs p.1) p.2 with | true => Yvx hs us K | false => Yvx hs us fun r => K (p :: r)
theorem Ypo {hs : Heap} : ∀ {us : Heap} {K : Heap -> Prop}, Yvx hs us K ↔ K (thin hs us)
 | [], K => Iff.rfl
 | p :: us, K => by
  unfold Yvx thin;cases thO (look hs p.1) p.2 <;> simp only [Ypo (us := us)]
theorem Yn9 {hs : Heap} : ∀ {us : Heap} {i : Nat}, i ∈ keys (thin hs us) -> i ∈ keys us
 | [], _, h => h
 | p :: us, i, h => by
  unfold thin at h
  split at h
  ·exact List.mem_cons_of_mem _ (Yn9 h)
  ·rcases List.mem_cons.1 h with h | h
   ·exact h ▸ List.mem_cons_self
   ·exact List.mem_cons_of_mem _ (Yn9 h)
theorem Ytd : ∀ {h : Heap} {i : Nat} {x : It}, look h i = some x -> upd h i x = h
 | [], _, _, h => rfl
 | p :: h, i, x, hl => by
  unfold look at hl;unfold upd;cases hb : Nat.beq p.1 i with
  | true =>
   rw [hb] at hl;cases hl;have := Yd.1 hb;subst this;rfl
  | false =>
   rw [hb] at hl
   show p :: upd h i x = p :: h
   rw [Ytd hl]
theorem Yqn : ∀ {h : Heap} {i j : Nat} {x : It}, j ≠ i -> look (upd h i x) j = look h j
 | [], _, _, _, _ => rfl
 | p :: h, i, j, x, hj => by
  unfold upd;cases hb : Nat.beq p.1 i with
  | true =>
   have e := Yd.1 hb;have : Nat.beq i j = false := Yz.2 (Ne.symm hj);have : Nat.beq p.1 j = false := by rw [e]; exact this
   simp [look, *]
  | false => simp [look, Yqn (h := h) hj]
theorem Ygx {hs : Heap} : ∀ (us h : Heap), (keys us).Nodup -> (∀ k ∈ keys us, look h k = look hs k) -> Yh h (thin hs us) = Yh h us
 | [], _, _, _ => rfl
 | p :: us, h, hn, hl => by
  have hn' := List.nodup_cons.1 hn;unfold thin
  split
  ·rename_i hs'
   show _ = Yh (upd h p.1 p.2) us
   rw [Ytd ((hl _ List.mem_cons_self).trans (Y15 hs'))];exact Ygx us h hn'.2 fun k hk => hl k (List.mem_cons_of_mem _ hk)
  ·show Yh (upd h p.1 p.2) _ = Yh (upd h p.1 p.2) us
   refine Ygx us _ hn'.2 fun k hk => ?_;rw [Yqn (show k ≠ p.1 from fun e => hn'.1 (by show p.1 ∈ keys us; rw [<- e]; exact hk))];exact hl k (List.mem_cons_of_mem _ hk)
theorem ACall.thin {P : Program} {g : FuncId} {args : List AV} {hs : Heap} {pan : Bool} {val : AV} {us nw : Heap} (h : ACall P g args hs pan val us nw) (hn : (keys us).Nodup) : ACall P g args hs pan val (Go.Proofs.YtbhlmkgliflhaaaGreat.thin hs us) nw := by
 unfold ACall at h ⊢;rw [Ygx us hs hn fun _ _ => rfl];exact h
def Y2w (cc : CC) (args : List AV) (hp : Heap) (k kp : KE) : Prop :=
 Yc (Yeh (hp.map (·.1))) (Yd7 cc.args args [] fun _ B _ => Yde cc.H B hp fun _ _ rest _ => Ywl rest hp fun hs =>
  Yd7 cc.args args [] fun xs B e1 => Yde cc.H B hs fun ys B rest e2 => nilK rest (Y3 (maxL (Yox args hp) 1024) fun base =>
   Yc (Ynn base args && hOld base hs && lowL xs && lowH ys && Yeh (ys.map (·.1))) (cc.spec (e1 ++ e2) fun j e => match cc.outs[j]? with
    | none => Stuck 480
    | some o => outP B base o.val e fun v r => (match o.same with
     | true => endE r (Yc (v.ids (mayB base []) && ownH ys) (match o.pan with | false => k v hs [] [] | true => kp v hs [] []))
     | false => outH B base o.H r fun hO r => endE r (usK hO hs fun us => newK hs hO fun nw =>
      Yc (Yeh (hO.map (·.1)) && Yud base nw && v.ids (mayB base (nw.map (·.1))) && mayH base (nw.map (·.1)) hO) (Yvx hs us fun us => match o.pan with | false => k v hs us nw | true => kp v hs us nw))))))
theorem Ys8 {P : Program} {cc : CC} (hc : CallC P cc) {args : List AV} {hp : Heap} {k kp : KE} (h : Y2w cc args hp k kp) :
  (∃ val hs us nw, k val hs us nw /\ PartOf hs hp /\ (∀ i ∈ keys us, i ∈ keys hs) /\ ACall P cc.g args hs false val us nw) \/
  (∃ val hs us nw, kp val hs us nw /\ PartOf hs hp /\ (∀ i ∈ keys us, i ∈ keys hs) /\ ACall P cc.g args hs true val us nw) := by
 obtain ⟨hnd, h⟩ := Ya h;obtain ⟨_, _, _, h, _⟩ := Ybh _ _ _ _ h;obtain ⟨_, _, rest0, _, h, _⟩ := Yex _ _ _ _ h;obtain ⟨hs, h, hsub⟩ := Yiv h;have hpart := Y06 hsub (Ybg hnd);obtain ⟨xs, B1, e1, h, m1, m2, m3⟩ := Ybh _ _ _ _ h;obtain ⟨ys, B, rest, e2, h, n1, n2, n3, n4'⟩ := Ybz _ _ _ _ h;have n4 := fun B2 hB2 φ => (n4' B2 hB2 φ).1;obtain ⟨hnil, hz⟩ := Ywz h;subst hnil;have hz2 := Yi.1 hz;clear h hz;generalize maxL (Yox args hp) 1024 = base at hz2;obtain ⟨hb, hz3⟩ := Ya hz2;simp only [Bool.and_eq_true] at hb;obtain ⟨⟨⟨⟨b1, b2⟩, b3⟩, b4⟩, b5⟩ := hb;obtain ⟨j, e, o, v', r, ys', k1, k2, k3, k4, k5⟩ := hc xs ys e1 e2 m1 n1 _ hz3;rw [k2] at k1;obtain ⟨v, v2, r2, p1, p2, p3, _⟩ := Yfn _ _ _ k1;rw [k3] at p2;cases p2
 split at p1
 ·rename_i hsm;obtain ⟨hr, p1⟩ := Yq4 p1;obtain ⟨c3', p1⟩ := Ya p1;obtain ⟨c3, cO⟩ : _ /\ _ := by simpa only [Bool.and_eq_true] using c3'
  rw [hsm] at k5;have hA : ACall P cc.g args hs o.pan v [] [] := by
   intro φ w0 M R w hnew hS;have hS1 := n4 B (.refl _) φ w0 M [] R w (by simpa using hS);simp only [List.nil_append, Yb, List.map_nil] at hS1;have hS2 : St w0 M (Yb (Ydz φ B { tmps := #[], defers := [] }) ys ++ R) w := by rw [Yw7 ys b4]; exact hS1
   have hx : AV.concL (Ydz φ B { tmps := #[], defers := [] }) xs = AV.concL φ args := by
    rw [Yb1 xs (Yla b3), m3 B n2 φ]
   have hcall := k5 (Ydz φ B { tmps := #[], defers := [] }) w0 M R w (Ybg b5) hS2;rw [hx] at hcall;refine hcall.mono fun en w' ⟨φ2, f1, f2, f3, f4⟩ => ?_;have hE : Ends B φ φ2 { tmps := #[], defers := [] } := ⟨f1⟩;refine ⟨Yhw [] φ (Ybx φ φ2 base), Yjl _ _ _, ?_, ?_⟩
   ·rw [f2, <- p3 φ φ2 _ hE];rw [Yij (p := mayB base []) (fun i hi => Yk4 (ks := []) (fun k hk => by cases hk) hi) v c3]
   ·have e0 : Yb φ2 ys = Yb (hB φ B) ys := by rw [Yp7 f1 ys cO, Yw7 ys b4]
    dsimp only at f4;rw [e0] at f4;obtain ⟨D, hD⟩ := (n4' B (.refl _) φ).2;have f5 : St w0 M ((Yb (hB φ B) ys ++ Yb φ []) ++ R) w' := by simpa [Yb] using f4
    have f6 := (f5.perm (hD.append_right R)).sub (L' := Yb φ hs ++ R) (by
     rw [List.append_assoc]; exact List.sublist_append_right _ _)
    have e1 : Yhw [] φ (Ybx φ φ2 base) = φ := by funext i; simp [Yhw]
    rw [e1];simpa [Yh] using f6
  cases hp : o.pan with
  | false => rw [hp] at p1 hA; exact .inl ⟨_, _, _, _, p1, hpart, (fun i hi => by cases hi), hA⟩
  | true => rw [hp] at p1 hA; exact .inr ⟨_, _, _, _, p1, hpart, (fun i hi => by cases hi), hA⟩
 rename_i hsm;rw [hsm] at k5;obtain ⟨hO, ys2, r3, q1, q2, q3⟩ := Yk6 _ _ _ p1;rw [k4] at q2;cases q2;obtain ⟨_, q1⟩ := Yq4 q1;have q1 := Ytr.1 (Yvu.1 q1);obtain ⟨hb2, q1⟩ := Ya q1;simp only [Bool.and_eq_true] at hb2;obtain ⟨⟨⟨c1, c2⟩, c3⟩, c4⟩ := hb2;have hall := Yl5 c2;have hus : ∀ i ∈ keys (usOf hO hs), i ∈ keys hs := fun i hi => by rwa [Yft] at hi
 have hA : ACall P cc.g args hs o.pan v (usOf hO hs) (Yqi hs hO) := by
  intro φ w0 M R w hnew hS;have hS1 := n4 B (.refl _) φ w0 M [] R w (by simpa using hS);simp only [List.nil_append, Yb, List.map_nil] at hS1;have hS2 : St w0 M (Yb (Ydz φ B { tmps := #[], defers := [] }) ys ++ R) w := by rw [Yw7 ys b4]; exact hS1
  have hx : AV.concL (Ydz φ B { tmps := #[], defers := [] }) xs = AV.concL φ args := by
   rw [Yb1 xs (Yla b3), m3 B n2 φ]
  have hcall := k5 (Ydz φ B { tmps := #[], defers := [] }) w0 M R w (Ybg b5) hS2;rw [hx] at hcall;refine hcall.mono fun en w' ⟨φ2, f1, f2, f3, f4⟩ => ?_;have hE : Ends B φ φ2 { tmps := #[], defers := [] } := ⟨f1⟩;refine ⟨Yhw (keys (Yqi hs hO)) φ (Ybx φ φ2 base), Yjl _ _ _, ?_, ?_⟩
  ·rw [f2, <- p3 φ φ2 _ hE];rw [Yij (p := mayB base (keys (Yqi hs hO))) (fun i hi => Yk4 hall hi) v c3]
  ·rw [Yuk _ _ (Yft hO hs) hpart.nd];have e1 : St w0 M (Yb (Ybx φ φ2 base) hO ++ R) w' := by rw [q3 φ φ2 _ hE]; exact f4
   rw [<- Yqj (fun i hi => Yk4 (φ := φ) (φ2 := φ2) hall hi) c4] at e1;generalize Yhw (keys (Yqi hs hO)) φ (Ybx φ φ2 base) = φ' at e1 ⊢;have hOnd : (keys hO).Nodup := Ybg c1;have hperm : ((usOf hO hs) ++ Yqi hs hO).Perm (((usOf hO hs).filter fun p => (look hO p.1).isNone) ++ hO) := by
    refine Yfk ?_ ?_ ?_
    ·rw [Yb4, Yft];refine List.nodup_append.2 ⟨hpart.nd, (List.filter_sublist.map _).nodup hOnd, fun a ha b hb e => ?_⟩;subst e;obtain ⟨x, hx⟩ := Yj8.2 ha;obtain ⟨q, hq, rfl⟩ := List.mem_map.1 hb;have := (List.mem_filter.1 hq).2;rw [hx] at this;cases this
    ·rw [Yb4];refine List.nodup_append.2 ⟨(List.filter_sublist.map _).nodup (by show (keys (usOf hO hs)).Nodup; rw [Yft]; exact hpart.nd), hOnd, fun a ha b hb e => ?_⟩;subst e;obtain ⟨x, hx⟩ := Yj8.2 hb;obtain ⟨q, hq, rfl⟩ := List.mem_map.1 ha;have := (List.mem_filter.1 hq).2;rw [hx] at this;cases this
    ·intro i;have hf : ∀ (f : Nat -> Bool) (h : Heap), look (h.filter fun p => f p.1) i = if f i then look h i else none := by
      intro f h
      induction h with
      | nil => simp [look]
      | cons p h ih =>
       rw [List.filter_cons]
       by_cases e : p.1 = i
       ·subst e;cases hfi : f p.1 <;> simp [hfi, Yn] <;> simp_all
       ·cases hfp : f p.1 <;> simp [Yn, e, ih]
     rw [Yh7, Yh7];have a1 := hf (fun i => (look hs i).isNone) hO;have a2 := hf (fun i => (look hO i).isNone) (usOf hO hs);unfold Yqi;rw [a1, a2, Yqm];cases look hs i <;> cases look hO i <;> simp
   have hd : ∀ p ∈ ((usOf hO hs).filter fun p => (look hO p.1).isNone), p.2 = .dead := by
    intro p hp;obtain ⟨h1, h2⟩ := List.mem_filter.1 hp;obtain ⟨q, hq, rfl⟩ := List.mem_map.1 h1;dsimp only at h2 ⊢;cases hl : look hO q.1 with
    | none => rfl
    | some y => rw [hl] at h2; cases h2
   have e2 := St.deads (φ := φ') hd e1;refine e2.perm ?_;rw [<- List.append_assoc, <- Yl];exact ((Yq hperm).symm.append_right R)
 have q1 := Ypo.1 q1;have hA := hA.thin (by rw [Yft]; exact hpart.nd);have hus := fun i (hi : i ∈ keys (thin hs (usOf hO hs))) => hus i (Yn9 hi);cases hp : o.pan with
 | false => rw [hp] at q1 hA; exact .inl ⟨_, _, _, _, q1, hpart, hus, hA⟩
 | true => rw [hp] at q1 hA; exact .inr ⟨_, _, _, _, q1, hpart, hus, hA⟩
def likeC (cc : CC) (args : List AV) (hp : Heap) : Bool := Ymh cc.args args [] fun B => Yxd cc.H hp B
end
def ceOf {P : Program} (cc : CC) (h : ∀ W : InW, @CallC W P cc) : CE P := ⟨cc.g, fun W => @likeC W cc, fun W args hp k kp => @Y2w W cc args hp k kp, fun W args hp k kp => @Ys8 W P cc (h W) args hp k kp⟩
theorem CC.okOf {P : Program} (tt : (W : InW) -> @Tr (@TI W)) (ht : ∀ W : InW, @TabOk W P (tt W)) (hm : P.follows .mixedOrders = true) (T : Tab P) (n m : Nat) (cc : CC)
  (hb : ∀ (W : InW), @AllL W cc.args fun xs e1 => @AllH W cc.H fun ys e2 => ∀ K, @CC.spec cc W (e1 ++ e2) K -> @Yvm W (@cxT W P (tt W) T n m) n cc.g xs ys (fun v hpF => @outC W cc.H e2 cc.outs 0 false v hpF K) (fun v hpF => @outC W cc.H e2 cc.outs 0 true v hpF K)) : ∀ W : InW, @CallC W P cc := by
 intro W;have hP := Yye P (tt W) T n m;have := CallC.of (c := @cxT W P (tt W) T n m) (Yre (T := T) (ht W) hm n m) (by rw [hP]; exact hm) n (cc := cc) (hb W);rwa [hP] at this
end Go.Proofs.YtbhlmkgliflhaaaGreat
namespace Go.Proofs.YtbhlmkgliflhaaaGreat
open Go.RowKit Go.ChangeShapes Go.WideShapes Go.ChangeAt
inductive WfC : Ty -> Cl -> Prop
 | int (k : IntKind) (n : Int) (h : (Lit.int k n).wf = true) : WfC (.int k) (.i n)
 | bool (b : Bool) : WfC .bool (.b b)
 | str (s : ByteArray) (h : s.size <= maxLen) : WfC .str (.s s)
 | sl (ts : List Ty) (xs : Dt) (hm : xs.length <= maxLen) (hl : ∀ row ∈ xs, row.length = ts.length) (h : ∀ i k t, i < xs.length -> ts[k]? = some t -> WfC t (cel xs i k)) : WfC (.sl ts) (.l xs)
inductive WfL : List Ty -> List Cl -> Prop
 | nil : WfL [] []
 | cons {t : Ty} {c : Cl} {ts : List Ty} {cs : List Cl} (h : WfC t c) (hs : WfL ts cs) : WfL (t :: ts) (c :: cs)
def WfA (a : AT) (d : List Cl) : Prop := match a with | .one t => WfL [t] d | .agg ts => WfL ts d
def WfD : List AT -> DS -> Prop
 | [], ds => ds = []
 | a :: ats, ds => ∃ d ds', ds = d :: ds' /\ WfA a d /\ WfD ats ds'
inductive RdL [InW] : List Ty -> List Value -> List Cl -> Prop
 | nil : RdL [] [] []
 | cons {t : Ty} {u : Value} {c : Cl} {ts : List Ty} {us : List Value} {cs : List Cl} (h : RdV t u c) (hz : Ylw t c) (hw : WfC t c) (hs : RdL ts us cs) : RdL (t :: ts) (u :: us) (c :: cs)
section
variable [W : InW]
theorem RdL.append {ts : List Ty} {us : List Value} {cs : List Cl} {ts' : List Ty} {us' : List Value} {cs' : List Cl} (h : RdL ts us cs) (h' : RdL ts' us' cs') : RdL (ts ++ ts') (us ++ us') (cs ++ cs') := by
 induction h with
 | nil => exact h'
 | cons a b c _ ih => exact .cons a b c ih
theorem RdL.len {ts : List Ty} {us : List Value} {cs : List Cl} (h : RdL ts us cs) : us.length = ts.length /\ cs.length = ts.length := by
 induction h with
 | nil => exact ⟨rfl, rfl⟩
 | cons _ _ _ _ ih => simp [ih.1, ih.2]
theorem RdL.at {ts : List Ty} {us : List Value} {cs : List Cl} (h : RdL ts us cs) : ∀ (k : Nat) (t : Ty) (u : Value) (c : Cl), ts[k]? = some t -> us[k]? = some u -> cs[k]? = some c -> RdV t u c /\ Ylw t c /\ WfC t c := by
 induction h with
 | nil => intro k t u c h; simp at h
 | cons a b d _ ih =>
  intro k t u c h1 h2 h3;cases k with
  | zero => simp only [List.getElem?_cons_zero, Option.some.injEq] at h1 h2 h3; subst h1; subst h2; subst h3; exact ⟨a, b, d⟩
  | succ k => exact ih k t u c (by simpa using h1) (by simpa using h2) (by simpa using h3)
theorem RdL.wf {ts : List Ty} {us : List Value} {cs : List Cl} (h : RdL ts us cs) : WfL ts cs := by
 induction h with
 | nil => exact .nil
 | cons _ _ c _ ih => exact .cons c ih
end
def Yxm (rec : TypeId -> Option (List Ty)) : Nat -> List Field -> Option (List Ty)
 | _, [] => some []
 | off, f :: fs => match rec f.type with
  | none => none
  | some ts => if f.offset = off then (Yxm rec (off + ts.length) fs).map (ts ++ ·) else none
def fitN : Nat -> List Ty -> List Ty
 | 0, _ => []
 | n + 1, ts => ts ++ fitN n ts
def fit0 (P : Program) (rec : TypeId -> Option (List Ty)) (t : TypeId) : Option (List Ty) :=
 match P.underlying t with
 | some .bool => some [.bool]
 | some (.int k) => some [.int k]
 | some .string => some [.str]
 | some (.slice e) => (match rec e with | some (t :: ts) => some [.sl (t :: ts)] | _ => none)
 | some (.struct fs) => Yxm rec 0 fs.toList
 | some (.array n e) => (rec e).map (fitN n)
 | _ => none
def Ymi (P : Program) : Nat -> TypeId -> Option (List Ty)
 | 0, _ => none
 | d + 1, t => match fit0 P (Ymi P d) t with
  | some ts => if P.cellsOf t = ts.length then some ts else none
  | none => none
theorem Ydu {P : Program} {d : Nat} {t : TypeId} {ts : List Ty} (h : Ymi P d t = some ts) : P.cellsOf t = ts.length := by
 cases d with
 | zero => cases h
 | succ d =>
  unfold Ymi at h
  split at h
  ·split at h
   ·cases h; assumption
   ·cases h
  ·cases h
theorem Yva {α : Type} {f : Nat -> Option α} : ∀ {n : Nat} {r : List α}, (List.range n).mapM f = some r -> r.length = n /\ ∀ (i : Nat) (x : α), r[i]? = some x -> f i = some x := by
 have key : ∀ (l : List Nat) (r : List α), l.mapM f = some r -> r.length = l.length /\ ∀ (i : Nat) (x : α), r[i]? = some x -> ∃ j, l[i]? = some j /\ f j = some x := by
  intro l
  induction l with
  | nil => intro r h; simp at h; subst h; exact ⟨rfl, by simp⟩
  | cons a l ih =>
   intro r h;rw [List.mapM_cons] at h;simp only [bind, Option.bind_eq_some_iff, pure, Option.some.injEq] at h;obtain ⟨y, hy, ys, hys, rfl⟩ := h;obtain ⟨h1, h2⟩ := ih ys hys;refine ⟨by simp [h1], fun i x hx => ?_⟩;cases i with
   | zero => simp only [List.getElem?_cons_zero, Option.some.injEq] at hx; subst hx; exact ⟨a, rfl, hy⟩
   | succ i => obtain ⟨j, h3, h4⟩ := h2 i x (by simpa using hx); exact ⟨j, by simpa using h3, h4⟩
 intro n r h;obtain ⟨h1, h2⟩ := key _ _ h;rw [List.length_range] at h1;refine ⟨h1, fun i x hx => ?_⟩;obtain ⟨j, h3, h4⟩ := h2 i x hx;have hi : i < n := by
  rw [<- h1];exact (List.getElem?_eq_some_iff.1 hx).1
 rw [List.getElem?_range hi] at h3;cases h3;exact h4
theorem Yrf {w : World} {a : Addr} {n : Nat} {cs : List Value} (h : w.cells? 0 a n = some cs) : cs.length = n /\ ∀ i u, cs[i]? = some u -> w.cell? (a.add i) = some u := by
 unfold World.cells? at h;rw [if_pos (Nat.zero_le _)] at h;exact Yva h
theorem Yvn {w : World} {a : Addr} {u : Value} (h : w.cell? a = some u) : a.spot = none /\ a.block < w.heap.size := by
 unfold World.cell? at h
 split at h
 ·rename_i c e1 e2 hb;refine ⟨?_, ?_⟩
  ·split at h
   ·cases h
   ·rename_i hs; cases hsp : a.spot <;> simp_all
  ·rcases Nat.lt_or_ge a.block w.heap.size with hlt | hge
   ·exact hlt
   ·simp [Array.getElem?_eq_none hge] at hb
 ·cases h
section
variable {H : Type} {enc : TypeId × Value -> H} {P : Program}
def Ypf (enc : TypeId × Value -> H) (P : Program) (w : World) (rec : TypeId -> Option (List Ty)) (fuel : Nat) : Prop :=
 ∀ (t : TypeId) (ts : List Ty) (cs : List Value) (x : DataW H × List MemPlace), rec t = some ts -> DataW.trod enc P w 0 (fun _ => true) true fuel t cs = some x -> ∃ ds, @RdL (atW w) ts cs ds
theorem Yt1 {w : World} {rec : TypeId -> Option (List Ty)} {fuel : Nat} (hrec : Ypf enc P w rec fuel) (hc : ∀ t ts, rec t = some ts -> P.cellsOf t = ts.length) (cs : List Value) :
  ∀ (fs : List Field) (off : Nat) (ts : List Ty), Yxm rec off fs = some ts -> (∀ f ∈ fs, ∃ x, DataW.trod enc P w 0 (fun _ => true) true fuel f.type ((cs.drop f.offset).take (P.cellsOf f.type)) = some x) ->
   ∃ ds, @RdL (atW w) ts ((cs.drop off).take ts.length) ds
 | [], off, ts, h, _ => by
  simp only [Yxm, Option.some.injEq] at h;subst h;exact ⟨[], by simpa using @RdL.nil (atW w)⟩
 | f :: fs, off, ts, h, hm => by
  unfold Yxm at h
  split at h
  ·cases h
  ·rename_i t1 h1
   split at h
   ·rename_i hoff;rw [Option.map_eq_some_iff] at h;obtain ⟨t2, h2, rfl⟩ := h;obtain ⟨y, hy⟩ := hm f List.mem_cons_self;obtain ⟨d1, k1⟩ := hrec _ _ _ _ h1 hy;obtain ⟨d2, k2⟩ := Yt1 hrec hc cs fs _ _ h2 fun f hf => hm f (List.mem_cons_of_mem _ hf);rw [hoff, hc _ _ h1] at k1;refine ⟨d1 ++ d2, ?_⟩;have := RdL.append (W := atW w) k1 k2;have e : (cs.drop off).take (t1 ++ t2).length = (cs.drop off).take t1.length ++ (cs.drop (off + t1.length)).take t2.length := by
     rw [List.length_append, List.take_add, List.drop_drop]
    rw [e];exact this
   ·cases h
theorem Yri {w : World} {rec : TypeId -> Option (List Ty)} {fuel : Nat} (hrec : Ypf enc P w rec fuel) {e : TypeId} {ts : List Ty} (he : rec e = some ts) (hc : P.cellsOf e = ts.length) (cs : List Value) :
  ∀ (n m : Nat), (∀ i, m <= i -> i < m + n -> ∃ x, DataW.trod enc P w 0 (fun _ => true) true fuel e ((cs.drop (i * P.cellsOf e)).take (P.cellsOf e)) = some x) ->
   ∃ ds, @RdL (atW w) (fitN n ts) ((cs.drop (m * ts.length)).take (n * ts.length)) ds
 | 0, m, _ => ⟨[], by simpa [fitN] using @RdL.nil (atW w)⟩
 | n + 1, m, h => by
  obtain ⟨x, hx⟩ := h m (Nat.le_refl _) (by omega);obtain ⟨d1, k1⟩ := hrec _ _ _ _ he hx;obtain ⟨d2, k2⟩ := Yri hrec he hc cs n (m + 1) fun i h1 h2 => h i (by omega) (by omega);rw [hc] at k1;refine ⟨d1 ++ d2, ?_⟩;have := RdL.append (W := atW w) k1 k2;have e1 : (cs.drop (m * ts.length)).take ((n + 1) * ts.length) = (cs.drop (m * ts.length)).take ts.length ++ (cs.drop ((m + 1) * ts.length)).take (n * ts.length) := by
   rw [Nat.add_mul, Nat.one_mul, Nat.add_comm (n * ts.length), List.take_add, List.drop_drop, Nat.add_mul, Nat.one_mul]
  rw [e1];exact this
theorem Yy0 {w : World} {rec : TypeId -> Option (List Ty)} {fuel : Nat} (hrec : Ypf enc P w rec fuel) {e : TypeId} {ts : List Ty} (hts : ts ≠ []) (he : rec e = some ts) (hc : P.cellsOf e = ts.length) {a : Addr} {len cap : Nat} (hlc : len <= cap) (hcm : cap <= maxLen) {els : List (DataW H × List MemPlace)}
  (hel : els.length = len) (h : ∀ i, i < len -> (w.cells? 0 (a.add (i * P.cellsOf e)) (P.cellsOf e)).bind (DataW.trod enc P w 0 (fun _ => true) true fuel e) = els[i]?) : ∃ ds, @RdL (atW w) [.sl ts] [.slice (some a) len cap] ds := by
 have hpos : 0 < ts.length := List.length_pos_iff.2 hts;have hget : ∀ i, i < len -> ∃ cs ds, w.cells? 0 (a.add (i * ts.length)) ts.length = some cs /\ @RdL (atW w) ts cs ds := fun i hi => by
  have hx : els[i]? = some els[i] := List.getElem?_eq_getElem (by omega);have := (h i hi).trans hx;rw [Option.bind_eq_some_iff] at this;obtain ⟨cs, k1, k2⟩ := this;obtain ⟨ds, k3⟩ := hrec _ _ _ _ he k2;rw [hc] at k1;exact ⟨cs, ds, k1, k3⟩
 have hall : ∃ xs : Dt, xs.length = len /\ ∃ us : List (List Value), us.length = len /\ ∀ i cs ds, us[i]? = some cs -> xs[i]? = some ds -> w.cells? 0 (a.add (i * ts.length)) ts.length = some cs /\ @RdL (atW w) ts cs ds := by
  clear h hel
  induction len with
  | zero => exact ⟨[], rfl, [], rfl, by simp⟩
  | succ n ih =>
   obtain ⟨xs, h1, us, h2, h3⟩ := ih (by omega) fun i hi => hget i (by omega);obtain ⟨cs, ds, k1, k2⟩ := hget n (by omega);refine ⟨xs ++ [ds], by simp [h1], us ++ [cs], by simp [h2], fun i c d hc' hd' => ?_⟩
   by_cases hi : i < n
   ·rw [List.getElem?_append_left (by omega)] at hc' hd';exact h3 i c d hc' hd'
   ·have hn : i = n := by
     have := (List.getElem?_eq_some_iff.1 hd').1;simp [h1] at this;omega
    subst hn;simp [List.getElem?_append, h1] at hd';simp [List.getElem?_append, h2] at hc';subst hd'; subst hc';exact ⟨k1, k2⟩
 obtain ⟨xs, hxl, us, hul, hx⟩ := hall;have hrow : ∀ i, i < len -> ∃ cs ds, us[i]? = some cs /\ xs[i]? = some ds /\ w.cells? 0 (a.add (i * ts.length)) ts.length = some cs /\ @RdL (atW w) ts cs ds := fun i hi => by
  have e1 : us[i]? = some us[i] := List.getElem?_eq_getElem (by omega);have e2 : xs[i]? = some xs[i] := List.getElem?_eq_getElem (by omega);exact ⟨_, _, e1, e2, hx i _ _ e1 e2⟩
 have hat : ∀ i k, i < len -> k < ts.length -> a.spot = none /\ a.block < w.heap.size /\ w.cell? ⟨a.block, a.off + i * ts.length + k, none⟩ = some ((us.getD i []).getD k undef) := fun i k hi hk => by
  have first : a.spot = none /\ a.block < w.heap.size := by
   obtain ⟨cs, ds, e1, e2, k1, k2⟩ := hrow 0 (by omega);obtain ⟨k3, k4⟩ := Yrf k1;have := k4 0 cs[0] (List.getElem?_eq_getElem (by omega));simp only [Nat.zero_mul, Addr.add, if_true] at this;exact Yvn this
  obtain ⟨cs, ds, e1, e2, k1, k2⟩ := hrow i hi;obtain ⟨k3, k4⟩ := Yrf k1;have h5 := k4 k cs[k] (List.getElem?_eq_getElem (by omega));refine ⟨first.1, first.2, ?_⟩;have ea : (a.add (i * ts.length)).add k = ⟨a.block, a.off + i * ts.length + k, none⟩ := by
   obtain ⟨b, o, s⟩ := a;have : s = none := first.1
   subst this
   by_cases h0 : i * ts.length = 0 <;> by_cases h1 : k = 0 <;> simp [Addr.add, h0, h1]
  rw [ea] at h5;rw [h5];simp [List.getD_eq_getElem?_getD, e1, List.getElem?_eq_getElem (show k < cs.length by omega)]
 have hcell : ∀ i k t, i < len -> ts[k]? = some t -> @RdV (atW w) t ((us.getD i []).getD k undef) (cel xs i k) /\ Ylw t (cel xs i k) /\ WfC t (cel xs i k) := fun i k t hi ht => by
  obtain ⟨cs, ds, e1, e2, k1, k2⟩ := hrow i hi;obtain ⟨l1, l2⟩ := RdL.len (W := atW w) k2;have hk : k < ts.length := (List.getElem?_eq_some_iff.1 ht).1;have := RdL.at (W := atW w) k2 k t cs[k] ds[k] ht (List.getElem?_eq_getElem (by omega)) (List.getElem?_eq_getElem (by omega));simpa [cel, List.getD_eq_getElem?_getD, e1, e2, List.getElem?_eq_getElem (show k < cs.length by omega), List.getElem?_eq_getElem (show k < ds.length by omega)] using this
 refine ⟨[.l xs], @RdL.cons (atW w) _ _ _ _ _ _ ?_ ⟨_, rfl⟩ (.sl ts xs (by omega) (fun row hr => ?_) fun i k t hi ht => (hcell i k t (by omega) ht).2.2) (@RdL.nil (atW w))⟩
 ·have := @RdV.sl (atW w) ts (some a) cap (.l xs) (fun i k => (us.getD i []).getD k undef) (by show xs.length <= cap; omega) (by show xs.length <= maxLen; omega) (fun hne => ?_) (fun i k t hi ht => (hcell i k t (by rw [<- hxl]; exact hi) ht).1)
  ·rw [show (Cl.l xs).lst.length = len from hxl] at this;exact this
  ·have h0 : 0 < len := by rw [<- hxl]; exact List.length_pos_iff.2 hne
   obtain ⟨f1, f2, _⟩ := hat 0 0 h0 hpos;refine ⟨a.block, a.off, by obtain ⟨b, o, s⟩ := a; have : s = none := f1; subst this; rfl, f2, fun i k hi hk => (hat i k (by rw [<- hxl]; exact hi) hk).2.2⟩
 ·obtain ⟨i, hi, rfl⟩ := List.getElem_of_mem hr;obtain ⟨cs, ds, e1, e2, k1, k2⟩ := hrow i (by omega);rw [List.getElem?_eq_getElem hi] at e2;cases e2;exact (RdL.len (W := atW w) k2).2
theorem Yhy {w : World} {t : Ty} {u : Value} {c : Cl} (h : @RdV (atW w) t u c) (hz : Ylw t c) (hw : WfC t c) : ∃ ds, @RdL (atW w) [t] [u] ds := ⟨[c], @RdL.cons (atW w) _ _ _ _ _ _ h hz hw (@RdL.nil (atW w))⟩
theorem Yf1 (w : World) : ∀ (d fuel : Nat), Ypf enc P w (Ymi P d) fuel
 | 0, _ => fun t ts cs x h _ => by cases h
 | d + 1, fuel => fun t ts cs x hf h => by
  have hcs := Ydu hf;unfold Ymi at hf
  split at hf
  ·rename_i ts' h0
   split at hf
   ·cases hf;unfold fit0 at h0
    split at h0
    ·rename_i hu;cases h0;obtain ⟨b, rfl, _⟩ := DataW.trod_bool hu h;exact Yhy (@RdV.bool (atW w) (.b b)) ⟨_, rfl⟩ (.bool b)
    ·rename_i k hu;cases h0;obtain ⟨n, rfl, _, hw⟩ := DataW.trod_int hu h;exact Yhy (@RdV.int (atW w) k (.i n)) ⟨_, rfl⟩ (.int k n hw)
    ·rename_i hu;cases h0;obtain ⟨s, rfl, _, hw⟩ := DataW.trod_string hu h;exact Yhy (@RdV.str (atW w) (.s s)) ⟨_, rfl⟩ (.str s hw)
    ·rename_i e hu
     split at h0
     ·rename_i t0 ts0 he;cases h0;rcases DataW.trod_slice hu h with ⟨rfl, _⟩ | ⟨a, len, cap, elems, rest, n, rfl, rfl, _, _, h1, h2, h3, h4, _⟩
      ·exact Yhy (@RdV.nil (atW w) (t0 :: ts0) (.l []) rfl) ⟨_, rfl⟩ (.sl _ _ (Nat.zero_le _) (by simp) (by simp))
      ·exact Yy0 (Yf1 w d n) (by simp) he (Ydu he) h1 h2 h3 h4
     ·cases h0
    ·rename_i fs hu;obtain ⟨xs, n, rfl, _, hl, hxl, h1⟩ := DataW.trod_struct hu h;obtain ⟨ds, k⟩ := Yt1 (Yf1 w d n) (fun t ts => Ydu) cs fs.toList 0 _ h0 fun f hf => by
      obtain ⟨i, hi, rfl⟩ := List.getElem_of_mem hf;have := h1 i fs[i] (by simp [Array.getElem?_eq_getElem (show i < fs.size by simpa using hi)]);exact ⟨xs[i]'(by rw [hxl]; simpa using hi), by simpa [List.getElem?_eq_getElem (show i < xs.length by rw [hxl]; simpa using hi)] using this⟩
     refine ⟨ds, ?_⟩;rw [List.drop_zero, List.take_of_length_le (by omega)] at k;exact k
    ·rename_i n e hu;rw [Option.map_eq_some_iff] at h0;obtain ⟨ts0, he, rfl⟩ := h0;obtain ⟨xs, m, rfl, _, hl, hxl, h1⟩ := DataW.trod_array hu h;obtain ⟨ds, k⟩ := Yri (Yf1 w d m) he (Ydu he) cs n 0 fun i _ hi => by
      have := h1 i (by omega);exact ⟨xs[i]'(by omega), by rw [this, List.getElem?_eq_getElem]⟩
     refine ⟨ds, ?_⟩;have hlen : ∀ n, (fitN n ts0).length = n * ts0.length := fun n => by
      induction n with
      | zero => simp [fitN]
      | succ n ih => simp [fitN, ih, Nat.add_mul, Nat.add_comm]
     rw [Nat.zero_mul, List.drop_zero, List.take_of_length_le (by rw [<- hlen]; omega)] at k;exact k
    ·cases h0
   ·cases hf
  ·cases hf
def atOf (P : Program) (t : TypeId) : Option AT :=
 match P.underlying t with
 | some (.struct _) => (Ymi P 9 t).map .agg
 | some (.array _ _) => (Ymi P 9 t).map .agg
 | _ => (match Ymi P 9 t with | some [ty] => some (.one ty) | _ => none)
def Y0a (P : Program) : List TypeId -> Option (List AT)
 | [] => some []
 | t :: ts => match atOf P t with
  | none => none
  | some a => (Y0a P ts).map (a :: ·)
theorem Yyl {w : World} {base : Nat} {t : TypeId} {v : Value} {d : DataW H} {ps : List MemPlace} {a : AT} (ha : atOf P t = some a) (hv : Value.okWide P w .any base t v) (h : DataW.Trod enc P w 0 (fun _ => true) true t v d ps) :
  ∃ dd, @ArgRd (atW w) a v dd /\ WfA a dd := by
 obtain ⟨fuel, h⟩ := h;have wide : ∀ (tys : List Ty), Ymi P 9 t = some tys -> (∃ cs, v = .agg cs) -> ∃ dd, @ArgRd (atW w) (.agg tys) v dd /\ WfA (.agg tys) dd := fun tys hf ⟨cs, e⟩ => by
  subst e;obtain ⟨ds, k⟩ := Yf1 w 9 fuel t tys _ _ hf h;obtain ⟨l1, l2⟩ := RdL.len (W := atW w) k;refine ⟨ds, ⟨cs.toList, by simp, by simpa [Value.cells] using l1, l2, fun i t u c h1 h2 h3 => ?_⟩, RdL.wf (W := atW w) k⟩;have := RdL.at (W := atW w) k i t u c h1 (by simpa [Value.cells] using h2) h3;exact ⟨this.1, this.2.1⟩
 unfold atOf at ha;unfold Value.okWide at hv
 split at ha
 ·rename_i fs hu;rw [hu] at hv;rw [Option.map_eq_some_iff] at ha;obtain ⟨tys, hf, rfl⟩ := ha;obtain ⟨cs, e, _⟩ := hv;exact wide tys hf ⟨cs, e⟩
 ·rename_i n e hu;rw [hu] at hv;rw [Option.map_eq_some_iff] at ha;obtain ⟨tys, hf, rfl⟩ := ha;obtain ⟨cs, e, _⟩ := hv;exact wide tys hf ⟨cs, e⟩
 ·rename_i hn1 hn2
  split at ha
  ·rename_i ty hf;cases ha;obtain ⟨ds, k⟩ := Yf1 w 9 fuel t [ty] _ _ hf h;obtain ⟨l1, l2⟩ := RdL.len (W := atW w) k;have hone : v.cells = #[v] := by
    cases v <;> first | rfl | skip
    exfalso;rename_i cs;have hv2 : Cell.okWide P w .any base t (.agg cs) := by
     split at hv
     ·rename_i fs hu; exact (hn1 fs hu).elim
     ·rename_i n e hu; exact (hn2 n e hu).elim
     ·exact hv
    have hc := Ydu hf;unfold Ymi at hf
    split at hf
    ·rename_i ts' h0;unfold fit0 at h0;cases hu : P.underlying t with
     | none => rw [hu] at h0; cases h0
     | some td => cases td <;> simp only [hu] at h0 <;> first | (cases h0; done) | (exact (hn1 _ hu).elim) | (exact (hn2 _ _ hu).elim) | (unfold Cell.okWide at hv2; rw [hu] at hv2; simp [Cell.ok, hu] at hv2; done)
    ·cases hf
   rw [hone] at k;cases k with
   | cons a b c hs =>
    cases hs;exact ⟨_, ⟨_, rfl, a, b⟩, .cons c .nil⟩
  ·cases ha
theorem Yn0 {w : World} {base : Nat} : ∀ {ts : List TypeId} {vs : List Value} {ds : List (DataW H)} {ps : List MemPlace} {ats : List AT}, Y0a P ts = some ats -> (∀ (j : Nat) t v, ts[j]? = some t -> vs[j]? = some v -> Value.okWide P w .any base t v) -> DataW.TrodAll enc P w 0 (fun _ => true) true ts vs ds ps ->
  ∃ dd, @Yuf (atW w) ats vs dd /\ WfD ats dd
 | [], [], [], _, ats, ha, _, _ => by cases ha; exact ⟨[], ⟨rfl, rfl⟩, rfl⟩
 | t :: ts, v :: vs, d :: ds, ps, ats, ha, hv, ⟨p, q, h1, h2, e⟩ => by
  unfold Y0a at ha
  split at ha
  ·cases ha
  ·rename_i a hat;rw [Option.map_eq_some_iff] at ha;obtain ⟨ats', ha', rfl⟩ := ha;obtain ⟨d1, k1, k2⟩ := Yyl hat (hv 0 t v rfl rfl) h1;obtain ⟨d2, k3, k4⟩ := Yn0 ha' (fun j t v h1 h2 => hv (j + 1) t v (by simpa using h1) (by simpa using h2)) h2;exact ⟨d1 :: d2, ⟨v, vs, d1, d2, rfl, rfl, k1, k3⟩, ⟨d1, d2, rfl, k2, k4⟩⟩
theorem Ypn {W W' : World} (hl : laidOutB P = true) (hb : Below W.heap.size W W') : ∀ {ts : List TypeId} {vs : List Value} {ds : List (DataW H)} {ps : List MemPlace}, (ts.all fun t => P.readableRec t && decide (t < P.types.size)) = true -> DataW.TrodAll enc P W 0 (fun _ => true) true ts vs ds ps ->
  DataW.TrodAll enc P W' 0 (fun b => decide (b < W.heap.size)) true ts vs ds ps
 | [], [], [], _, _, h => h
 | t :: ts, v :: vs, d :: ds, ps, hr, h => by
  have hlt := DataW.TrodAll.lt h;obtain ⟨p, q, h1, h2, e⟩ := h;simp only [List.all_cons, Bool.and_eq_true, decide_eq_true_eq] at hr;subst e;exact ⟨p, q, Below.trod hl hr.1.1 hr.1.2 h1 hb fun x hx => hlt x (List.mem_append_left _ hx), Ypn hl hb hr.2 h2, rfl⟩
theorem law_end {g : FuncId} {f : Func} {s : ChangeSpec} {W : World} {base : Nat} {args : Array Value} {ds gs : List (DataW H)} {before : List MemPlace} {tb : TypeId} {ats : List AT} (hrt : f.resultTypes = #[tb]) (hub : P.underlying tb = some .bool) (hats : Y0a P f.params.toList = some ats) (hs : s.vars = [])
  (hl : laidOutB P = true) (hr : (f.params.toList.all fun t => P.readableRec t && decide (t < P.types.size)) = true)
  (hfn : ∀ ds : List (DataW H), ds.length = f.params.toList.length -> (s.fn H ds).results = [.lit (.bool true)] /\ (s.fn H ds).args = ds /\ (s.fn H ds).vars = [])
  (h : PureOk P g ats [(false, [.bool])] (WfD ats) fun _ => [[.b true]])
  (hval : ∀ (j : Nat) t v, f.params[j]? = some t -> args[j]? = some v -> Value.okWide P W .any base t v) (hW : DataW.Whole enc P f.params.toList s.vars false W args.toList ds gs before) :
  Calls P g args W fun e W' => ∃ v, e = .returned v /\ s.post enc P f false true false false W args v W' := by
 have hW0 := hW;obtain ⟨p, q, hA, hV, rfl, hfz, _⟩ := hW;rw [hs] at hV;have hgq : gs = [] /\ q = [] := by
  cases gs with
  | nil => exact ⟨rfl, hV⟩
  | cons _ _ => exact hV.elim
 obtain ⟨rfl, rfl⟩ := hgq;obtain ⟨_, hlen⟩ := trodAll_length hA;obtain ⟨dd, k1, k2⟩ := Yn0 hats (fun j t v h1 h2 => hval j t v (by simpa using h1) (by simpa using h2)) hA;obtain ⟨xs, x1, x2⟩ := @Yl4 (atW W) _ _ _ k1;have hc := h (atW W) xs dd x1 k2 0 (by decide);have hSt : @St (atW W) W [] [] W := @St.start (atW W) W (@InOk.mk (atW W) W [] (Nat.le_refl _) (by simp) (Below.refl _ _))
 letI : InW := atW W
 have hnew : NewFor (keys (Yc9 0 0 [(false, [.bool])] [[.b true]])) xs [] := fun i hi => by
  have e : keys (Yc9 0 0 [(false, [.bool])] [[.b true]]) = [] := rfl;rw [e] at hi; cases hi
 have hcall := hc (fun _ => ⟨0, false, 0, none, 0, undef, fun _ => False⟩) W [] [] W hnew hSt;rw [x2] at hcall;have e0 : args.toList.toArray = args := by simp
 rw [e0] at hcall;refine hcall.mono fun e W' ⟨φ', _, he, hS⟩ => ?_;have hb : Below W.heap.size W W' := @St.belowIn (atW W) _ _ _ _ hS;obtain ⟨hf1, hf2, hf3⟩ := hfn (ds ++ []) (by simpa using hlen);refine ⟨_, he, ds, [], p ++ [], [], p, [], hW0, ?_, ?_, ?_, ?_, fun h => by cases h⟩
 ·rw [hf1, hrt];exact ⟨[], [], ⟨1, by show DataW.trod enc P W' _ _ _ 1 tb [.bool true] = _; simp [DataW.trod, hub]⟩, rfl, rfl⟩
 ·rw [hf2, List.append_nil];exact Ypn hl hb hr hA
 ·rw [hs, hf3]; rfl
 ·refine World.keptBut_mono (fun x hx => ⟨hx, .inr (.inl (by simpa using hx))⟩) (hb.frame _)
end
theorem Yyr {P : Program} {cc : CC} {pre : DS -> Prop} (h : ∀ W : InW, @CallC W P cc) (ha : cc.args = []) (hH : cc.H = []) (ho : cc.outs = [⟨false, .lit (.bool true), [], false⟩]) (hs : ∀ (W : InW) (e : List (@Ed W)) (K : Nat -> List (@Ed W) -> Prop), @CC.spec cc W e K = K 0 []) : PureOk P cc.g [] [(false, [.bool])] pre fun _ => [[.b true]] := by
 intro W args ds hargs _ d _;obtain ⟨rfl, rfl⟩ := hargs;obtain ⟨j, e, o, v, r, ys', k1, k2, k3, k4, k5⟩ := h W [] [] [] [] (by rw [ha]; exact ⟨rfl, rfl⟩) (by rw [hH]; exact ⟨rfl, rfl⟩) (fun j e => j = 0 /\ e = []) (by rw [hs]; exact ⟨rfl, rfl⟩);obtain ⟨rfl, rfl⟩ := k1;rw [ho] at k2;cases k2;cases k3;cases k4;intro φ w0 M R w _ hS;refine (k5 φ w0 M R w (by simp [keys]) hS).mono fun e w' ⟨φ2, f1, f2, _, f4⟩ => ⟨φ, Agree.refl _ _, f2, f4⟩
end Go.Proofs.YtbhlmkgliflhaaaGreat
