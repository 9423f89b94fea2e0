/-
  A machine over abstract states, proved sound: the help of the proof of a law.
-/
import Derived.Test.YtladoaeefkpdiaaGreatDoorQd
import Derived.Carry
import Derived.OpenShut
import Derived.ChangeCalls
import Derived.ProofKit
set_option linter.unusedVariables false
set_option linter.unusedSectionVars false
set_option linter.unusedSimpArgs false
namespace Go.Proofs.YtladoaeefkpdiaaGreatDoor
open Go.RowKit
variable [InW]
attribute [local irreducible] Go.Oper.wp
def inL (t : Nat) : List Nat -> Bool
 | [] => false
 | u :: us => match Nat.beq u t with | true => true | false => inL t us
def Ygu (s : List (Nat × AV)) (J : List Nat) : Nat -> Nat -> List AV
 | _, 0 => []
 | t, n + 1 => (match Yc7 s t with | some y => y | none => (match inL t J with | true => .junk | false => .opq (oid t))) :: Ygu s J (t + 1) n
def Yeo (len : Nat) (s : List (Nat × AV)) (J : List Nat) : List AV := Ygu s J 0 len
theorem Yed (s : List (Nat × AV)) (J : List Nat) : ∀ (n t k : Nat), (Ygu s J t n)[k]? = if k < n then some (match Yc7 s (t + k) with | some y => y | none => (match inL (t + k) J with | true => .junk | false => .opq (oid (t + k)))) else none
 | 0, t, k => by simp [Ygu]
 | n + 1, t, 0 => by simp [Ygu]
 | n + 1, t, k + 1 => by simp [Ygu, Yed s J n (t + 1) k, show t + 1 + k = t + (k + 1) by omega]
theorem Ydo (s : List (Nat × AV)) (J : List Nat) : ∀ (n t : Nat), (Ygu s J t n).length = n
 | 0, _ => rfl
 | n + 1, t => by simp [Ygu, Ydo s J n]
theorem RepT.forget {φ : Phi} {len : Nat} {s : List (Nat × AV)} {J : List Nat} {a : Act} (h : RepT φ (tmOf len s) a) : RepT φ (Yeo len s J) a := by
 refine h.as (by rw [tmOf, Yeo, Yft, Ydo]) fun k x y hx hy => ?_;rw [tmOf, Yhh, Nat.zero_add] at hx;rw [Yeo, Yed, Nat.zero_add] at hy
 split at hx
 ·rename_i hk;rw [if_pos hk] at hy;have hx0 := hx;simp only [Option.some.injEq] at hx hy;have hget : (tmOf len s)[k]? = some x := by rw [tmOf, Yhh, if_pos hk, Nat.zero_add]; exact hx0
  split at hx
  ·rename_i y' hl;rw [hl] at hy;dsimp only at hy;subst hx;subst hy;cases hd : y'.isHeld with
   | false => exact .inl ⟨hd, hd, fun hr => h.slot k _ hget hr⟩
   | true => cases y' <;> first | exact .inr ⟨_, _, rfl, rfl, rfl⟩ | cases hd
  ·rename_i hl;rw [hl] at hy;subst hx;dsimp only at hy
   split at hy
   ·subst hy; exact .inl ⟨rfl, rfl, fun hr => by cases hr⟩
   ·subst hy; exact .inl ⟨rfl, rfl, fun hr => h.slot k _ hget hr⟩
 ·cases hx
def Ywb (s : List (Nat × AV)) (J : List Nat) : List AV -> Nat -> Bool
 | [], _ => true
 | x :: xs, t => match Yc7 s t with
  | some _ => Ywb s J xs (t + 1)
  | none => (match x with
   | .held _ => false
   | x => (match inL t J with
    | true => Ywb s J xs (t + 1)
    | false => (match x with | .opq i => (match Nat.beq i (oid t) with | true => Ywb s J xs (t + 1) | false => false) | _ => false)))
theorem Yp3 {s : List (Nat × AV)} {J : List Nat} : ∀ {xs : List AV} {t : Nat}, Ywb s J xs t = true -> ∀ (k : Nat) (x : AV), xs[k]? = some x -> (∃ y, Yc7 s (t + k) = some y) \/ (Yc7 s (t + k) = none /\ x.isHeld = false /\ (inL (t + k) J = true \/ (inL (t + k) J = false /\ x = .opq (oid (t + k)))))
 | [], _, _, k, x, h => by simp at h
 | z :: xs, t, hh, k, x, hx => by
  have both : Ywb s J xs (t + 1) = true /\ ((∃ y, Yc7 s t = some y) \/ (Yc7 s t = none /\ z.isHeld = false /\ (inL t J = true \/ (inL t J = false /\ z = .opq (oid t))))) := by
   unfold Ywb at hh
   split at hh
   ·rename_i y hy; exact ⟨hh, .inl ⟨y, hy⟩⟩
   ·rename_i hn
    split at hh
    ·cases hh
    ·rename_i hnh;have hz : z.isHeld = false := by cases z <;> first | rfl | exact (hnh _ rfl).elim
     split at hh
     ·rename_i hj; exact ⟨hh, .inr ⟨hn, hz, .inl hj⟩⟩
     ·rename_i hj
      split at hh
      ·split at hh
       ·rename_i hb; exact ⟨hh, .inr ⟨hn, hz, .inr ⟨hj, by rw [Ye.1 hb]⟩⟩⟩
       ·cases hh
      ·cases hh
  cases k with
  | zero =>
   simp only [List.getElem?_cons_zero, Option.some.injEq] at hx;subst hx;exact both.2
  | succ k =>
   have := Yp3 both.1 k x (by simpa using hx);rwa [show t + (k + 1) = t + 1 + k by omega]
def Ys1 : Bd -> Bool
 | [] => true
 | (p, s) :: b => (match s with | .id i => (match Nat.beq (p % 3) 1 with | true => Nat.beq i p | false => true) | _ => !(Nat.beq (p % 3) 1)) && Ys1 b
theorem Ypa : ∀ {B : Bd} {p : Nat} {s : Src'}, Ys1 B = true -> Ygz B p = some s -> p % 3 = 1 -> s = .id p
 | [], p, s, _, h, _ => by cases h
 | (q, u) :: b, p, s, hb, h, hp => by
  simp only [Ys1, Bool.and_eq_true] at hb;unfold Ygz at h
  split at h
  ·rename_i hq;cases h;have e := Ye.1 hq;dsimp only at e;subst e;cases u with
   | id i =>
    have h1 := hb.1;simp only [Ye.2 hp] at h1;rw [Ye.1 h1]
   | nil => have h1 := hb.1; simp only [Ye.2 hp, Bool.not_true, Bool.false_eq_true] at h1
   | conv _ _ => have h1 := hb.1; simp only [Ye.2 hp, Bool.not_true, Bool.false_eq_true] at h1
   | val _ => have h1 := hb.1; simp only [Ye.2 hp, Bool.not_true, Bool.false_eq_true] at h1
  ·exact Ypa hb.2 h hp
theorem Ywf {φ : Phi} {B : Bd} (h : Ys1 B = true) (x : Nat) : hB φ B (3 * x + 1) = φ (3 * x + 1) := by
 unfold hB;cases hl : Ygz B (3 * x + 1) with
 | none => rfl
 | some s => rw [Ypa h hl (by omega)]; rfl
def Ys0 : List (Nat × PI) -> Bd
 | [] => []
 | p :: h => match Nat.beq (p.1 % 3) 1 with | true => (p.1, .id p.1) :: Ys0 h | false => Ys0 h
def fitK (T : List (Nat × Pt)) (H : List (Nat × PI)) (J : List Nat) (tm : List AV) (hp : Heap) (Q : List Ed -> Prop) : Prop :=
 Yn8 T tm hp fun hp => Yxf tm T (Ys0 H) fun s B e1 => Yd0 H B hp fun ys B rest e2 => Yc (Ywb s J tm 0 && Ys1 B && Yfc (ys.map (·.1))) (Q (e1 ++ e2))
theorem Yua {T : List (Nat × Pt)} {H : List (Nat × PI)} {J : List Nat} {tm : List AV} {hp : Heap} {Q : List Ed -> Prop} (h : fitK T H J tm hp Q) : ∃ s ys e1 e2, Q (e1 ++ e2) /\ Yov T s e1 /\ Yir H ys e2 /\
  ∀ (φ0 φ : Phi) (w0 : World) (M : List Nat) (R : RL) (a : Act) (w : World), RepS φ0 φ w0 M R tm hp a w -> ∃ φ2, RepS φ0 φ2 w0 M R (Yeo tm.length s J) ys a w := by
 obtain ⟨hp1, h, hback⟩ := Yem h;obtain ⟨s, B1, e1, h1, h2, h3, h4⟩ := Yig T _ _ h;obtain ⟨ys, B2, rest, e2, k1, k2, k3, k3s, k4⟩ := Yfx H B1 hp1 _ h1;obtain ⟨hb, hk⟩ := Ya k1;simp only [Bool.and_eq_true] at hb;obtain ⟨⟨b1, b2⟩, b3⟩ := hb;refine ⟨s, ys, e1, e2, hk, h2, k2, fun φ0 φ w0 M R a w hr0 => ?_⟩;have hr := hback φ0 φ w0 M R tm a w hr0;refine ⟨hB φ B2, ?_, ?_, Ybk b3, fun x => by rw [Ywf b2]; exact hr.base x⟩
 ·refine hr.tmps.as (by rw [Yeo, Ydo]) fun k x y hx hy => ?_;rw [Yeo, Yed, Nat.zero_add] at hy
  split at hy
  ·simp only [Option.some.injEq] at hy;rcases Yp3 b1 k x hx with ⟨y', hl⟩ | ⟨hl, hnh, hj | ⟨hj, rfl⟩⟩
   ·rw [Nat.zero_add] at hl;rw [hl] at hy;subst hy;obtain ⟨x', hx', hf⟩ := h4 _ (Ynd hl);rw [hx] at hx';cases hx';rcases hf.ext k3 with ⟨f1, f2, f3⟩ | ⟨x1, y1, f1, f2, f3⟩
    ·exact .inl ⟨Yyt f1, Yyt f2, fun _ => by rw [f3 B2 (.refl _) φ]; exact hr.tmps.slot k x hx f1⟩
    ·dsimp only at f2;subst f1; subst f2;exact .inr ⟨_, _, rfl, rfl, f3 B2 (.refl _) φ⟩
   ·rw [Nat.zero_add] at hl hj;rw [hl, hj] at hy;subst hy;exact .inl ⟨hnh, rfl, fun hr => by cases hr⟩
   ·rw [Nat.zero_add] at hl hj hx;rw [hl, hj] at hy;subst hy;refine .inl ⟨rfl, rfl, fun _ => ?_⟩;have := hr.tmps.slot k _ hx rfl;rw [this]
    show some (φ (oid k)).v = some (hB φ B2 (oid k)).v
    have e : oid k = 3 * (1000 + k) + 1 := rfl;rw [e, Ywf b2]
  ·cases hy
 ·have := k4 B2 (.refl _) φ w0 M [] R w (by simpa using hr.st);simp only [List.nil_append] at this;exact this.sub ((List.Sublist.refl _).append (List.sublist_append_right _ _))
mutual
def insP : Pt -> List Ed -> Option (AV × List Ed)
 | .int k, es => (match es with | .i n :: es => some (.si k n, es) | _ => none)
 | .bool, es => (match es with | .b x :: es => some (.sb x, es) | _ => none)
 | .str, es => (match es with | .s x :: es => some (.ss x, es) | _ => none)
 | .lit v, es => some (.v v, es)
 | .ptr pid k, es => some (.ptr pid k, es)
 | .row pid, es => some (.rw pid, es)
 | .rs _, es => (match es with | .ro ts r :: es => some (.rs ts r, es) | _ => none)
 | .mp pid, es => some (.mp pid, es)
 | .yl pid, es => some (.yl pid, es)
 | .opq pid, es => some (.opq pid, es)
 | .agg ps, es => (match insL ps es with | some (ys, es) => some (.agg ys, es) | none => none)
 | .tup ps, es => (match insL ps es with | some (ys, es) => some (.tup ys, es) | none => none)
 | .fn f a b, es => (match insL a es with | some (xs, es) => (match insL b es with | some (ys, es) => some (.fn f xs ys, es) | none => none) | none => none)
 | .ifc t p, es => (match insP p es with | some (y, es) => some (.ifc t y, es) | none => none)
 | .held p, es => (match insP p es with | some (y, es) => some (.held y, es) | none => none)
 | .sl pid a b c, es => some (.sl pid a b c, es)
 | .slc pid a b c, es => some (.slc pid a b c, es)
 | .rwp pid sz, es => (match es with | .i l :: .i n :: es => some (.rwp pid sz l.toNat n.toNat, es) | _ => none)
 | .emp pid, es => some (.emp pid, es)
def insL : List Pt -> List Ed -> Option (List AV × List Ed)
 | [], es => some ([], es)
 | p :: ps, es => (match insP p es with | some (y, es) => (match insL ps es with | some (ys, es) => some (y :: ys, es) | none => none) | none => none)
end
mutual
theorem Ykh : ∀ (p : Pt) (y : AV) (es e : List Ed), Yow p y es -> insP p (es ++ e) = some (y, e)
 | .int k, _, _, e, ⟨n, rfl, rfl⟩ => rfl
 | .bool, _, _, e, ⟨n, rfl, rfl⟩ => rfl
 | .str, _, _, e, ⟨n, rfl, rfl⟩ => rfl
 | .lit v, _, _, e, ⟨rfl, rfl⟩ => rfl
 | .ptr pid k, _, _, e, ⟨rfl, rfl⟩ => rfl
 | .row pid, _, _, e, ⟨rfl, rfl⟩ => rfl
 | .rs _, _, _, e, ⟨r, rfl, rfl⟩ => rfl
 | .mp pid, _, _, e, ⟨rfl, rfl⟩ => rfl
 | .yl pid, _, _, e, ⟨rfl, rfl⟩ => rfl
 | .opq pid, _, _, e, ⟨rfl, rfl⟩ => rfl
 | .agg ps, _, es, e, ⟨xs, rfl, h⟩ => by unfold insP; rw [Yg5 ps xs es e h]
 | .tup ps, _, es, e, ⟨xs, rfl, h⟩ => by unfold insP; rw [Yg5 ps xs es e h]
 | .fn f a b, _, _, e, ⟨xs, ys, e1, e2, rfl, rfl, h1, h2⟩ => by
  unfold insP;rw [List.append_assoc, Yg5 a xs e1 (e2 ++ e) h1];simp only [Yg5 b ys e2 e h2]
 | .ifc t p, _, es, e, ⟨y, rfl, h⟩ => by unfold insP; rw [Ykh p y es e h]
 | .held p, _, es, e, ⟨y, rfl, h⟩ => by unfold insP; rw [Ykh p y es e h]
 | .sl pid a b c, _, _, e, ⟨rfl, rfl⟩ => rfl
 | .slc pid a b c, _, _, e, ⟨rfl, rfl⟩ => rfl
 | .rwp pid sz, _, _, e, ⟨l, n, rfl, rfl⟩ => rfl
 | .emp pid, _, _, e, ⟨rfl, rfl⟩ => rfl
theorem Yg5 : ∀ (ps : List Pt) (ys : List AV) (es e : List Ed), Yle ps ys es -> insL ps (es ++ e) = some (ys, e)
 | [], _, _, e, ⟨rfl, rfl⟩ => rfl
 | p :: ps, _, _, e, ⟨x, xs, e1, e2, rfl, rfl, h1, h2⟩ => by
  unfold insL;rw [List.append_assoc, Ykh p x e1 (e2 ++ e) h1];simp only [Yg5 ps xs e2 e h2]
end
def insT : List (Nat × Pt) -> List Ed -> Option (List (Nat × AV) × List Ed)
 | [], es => some ([], es)
 | (t, p) :: ps, es => (match insP p es with | some (y, es) => (match insT ps es with | some (ys, es) => some ((t, y) :: ys, es) | none => none) | none => none)
theorem Y1u : ∀ (ps : List (Nat × Pt)) (s : List (Nat × AV)) (es e : List Ed), Yov ps s es -> insT ps (es ++ e) = some (s, e)
 | [], _, _, e, ⟨rfl, rfl⟩ => rfl
 | (t, p) :: ps, _, _, e, ⟨x, xs, e1, e2, rfl, rfl, h1, h2⟩ => by
  unfold insT;rw [List.append_assoc, Ykh p x e1 (e2 ++ e) h1];simp only [Y1u ps xs e2 e h2]
def insI (p : PI) (es : List Ed) : Option (It × List Ed) :=
 match p with
 | .blk T ps => (match insL ps es with | some (ys, es) => some (.blk T ys, es) | none => none)
 | .arr T ts => (match es with | .l xs :: es => some (.arr T ts xs, es) | _ => none)
 | .row T sz n ps => (match insL ps es with | some (ys, es) => some (.row T sz n ys, es) | none => none)
 | .obj x => some (.obj x, es)
 | .mpI => (match es with | .m xs :: es => some (.obj (.mpI xs), es) | _ => none)
 | .mpP => (match es with | .l xs :: es => some (.obj (.mpP xs), es) | _ => none)
 | .lp L ps => (match insL ps es with | some (ys, es) => some (.lp L ys, es) | none => none)
 | .dead => some (.dead, es)
 | .nst T ts => (match es with | .l xs :: es => some (.nst T ts xs, es) | _ => none)
 | .fro ts => (match es with | .l xs :: es => some (.fro ts xs, es) | _ => none)
theorem Y6o (p : PI) (it : It) (es e : List Ed) (h : Y5b p it es) : insI p (es ++ e) = some (it, e) := by
 cases p with
 | blk T ps => obtain ⟨xs, rfl, h⟩ := h; unfold insI; simp only [Yg5 ps xs es e h]
 | arr T ts => obtain ⟨xs, rfl, rfl⟩ := h; rfl
 | row T sz n ps => obtain ⟨xs, rfl, h⟩ := h; unfold insI; simp only [Yg5 ps xs es e h]
 | obj x => obtain ⟨rfl, rfl⟩ := h; rfl
 | mpI => obtain ⟨xs, rfl, rfl⟩ := h; rfl
 | mpP => obtain ⟨xs, rfl, rfl⟩ := h; rfl
 | lp L ps => obtain ⟨xs, rfl, h⟩ := h; unfold insI; simp only [Yg5 ps xs es e h]
 | dead => obtain ⟨rfl, rfl⟩ := h; rfl
 | nst T ts => obtain ⟨xs, rfl, rfl⟩ := h; rfl
 | fro ts => obtain ⟨xs, rfl, rfl⟩ := h; rfl
def insH : List (Nat × PI) -> List Ed -> Option (Heap × List Ed)
 | [], es => some ([], es)
 | (pid, p) :: ps, es => (match insI p es with | some (y, es) => (match insH ps es with | some (ys, es) => some ((pid, y) :: ys, es) | none => none) | none => none)
theorem Ynk : ∀ (ps : List (Nat × PI)) (h : Heap) (es e : List Ed), Yir ps h es -> insH ps (es ++ e) = some (h, e)
 | [], _, _, e, ⟨rfl, rfl⟩ => rfl
 | (pid, p) :: ps, _, _, e, ⟨it, h', e1, e2, rfl, rfl, h1, h2⟩ => by
  unfold insH;rw [List.append_assoc, Y6o p it e1 (e2 ++ e) h1];simp only [Ynk ps h' e2 e h2]
end Go.Proofs.YtladoaeefkpdiaaGreatDoor
namespace Go.Proofs.YtladoaeefkpdiaaGreatDoor
open Go.RowKit
attribute [local irreducible] Go.Oper.wp
section
variable [InW]
def Yhx (base i : Nat) : Bool := match Nat.beq (i % 3) 0 with | true => Nat.blt i (3 * base) | false => true
def rhoB (B : Bd) (base p : Nat) : Nat := match Ygz B p with | some (.id i) => i | _ => 3 * (base + p)
def okP (B : Bd) (base p : Nat) : Bool :=
 match Ygz B p with
 | some (.id i) => Nat.beq (p % 3) 1 && Ycv p && Yhx base i
 | some (.val _) => false
 | some _ => Nat.beq (p % 3) 1 && Ycv p
 | none => Nat.beq (p % 3) 0
def Yb4 (φ φ2 : Phi) (base : Nat) : Phi := fun i => if i % 3 = 0 /\ base <= i / 3 then φ2 (i / 3 - base) else φ i
theorem Yd7 {φ φ2 : Phi} {base i : Nat} (h : Yhx base i = true) : Yb4 φ φ2 base i = φ i := by
 unfold Yb4;rw [if_neg];rintro ⟨h1, h2⟩;unfold Yhx at h;rw [Ye.2 h1] at h;have := by simpa [Nat.blt_eq] using h
 omega
structure Ends (B : Bd) (φ φ2 : Phi) (a : Act) : Prop where
 base : ∀ x, φ2 (3 * x + 1) = Yep φ B a (3 * x + 1)
theorem Ends.at {B : Bd} {φ φ2 : Phi} {a : Act} (h : Ends B φ φ2 a) {p : Nat} (hp : p % 3 = 1) (hl : Ycv p = true) : φ2 p = hB φ B p := by
 have e : p = 3 * (p / 3) + 1 := by omega
 rw [e, h.base, <- e, Y0 hl]
theorem Ybi {B : Bd} {φ φ2 : Phi} {a : Act} {base p : Nat} (h : Ends B φ φ2 a) (hp : okP B base p = true) : Yb4 φ φ2 base (rhoB B base p) = φ2 p := by
 have fresh : Yb4 φ φ2 base (3 * (base + p)) = φ2 p := by
  have h1 : 3 * (base + p) % 3 = 0 /\ base <= 3 * (base + p) / 3 := by omega
  have h2 : 3 * (base + p) / 3 - base = p := by omega
  simp only [Yb4, h1, and_self, if_true, h2]
 unfold okP at hp;unfold rhoB
 split at hp
 ·rename_i i hl;simp only [Bool.and_eq_true, Ye] at hp;rw [hl];dsimp only;rw [Yd7 hp.2, h.at hp.1.1 hp.1.2, Yc5 hl, hdOf]
 ·cases hp
 ·rename_i s hne1 hne2 hl;rw [hl];cases s <;> first | exact fresh | exact (hne1 _ rfl).elim | exact (hne2 _ rfl).elim
 ·rename_i hl;rw [hl];exact fresh
mutual
def outP (B : Bd) (base : Nat) : Pt -> List Ed -> (AV -> List Ed -> Prop) -> Prop
 | .int k, es, K => (match es with | .i n :: es => K (.si k n) es | _ => Stuck 460)
 | .bool, es, K => (match es with | .b x :: es => K (.sb x) es | _ => Stuck 461)
 | .str, es, K => (match es with | .s x :: es => K (.ss x) es | _ => Stuck 462)
 | .lit v, es, K => K (.v v) es
 | .ptr pid k, es, K => Yc (okP B base pid) (Y3 (rhoB B base pid) fun i => K (.ptr i k) es)
 | .row pid, es, K => Yc (okP B base pid) (Y3 (rhoB B base pid) fun i => K (.rw i) es)
 | .rs _, es, K => (match es with | .ro ts r :: es => K (.rs ts r) es | _ => Stuck 463)
 | .mp pid, es, K => Yc (okP B base pid) (Y3 (rhoB B base pid) fun i => K (.mp i) es)
 | .yl pid, es, K => Yc (okP B base pid) (Y3 (rhoB B base pid) fun i => K (.yl i) es)
 | .opq pid, es, K => (match Ygz B pid with
  | some (.val x) => Yc (Nat.beq (pid % 3) 1 && Ycv pid && x.ids (Yhx base) && x.rd) (K x es)
  | some (.id i) => Yc (okP B base pid) (K (.opq i) es)
  | none => Yc (okP B base pid) (Y3 (rhoB B base pid) fun i => K (.opq i) es)
  | _ => Stuck 464)
 | .agg ps, es, K => outL B base ps es fun xs es => K (.agg xs) es
 | .tup ps, es, K => outL B base ps es fun xs es => K (.tup xs) es
 | .fn f a b, es, K => outL B base a es fun xs es => outL B base b es fun ys es => K (.fn f xs ys) es
 | .ifc t p, es, K => outP B base p es fun x es => K (.ifc t x) es
 | .held p, es, K => outP B base p es fun x es => K (.held x) es
 | .sl pid a b c, es, K => Yc (okP B base pid) (Y3 (rhoB B base pid) fun i => K (.sl i a b c) es)
 | .slc pid a b c, es, K => Yc (okP B base pid) (Y3 (rhoB B base pid) fun i => K (.slc i a b c) es)
 | .rwp pid sz, es, K => (match es with | .i l :: .i n :: es => Yc (okP B base pid) (Y3 (rhoB B base pid) fun i => K (.rwp i sz l.toNat n.toNat) es) | _ => Stuck 485)
 | .emp pid, es, K => Yc (okP B base pid) (Y3 (rhoB B base pid) fun i => K (.emp i) es)
def outL (B : Bd) (base : Nat) : List Pt -> List Ed -> (List AV -> List Ed -> Prop) -> Prop
 | [], es, K => K [] es
 | p :: ps, es, K => outP B base p es fun x es => outL B base ps es fun xs es => K (x :: xs) es
end
mutual
theorem Ygt {B : Bd} {base : Nat} : ∀ (p : Pt) (es : List Ed) (K : AV -> List Ed -> Prop), outP B base p es K -> ∃ x y e, K x e /\ insP p es = some (y, e) /\ (∀ (φ φ2 : Phi) (a : Act), Ends B φ φ2 a -> x.conc (Yb4 φ φ2 base) = y.conc φ2) /\
  ((x.rd = true /\ y.rd = true) \/ ∃ x' y', x = .held x' /\ y = .held y' /\ ∀ (φ φ2 : Phi) (a : Act), Ends B φ φ2 a -> x'.conc (Yb4 φ φ2 base) = y'.conc φ2)
 | .int k, es, K, h => by
  unfold outP at h
  split at h
  ·exact ⟨_, _, _, h, rfl, fun _ _ _ _ => rfl, .inl ⟨rfl, rfl⟩⟩
  ·exact h.elim
 | .bool, es, K, h => by
  unfold outP at h
  split at h
  ·exact ⟨_, _, _, h, rfl, fun _ _ _ _ => rfl, .inl ⟨rfl, rfl⟩⟩
  ·exact h.elim
 | .str, es, K, h => by
  unfold outP at h
  split at h
  ·exact ⟨_, _, _, h, rfl, fun _ _ _ _ => rfl, .inl ⟨rfl, rfl⟩⟩
  ·exact h.elim
 | .lit v, es, K, h => by unfold outP at h; exact ⟨_, _, _, h, rfl, fun _ _ _ _ => rfl, .inl ⟨rfl, rfl⟩⟩
 | .ptr pid k, es, K, h => by
  unfold outP at h;obtain ⟨h1, h2⟩ := Ya h;exact ⟨_, _, _, Yk.1 h2, rfl, fun φ φ2 a he => by simp only [AV.conc, Ybi he h1], .inl ⟨rfl, rfl⟩⟩
 | .row pid, es, K, h => by
  unfold outP at h;obtain ⟨h1, h2⟩ := Ya h;exact ⟨_, _, _, Yk.1 h2, rfl, fun φ φ2 a he => by simp only [AV.conc, Ybi he h1], .inl ⟨rfl, rfl⟩⟩
 | .rs _, es, K, h => by
  unfold outP at h
  split at h
  ·exact ⟨_, _, _, h, rfl, fun _ _ _ _ => rfl, .inl ⟨rfl, rfl⟩⟩
  ·exact h.elim
 | .mp pid, es, K, h => by
  unfold outP at h;obtain ⟨h1, h2⟩ := Ya h;exact ⟨_, _, _, Yk.1 h2, rfl, fun φ φ2 a he => by simp only [AV.conc, Ybi he h1], .inl ⟨rfl, rfl⟩⟩
 | .yl pid, es, K, h => by
  unfold outP at h;obtain ⟨h1, h2⟩ := Ya h;exact ⟨_, _, _, Yk.1 h2, rfl, fun φ φ2 a he => by simp only [AV.conc, Ybi he h1], .inl ⟨rfl, rfl⟩⟩
 | .opq pid, es, K, h => by
  unfold outP at h
  split at h
  ·rename_i x hl;obtain ⟨h1, h2⟩ := Ya h;simp only [Bool.and_eq_true, Ye] at h1;obtain ⟨⟨⟨h11, h12⟩, h13⟩, h14⟩ := h1;refine ⟨_, _, _, h2, rfl, fun φ φ2 a he => ?_, .inl ⟨h14, rfl⟩⟩
   show x.conc (Yb4 φ φ2 base) = (φ2 pid).v
   rw [he.at h11 h12, Yc5 hl, hdOf];exact Yjt (fun i hi => Yd7 hi) x h13
  ·rename_i i hl;obtain ⟨h1, h2⟩ := Ya h;refine ⟨_, _, _, h2, rfl, fun φ φ2 a he => ?_, .inl ⟨rfl, rfl⟩⟩;have := Ybi he h1;simp only [rhoB, hl] at this;simp only [AV.conc, this]
  ·obtain ⟨h1, h2⟩ := Ya h;exact ⟨_, _, _, Yk.1 h2, rfl, fun φ φ2 a he => by simp only [AV.conc, Ybi he h1], .inl ⟨rfl, rfl⟩⟩
  ·exact h.elim
 | .agg ps, es, K, h => by
  unfold outP at h;obtain ⟨xs, ys, e, h1, h2, h3⟩ := Ydv ps es _ h;exact ⟨_, _, _, h1, by unfold insP; rw [h2], fun φ φ2 a he => by simp only [AV.conc, h3 φ φ2 a he], .inl ⟨rfl, rfl⟩⟩
 | .tup ps, es, K, h => by
  unfold outP at h;obtain ⟨xs, ys, e, h1, h2, h3⟩ := Ydv ps es _ h;exact ⟨_, _, _, h1, by unfold insP; rw [h2], fun φ φ2 a he => by simp only [AV.conc, h3 φ φ2 a he], .inl ⟨rfl, rfl⟩⟩
 | .fn f p q, es, K, h => by
  unfold outP at h;obtain ⟨xs, ys, e, h1, h2, h3⟩ := Ydv p es _ h;obtain ⟨us, vs, e2, k1, k2, k3⟩ := Ydv q e _ h1;exact ⟨_, .fn f ys vs, _, k1, by unfold insP; rw [h2]; simp only [k2], fun φ φ2 a he => by simp only [AV.conc, h3 φ φ2 a he, k3 φ φ2 a he], .inl ⟨rfl, rfl⟩⟩
 | .ifc t p, es, K, h => by
  unfold outP at h;obtain ⟨x, y, e, h1, h2, h3, _⟩ := Ygt p es _ h;exact ⟨_, _, _, h1, by unfold insP; rw [h2], fun φ φ2 a he => by simp only [AV.conc, h3 φ φ2 a he], .inl ⟨rfl, rfl⟩⟩
 | .held p, es, K, h => by
  unfold outP at h;obtain ⟨x, y, e, h1, h2, h3, _⟩ := Ygt p es _ h;exact ⟨_, _, _, h1, by unfold insP; rw [h2], fun φ φ2 a he => rfl, .inr ⟨x, y, rfl, rfl, h3⟩⟩
 | .sl pid _ _ _, es, K, h => by
  unfold outP at h;obtain ⟨h1, h2⟩ := Ya h;exact ⟨_, _, _, Yk.1 h2, rfl, fun φ φ2 a he => by simp only [AV.conc, Ybi he h1], .inl ⟨rfl, rfl⟩⟩
 | .slc pid _ _ _, es, K, h => by
  unfold outP at h;obtain ⟨h1, h2⟩ := Ya h;exact ⟨_, _, _, Yk.1 h2, rfl, fun φ φ2 a he => by simp only [AV.conc, Ybi he h1], .inl ⟨rfl, rfl⟩⟩
 | .rwp pid sz, es, K, h => by
  unfold outP at h
  split at h
  ·obtain ⟨h1, h2⟩ := Ya h;exact ⟨_, _, _, Yk.1 h2, rfl, fun φ φ2 a he => by simp only [AV.conc, Ybi he h1], .inl ⟨rfl, rfl⟩⟩
  ·exact h.elim
 | .emp pid, es, K, h => by
  unfold outP at h;obtain ⟨h1, h2⟩ := Ya h;exact ⟨_, _, _, Yk.1 h2, rfl, fun φ φ2 a he => by simp only [AV.conc, Ybi he h1], .inl ⟨rfl, rfl⟩⟩
theorem Ydv {B : Bd} {base : Nat} : ∀ (ps : List Pt) (es : List Ed) (K : List AV -> List Ed -> Prop), outL B base ps es K -> ∃ xs ys e, K xs e /\ insL ps es = some (ys, e) /\ ∀ (φ φ2 : Phi) (a : Act), Ends B φ φ2 a -> AV.concL (Yb4 φ φ2 base) xs = AV.concL φ2 ys
 | [], es, K, h => by unfold outL at h; exact ⟨_, _, _, h, rfl, fun _ _ _ _ => rfl⟩
 | p :: ps, es, K, h => by
  unfold outL at h;obtain ⟨x, y, e, h1, h2, h3, _⟩ := Ygt p es _ h;obtain ⟨xs, ys, e2, k1, k2, k3⟩ := Ydv ps e _ h1;exact ⟨_, y :: ys, _, k1, by unfold insL; rw [h2]; simp only [k2], fun φ φ2 a he => by simp only [AV.concL, h3 φ φ2 a he, k3 φ φ2 a he]⟩
end
def outT (B : Bd) (base : Nat) : List (Nat × Pt) -> List Ed -> (List (Nat × AV) -> List Ed -> Prop) -> Prop
 | [], es, K => K [] es
 | (t, p) :: ps, es, K => outP B base p es fun x es => outT B base ps es fun s es => K ((t, x) :: s) es
def outI (B : Bd) (base : Nat) (p : PI) (es : List Ed) (K : It -> List Ed -> Prop) : Prop :=
 match p with
 | .blk T ps => outL B base ps es fun xs es => K (.blk T xs) es
 | .arr T ts => (match es with | .l xs :: es => K (.arr T ts xs) es | _ => Stuck 465)
 | .row T sz n ps => outL B base ps es fun xs es => K (.row T sz n xs) es
 | .obj x => K (.obj x) es
 | .mpI => (match es with | .m xs :: es => K (.obj (.mpI xs)) es | _ => Stuck 478)
 | .mpP => (match es with | .l xs :: es => K (.obj (.mpP xs)) es | _ => Stuck 478)
 | .lp L ps => outL B base ps es fun xs es => K (.lp L xs) es
 | .dead => K .dead es
 | .nst T ts => (match es with | .l xs :: es => K (.nst T ts xs) es | _ => Stuck 465)
 | .fro ts => (match es with | .l xs :: es => K (.fro ts xs) es | _ => Stuck 465)
def outH (B : Bd) (base : Nat) : List (Nat × PI) -> List Ed -> (Heap -> List Ed -> Prop) -> Prop
 | [], es, K => K [] es
 | (pid, p) :: ps, es, K => Yc (okP B base pid) (outI B base p es fun it es => outH B base ps es fun h es => Y3 (rhoB B base pid) fun i => K ((i, it) :: h) es)
inductive Backs (B : Bd) (base : Nat) : List (Nat × AV) -> List (Nat × AV) -> Prop
 | nil : Backs B base [] []
 | cons {t : Nat} {x y : AV} {s s' : List (Nat × AV)} (hc : ∀ (φ φ2 : Phi) (a : Act), Ends B φ φ2 a -> x.conc (Yb4 φ φ2 base) = y.conc φ2)
   (hr : (x.rd = true /\ y.rd = true) \/ ∃ x' y', x = .held x' /\ y = .held y' /\ ∀ (φ φ2 : Phi) (a : Act), Ends B φ φ2 a -> x'.conc (Yb4 φ φ2 base) = y'.conc φ2) (h : Backs B base s s') : Backs B base ((t, x) :: s) ((t, y) :: s')
theorem Backs.look {B : Bd} {base : Nat} {s s' : List (Nat × AV)} (h : Backs B base s s') (k : Nat) : (Yc7 s k = none /\ Yc7 s' k = none) \/ ∃ x y, Yc7 s k = some x /\ Yc7 s' k = some y /\ (∀ (φ φ2 : Phi) (a : Act), Ends B φ φ2 a -> x.conc (Yb4 φ φ2 base) = y.conc φ2) /\
  ((x.rd = true /\ y.rd = true) \/ ∃ x' y', x = .held x' /\ y = .held y' /\ ∀ (φ φ2 : Phi) (a : Act), Ends B φ φ2 a -> x'.conc (Yb4 φ φ2 base) = y'.conc φ2) := by
 induction h with
 | nil => exact .inl ⟨rfl, rfl⟩
 | @cons t x y s s' hc hr _ ih =>
  unfold Yc7;cases hb : Nat.beq t k with
  | true => exact .inr ⟨x, y, rfl, rfl, hc, hr⟩
  | false => exact ih
theorem Yte {B : Bd} {base : Nat} : ∀ (ps : List (Nat × Pt)) (es : List Ed) (K : List (Nat × AV) -> List Ed -> Prop), outT B base ps es K -> ∃ s s' e, K s e /\ insT ps es = some (s', e) /\ Backs B base s s'
 | [], es, K, h => ⟨[], [], es, h, rfl, .nil⟩
 | (t, p) :: ps, es, K, h => by
  obtain ⟨x, y, e, h1, h2, h3, h4⟩ := Ygt p es _ h;obtain ⟨s, s', e2, k1, k2, k3⟩ := Yte ps e _ h1;exact ⟨_, (t, y) :: s', _, k1, by unfold insT; rw [h2]; simp only [k2], .cons h3 h4 k3⟩
theorem Y0x {B : Bd} {base pid : Nat} {p : PI} {es : List Ed} {K : It -> List Ed -> Prop} (h : outI B base p es K) (hp : okP B base pid = true) : ∃ it y e, K it e /\ insI p es = some (y, e) /\ ∀ (φ φ2 : Phi) (a : Act), Ends B φ φ2 a -> it.conc (Yb4 φ φ2 base) (rhoB B base pid) = y.conc φ2 pid := by
 cases p with
 | blk T ps =>
  obtain ⟨xs, ys, e, h1, h2, h3⟩ := Ydv _ es _ h;exact ⟨_, .blk T ys, _, h1, by unfold insI; simp only [h2], fun φ φ2 a he => by simp only [It.conc, h3 φ φ2 a he, Ybi he hp]⟩
 | arr T ts =>
  unfold outI at h;dsimp only at h
  split at h
  ·exact ⟨_, _, _, h, rfl, fun φ φ2 a he => by simp only [It.conc, Ybi he hp]⟩
  ·exact h.elim
 | row T sz n ps =>
  obtain ⟨xs, ys, e, h1, h2, h3⟩ := Ydv _ es _ h;exact ⟨_, .row T sz n ys, _, h1, by unfold insI; simp only [h2], fun φ φ2 a he => by simp only [It.conc, h3 φ φ2 a he, Ybi he hp]⟩
 | obj x => exact ⟨_, .obj x, _, h, rfl, fun φ φ2 a he => by simp only [It.conc, Ybi he hp]⟩
 | mpI =>
  unfold outI at h;dsimp only at h
  split at h
  ·exact ⟨_, _, _, h, rfl, fun φ φ2 a he => by simp only [It.conc, Ybi he hp]⟩
  ·exact h.elim
 | mpP =>
  unfold outI at h;dsimp only at h
  split at h
  ·exact ⟨_, _, _, h, rfl, fun φ φ2 a he => by simp only [It.conc, Ybi he hp]⟩
  ·exact h.elim
 | lp L ps =>
  obtain ⟨xs, ys, e, h1, h2, h3⟩ := Ydv _ es _ h;exact ⟨_, .lp L ys, _, h1, by unfold insI; simp only [h2], fun φ φ2 a he => by simp only [It.conc, h3 φ φ2 a he, Ybi he hp]⟩
 | dead => exact ⟨_, .dead, _, h, rfl, fun φ φ2 a he => rfl⟩
 | nst T ts =>
  unfold outI at h;dsimp only at h
  split at h
  ·exact ⟨_, _, _, h, rfl, fun φ φ2 a he => by simp only [It.conc, Ybi he hp]⟩
  ·exact h.elim
 | fro ts =>
  unfold outI at h;dsimp only at h
  split at h
  ·exact ⟨_, _, _, h, rfl, fun φ φ2 a he => by simp only [It.conc, Ybi he hp]⟩
  ·exact h.elim
theorem Ym6 {B : Bd} {base : Nat} : ∀ (ps : List (Nat × PI)) (es : List Ed) (K : Heap -> List Ed -> Prop), outH B base ps es K -> ∃ h h' e, K h e /\ insH ps es = some (h', e) /\ ∀ (φ φ2 : Phi) (a : Act), Ends B φ φ2 a -> Yb (Yb4 φ φ2 base) h = Yb φ2 h'
 | [], es, K, h => ⟨[], [], es, h, rfl, fun _ _ _ _ => rfl⟩
 | (pid, p) :: ps, es, K, h => by
  obtain ⟨hp, h⟩ := Ya h;obtain ⟨it, y, e, h1, h2, h3⟩ := Y0x h hp;obtain ⟨s, s', e2, k1, k2, k3⟩ := Ym6 ps e _ h1;refine ⟨_, (pid, y) :: s', _, Yk.1 k1, by unfold insH; rw [h2]; simp only [k2], fun φ φ2 a he => ?_⟩;have := k3 φ φ2 a he;simp only [Yb, List.map_cons, h3 φ φ2 a he] at this ⊢;rw [this]
def Yl5 (s : List (Nat × AV)) (J : List Nat) : List AV -> Nat -> (List AV -> Prop) -> Prop
 | [], _, K => K []
 | x :: xs, t, K => match Yc7 s t with
  | some y => Yl5 s J xs (t + 1) fun r => K (y :: r)
  | none => (match inL t J with | true => Yl5 s J xs (t + 1) fun r => K (.junk :: r) | false => Yl5 s J xs (t + 1) fun r => K (x :: r))
theorem Yl4 {s : List (Nat × AV)} {J : List Nat} : ∀ {xs : List AV} {t : Nat} {K : List AV -> Prop}, Yl5 s J xs t K -> ∃ r, K r /\ r.length = xs.length /\ ∀ (k : Nat) (x : AV), xs[k]? = some x -> r[k]? = some (match Yc7 s (t + k) with | some y => y | none => (match inL (t + k) J with | true => .junk | false => x))
 | [], t, K, h => ⟨[], h, rfl, fun k x hx => by simp at hx⟩
 | z :: xs, t, K, h => by
  have go : ∀ y, (Yl5 s J xs (t + 1) fun r => K (y :: r)) -> (y = match Yc7 s t with | some y => y | none => (match inL t J with | true => .junk | false => z)) -> ∃ r, K r /\ r.length = (z :: xs).length /\ ∀ (k : Nat) (x : AV), (z :: xs)[k]? = some x -> r[k]? = some (match Yc7 s (t + k) with | some y => y | none => (match inL (t + k) J with | true => .junk | false => x)) := fun y hy e => by
   obtain ⟨r, h1, h2, h3⟩ := Yl4 hy;refine ⟨y :: r, h1, by simp [h2], fun k x hx => ?_⟩;cases k with
   | zero =>
    simp only [List.getElem?_cons_zero, Option.some.injEq] at hx;subst hx;simp only [List.getElem?_cons_zero, Nat.add_zero, e]
   | succ k =>
    have := h3 k x (by simpa using hx);rw [show t + (k + 1) = t + 1 + k by omega];simpa using this
  unfold Yl5 at h
  split at h
  ·rename_i y hy;exact go y h (by rw [hy])
  ·rename_i hn
   split at h
   ·rename_i hj; exact go _ h (by rw [hn, hj])
   ·rename_i hj; exact go _ h (by rw [hn, hj])
def Yp7 (base : Nat) : List AV -> Bool
 | [] => true
 | x :: xs => x.ids (Yhx base) && Yp7 base xs
def hOld (base : Nat) : Heap -> Bool
 | [] => true
 | p :: h => Yhx base p.1 && p.2.ids (Yhx base) && hOld base h
theorem Yp6 {base : Nat} : ∀ {xs : List AV}, Yp7 base xs = true -> ∀ x ∈ xs, x.ids (Yhx base) = true
 | [], _, x, hx => by cases hx
 | y :: ys, h, x, hx => by
  simp only [Yp7, Bool.and_eq_true] at h;rcases List.mem_cons.1 hx with rfl | hx
  ·exact h.1
  ·exact Yp6 h.2 x hx
theorem Yt6 {base : Nat} {φ φ2 : Phi} : ∀ {h : Heap}, hOld base h = true -> Yb (Yb4 φ φ2 base) h = Yb φ h
 | [], _ => rfl
 | p :: h, hh => by
  simp only [hOld, Bool.and_eq_true] at hh;have := Yt6 (φ := φ) (φ2 := φ2) hh.2;simp only [Yb, List.map_cons, Ywc (p := Yhx base) (fun i hi => Yd7 hi) hh.1.1 p.2 hh.1.2] at this ⊢;rw [this]
theorem Yu2 {B : Bd} {base len : Nat} {tm tm' : List AV} {rest hO hI : Heap} {s s' : List (Nat × AV)} {J : List Nat} (hlen : tm.length = len) (hback : Backs B base s s') (htm : tm'.length = tm.length /\ ∀ (k : Nat) (x : AV), tm[k]? = some x -> tm'[k]? = some (match Yc7 s k with | some y => y | none => (match inL k J with | true => .junk | false => x)))
  (hheld : ∀ (k : Nat) (x : AV), tm[k]? = some x -> x.isHeld = true -> ∃ y, Yc7 s k = some y) (hold : Yp7 base tm = true) (hrest : hOld base rest = true) (hH : ∀ (φ φ2 : Phi) (a : Act), Ends B φ φ2 a -> Yb (Yb4 φ φ2 base) hO = Yb φ2 hI) (hnd : (keys (rest ++ hO)).Nodup)
  {φ0 φ φ2 : Phi} {w0 : World} {M : List Nat} {R : RL} {a a' : Act} {w w' : World} {hp : Heap} (hr : RepS φ0 φ w0 M R tm hp a w) (hr2 : RepS (Yx2 (Yep φ B a)) φ2 w0 M (Yb φ rest ++ R) (Yeo len s' J) hI a' w') :
  RepS φ0 (Yb4 φ φ2 base) w0 M R tm' (rest ++ hO) a' w' := by
 have he : Ends B φ φ2 a := ⟨fun x => hr2.base x⟩;refine ⟨?_, ?_, hnd, fun x => ?_⟩
 ·refine hr2.tmps.as (by rw [Yeo, Ydo, htm.1, hlen]) fun k x y hx hy => ?_;rw [Yeo, Yed, Nat.zero_add] at hx
  split at hx
  ·rename_i hk;have hx0 := hx;have hget : (Yeo len s' J)[k]? = some x := by rw [Yeo, Yed, if_pos hk, Nat.zero_add]; exact hx0
   simp only [Option.some.injEq] at hx;have hk2 : k < tm.length := by omega
   have hz := htm.2 k tm[k] (List.getElem?_eq_getElem hk2);rw [hy] at hz;simp only [Option.some.injEq] at hz;rcases hback.look k with ⟨h1, h2⟩ | ⟨u, v, h1, h2, h3, h4⟩
   ·rw [h2] at hx;rw [h1] at hz;dsimp only at hx hz;have hnh : tm[k].isHeld = false := by
     cases hd : tm[k].isHeld with
     | false => rfl
     | true => obtain ⟨q, hq⟩ := hheld k _ (List.getElem?_eq_getElem hk2) hd; rw [h1] at hq; cases hq
    cases hj : inL k J with
    | true =>
     rw [hj] at hx hz;subst hx; subst hz;exact .inl ⟨rfl, rfl, fun h => by cases h⟩
    | false =>
     rw [hj] at hx hz;subst hx; subst hz;refine .inl ⟨rfl, hnh, fun hrd => ?_⟩;have e1 := hr2.tmps.slot k _ hget rfl;have e2 := hr.tmps.slot k _ (List.getElem?_eq_getElem hk2) hrd;rw [e1, Yjt (p := Yhx base) (fun i hi => Yd7 hi) _ (Yp6 hold _ (List.getElem_mem hk2))]
     show some (φ2 (oid k)).v = some (tm[k].conc φ)
     have e3 : φ2 (oid k) = Yep φ B a (oid k) := he.base (1000 + k);rw [e3, Yta];simp [Array.getD_eq_getD_getElem?, e2]
   ·rw [h2] at hx;rw [h1] at hz;dsimp only at hx hz;subst hx; subst hz;rcases h4 with ⟨h5, h6⟩ | ⟨u', v', rfl, rfl, h5⟩
    ·exact .inl ⟨Yyt h6, Yyt h5, fun _ => by rw [h3 φ φ2 a he]; exact hr2.tmps.slot k _ hget h6⟩
    ·exact .inr ⟨_, _, rfl, rfl, h5 φ φ2 a he⟩
  ·cases hx
 ·rw [Yn, Yt6 hrest, hH φ φ2 a he];have := hr2.st;refine this.perm ?_;rw [<- List.append_assoc];exact List.perm_append_comm.append_right R
 ·have e : Yhx base (3 * x + 1) = true := by
   unfold Yhx;rw [Y4.2 (by omega : (3 * x + 1) % 3 ≠ 0)]
  rw [Yd7 e];exact hr.base x
end
end Go.Proofs.YtladoaeefkpdiaaGreatDoor
namespace Go.Proofs.YtladoaeefkpdiaaGreatDoor
open Go.RowKit
attribute [local irreducible] Go.Oper.wp
inductive OK where
 | norm
 | exit (i : Nat)
 | ret
 | pan (v : Value)
structure Out where
 kind : OK
 T : List (Nat × Pt)
 H : List (Nat × PI)
 junk : List Nat
structure LC where
 len : Nat
 T : List (Nat × Pt)
 H : List (Nat × PI)
 W : List Nat
 outs : List Out
 spec : [InW] -> List Ed -> (Nat -> List Ed -> Prop) -> Prop
section
variable [W : InW]
def OK.ax : OK -> AX
 | .norm => .norm
 | .exit i => .exit i
 | .ret => .ret
 | .pan v => .pan (.v v)
def LoopC (P : Program) (a : Code) (lc : LC) : Prop :=
 ∀ s ys e1 e2, Yov lc.T s e1 -> Yir lc.H ys e2 -> ∀ K, lc.spec (e1 ++ e2) K -> ∃ j e o s' r ys', K j e /\ lc.outs[j]? = some o /\ insT o.T e = some (s', r) /\ insH o.H r = some (ys', []) /\
  BigT (fun Q ac w => InLoop P a Q ac w) (Yeo lc.len s lc.W) ys o.kind.ax (Yeo lc.len s' o.junk) ys'
def maxL : List Nat -> Nat -> Nat
 | [], m => m
 | i :: is, m => match Nat.ble i m with | true => maxL is m | false => maxL is i
def Yrm (tm : List AV) (hp : Heap) : List Nat := AV.leadL tm (Y6l hp (hp.map (·.1)))
def Yxj (lc : LC) (tm : List AV) (hp : Heap) (K : KX) : Prop :=
 Yc (lenB tm lc.len) (Y5o lc.T lc.H tm hp fun s ys B rest es => Y3 (maxL (Yrm tm hp) 1024) fun base =>
  Yc (Yp7 base tm && hOld base rest) (lc.spec es fun j e => match lc.outs[j]? with
   | none => Stuck 470
   | some o => outT B base o.T e fun s' r => outH B base o.H r fun hO r => (match r with
    | _ :: _ => Stuck 471
    | [] => Yc (Yk7 s' tm 0 && Yfc ((rest ++ hO).map (·.1))) (Yl5 s' o.junk tm 0 fun tm' => appK rest hO fun hp' => K o.kind.ax tm' hp'))))
theorem Yv4 {P : Program} {a : Code} {lc : LC} (hc : LoopC P a lc) : Yod P a (Yxj lc) := by
 intro tm hp K h;obtain ⟨hlen, h⟩ := Ya h;have hlen := Y2 hlen;obtain ⟨s, ys, B, rest, e1, e2, h1, h2, h3, h4, h5, h6, h7, h8⟩ := Ywk h;have h1 := Yk.1 h1;generalize maxL (Yrm tm hp) 1024 = base at h1;obtain ⟨hb, h1⟩ := Ya h1;rw [Bool.and_eq_true] at hb;obtain ⟨j, e, o, s', r, ys', k1, k2, k3, k4, k5⟩ := hc s ys e1 e2 h2 h3 _ h1;rw [k2] at k1;obtain ⟨sO, s2, r2, m1, m2, m3⟩ := Yte _ _ _ k1;rw [k3] at m2;cases m2;obtain ⟨hO, h2', r3, n1, n2, n3⟩ := Ym6 _ _ _ m1;rw [k4] at n2;cases n2;dsimp only at n1;obtain ⟨hnd, n1⟩ := Ya n1;rw [Bool.and_eq_true] at hnd;have hhe : ∀ (k : Nat) (x : AV), tm[k]? = some x -> x.isHeld = true -> ∃ y, Yc7 sO k = some y := fun k x hx hh => by
  have := Yik hnd.1 k x hx hh;rwa [Nat.zero_add] at this
 obtain ⟨tm', p1, p2, p3⟩ := Yl4 n1;have p4 := Yct.1 p1;refine ⟨o.kind.ax, tm', rest ++ hO, p4, fun φ0 φ w0 M R ac w hr Q kk => ?_⟩;have hin := h8 φ0 φ w0 M R ac w hr;rw [hlen] at hin;have hin2 : RepS (Yx2 (Yep φ B ac)) (Yep φ B ac) w0 M (Yb φ rest ++ R) (Yeo lc.len s lc.W) ys ac w := ⟨hin.tmps.forget, hin.st, hin.nd, hin.base⟩;refine k5 _ _ w0 M _ ac w hin2 Q fun φ2 x a' w' hx hr2 => ?_;have hx2 : ∀ φ, o.kind.ax.is φ x := fun φ => by
  cases hk : o.kind <;> rw [hk] at hx <;> exact hx
 exact kk _ x a' w' (hx2 _) (Yu2 hlen m3 ⟨p2, fun k x hx => by have := p3 k x hx; rwa [Nat.zero_add] at this⟩ hhe hb.1 hb.2 n3 (Ybk hnd.2) hr hr2)
def Yv5 (lc : LC) (tm : List AV) (hp : Heap) (K : KX) : Prop := Yn8 lc.T tm hp fun hp => Yxj lc tm hp K
theorem Yy5 {P : Program} {a : Code} {lc : LC} (hc : LoopC P a lc) : Yod P a (Yv5 lc) := by
 intro tm hp K h;obtain ⟨hp1, h1, h2⟩ := Yem h;obtain ⟨x, tm', hp', h3, h4⟩ := Yv4 hc tm hp1 K h1;exact ⟨x, tm', hp', h3, fun φ0 φ w0 M R ac w hr Q kk => h4 φ0 φ w0 M R ac w (h2 φ0 φ w0 M R tm ac w hr) Q kk⟩
def Y7t : OK -> AX -> Bool
 | .norm, .norm => true
 | .exit i, .exit j => Nat.beq i j
 | .ret, .ret => true
 | .pan v, .pan (.v u) => Ycz u v
 | _, _ => false
def Ytx : List Out -> Nat -> AX -> List AV -> Heap -> (Nat -> List Ed -> Prop) -> Prop
 | [], _, _, _, _, _ => Stuck 472
 | o :: os, j, x, tm, hp, Q => match Y7t o.kind x with
  | true => fitK o.T o.H o.junk tm hp fun e => Q j e
  | false => Ytx os (j + 1) x tm hp Q
def Yw5 (lc : LC) (Again : List Ed -> Prop) (Q : Nat -> List Ed -> Prop) (x : AX) (tm : List AV) (hp : Heap) : Prop :=
 Yc (lenB tm lc.len) (match x with
 | .norm => fitK lc.T lc.H lc.W tm hp Again
 | x => Ytx lc.outs 0 x tm hp Q)
theorem Ynf : ∀ {os : List Out} {j : Nat} {x : AX} {tm : List AV} {hp : Heap} {Q : Nat -> List Ed -> Prop}, Ytx os j x tm hp Q -> ∃ (k : Nat) (o : Out) (s : List (Nat × AV)) (ys : Heap) (e1 e2 : List Ed), Q (j + k) (e1 ++ e2) /\ os[k]? = some o /\ o.kind.ax = x /\ insT o.T (e1 ++ e2) = some (s, e2) /\ insH o.H e2 = some (ys, []) /\
  ∀ (φ0 φ : Phi) (w0 : World) (M : List Nat) (R : RL) (a : Act) (w : World), RepS φ0 φ w0 M R tm hp a w -> ∃ φ2, RepS φ0 φ2 w0 M R (Yeo tm.length s o.junk) ys a w
 | [], _, _, _, _, _, h => h.elim
 | o :: os, j, x, tm, hp, Q, h => by
  unfold Ytx at h
  split at h
  ·rename_i hk;obtain ⟨s, ys, e1, e2, h1, h2, h3, h4⟩ := Yua h;refine ⟨0, o, s, ys, e1, e2, h1, rfl, ?_, Y1u _ _ _ _ h2, by have := Ynk _ _ _ [] h3; rwa [List.append_nil] at this, h4⟩;unfold Y7t at hk
   split at hk <;> first | (rename_i h1; rw [h1]; rfl) | skip
   ·rename_i i j h1; rw [h1, Ye.1 hk]; rfl
   ·rename_i v u h1; rw [h1, Yd4 _ _ hk]; rfl
   ·cases hk
  ·obtain ⟨k, o', s, ys, e1, e2, h1, h2, h3⟩ := Ynf h;exact ⟨k + 1, o', s, ys, e1, e2, by rw [show j + (k + 1) = j + 1 + k by omega]; exact h1, by simpa using h2, h3⟩
theorem LoopC.of {c : Cx} (hcL : HandOkL c) (hm : c.P.follows .mixedOrders = true) (n : Nat) {root : Code} (hroot : (c.P.funcs[c.fn]?).bind (·.body) = some root) {a : Code} (hsub : Sub root (.loop a)) {lc : LC} (meas : List Ed -> Nat)
  (hb : ∀ s ys e1 e2, Yov lc.T s e1 -> Yir lc.H ys e2 -> ∀ K, lc.spec (e1 ++ e2) K -> Ygb c n a (Yeo lc.len s lc.W) ys (Yw5 lc (fun e => meas e < meas (e1 ++ e2) /\ lc.spec e K) K)) : LoopC c.P a lc := by
 have key : ∀ m s ys e1 e2, meas (e1 ++ e2) = m -> Yov lc.T s e1 -> Yir lc.H ys e2 -> ∀ K, lc.spec (e1 ++ e2) K -> ∃ j e o s' r ys', K j e /\ lc.outs[j]? = some o /\ insT o.T e = some (s', r) /\ insH o.H r = some (ys', []) /\
   BigT (fun Q ac w => InLoop c.P a Q ac w) (Yeo lc.len s lc.W) ys o.kind.ax (Yeo lc.len s' o.junk) ys' := by
  intro m
  induction m using Nat.strongRecOn with
  | _ m ih =>
   intro s ys e1 e2 hme hT hH K hs;obtain ⟨x, tm1, hp1, h1, h2⟩ := Yh4 hcL hm n hroot a hsub.loop _ _ _ (hb s ys e1 e2 hT hH K hs);have out : Ytx lc.outs 0 x tm1 hp1 K -> (∀ φ e, x.is φ e -> e ≠ .normal) -> tm1.length = lc.len -> ∃ j e o s' r ys', K j e /\ lc.outs[j]? = some o /\ insT o.T e = some (s', r) /\ insH o.H r = some (ys', []) /\
     BigT (fun Q ac w => InLoop c.P a Q ac w) (Yeo lc.len s lc.W) ys o.kind.ax (Yeo lc.len s' o.junk) ys' := fun h hne hlen => by
    obtain ⟨k, o, s', ys', f1, f2, g1, g2, g3, g4, g5, g6⟩ := Ynf h;rw [Nat.zero_add] at g1;refine ⟨k, _, o, s', _, ys', g1, g2, g4, g5, fun φ0 φ w0 M R ac w hr Q kk => InLoop.round (h2 φ0 φ w0 M R ac w hr _ fun φ2 e a' w' hx hr2 => ?_)⟩;have he := hne φ2 e hx;obtain ⟨φ3, hr3⟩ := g6 φ0 φ2 w0 M R a' w' hr2;rw [hlen] at hr3;have hx3 : o.kind.ax.is φ3 e := by
     rw [g3];have : o.kind.ax.is φ2 e := by rw [g3]; exact hx
     rw [<- g3];cases hk : o.kind <;> rw [hk] at this <;> exact this
    cases e <;> first | exact absurd rfl he | exact kk φ3 _ a' w' hx3 hr3
   unfold Yw5 at h1;obtain ⟨hlen, h1⟩ := Ya h1;have hlen := Y2 hlen
   split at h1
   ·obtain ⟨s2, ys2, f1, f2, g1, g2, g3, g4⟩ := Yua h1;obtain ⟨j, e, o, s', r, ys', k1, k2, k3, k4, k5⟩ := ih _ (hme ▸ g1.1) s2 ys2 f1 f2 rfl g2 g3 K g1.2;refine ⟨j, e, o, s', r, ys', k1, k2, k3, k4, fun φ0 φ w0 M R ac w hr Q kk => InLoop.round (h2 φ0 φ w0 M R ac w hr _ fun φ2 e2 a' w' hx hr2 => ?_)⟩;obtain ⟨φ3, hr3⟩ := g4 φ0 φ2 w0 M R a' w' hr2;rw [hlen] at hr3;cases hx;exact k5 φ0 φ3 w0 M R a' w' hr3 Q kk
   ·rename_i hnn;refine out h1 (fun φ e hx he => ?_) hlen;subst he;cases x <;> first | exact hnn rfl | cases hx | exact hx.elim | skip
 intro s ys e1 e2 hT hH K hs;exact key _ s ys e1 e2 rfl hT hH K hs
end
end Go.Proofs.YtladoaeefkpdiaaGreatDoor
namespace Go.Proofs.YtladoaeefkpdiaaGreatDoor
open Go.RowKit
attribute [local irreducible] Go.Oper.wp
theorem Sub.trans {a b c : Code} (h1 : Sub a b) (h2 : Sub b c) : Sub a c := by
 induction h2 with
 | refl => exact h1
 | seqL _ ih => exact ih.seqL
 | seqR _ ih => exact ih.seqR
 | condL _ ih => exact ih.condL
 | condR _ ih => exact ih.condR
 | block _ ih => exact ih.block
 | loop _ ih => exact ih.loop
 | scope _ ih => exact ih.scope
theorem Yci : ∀ {body a : Code}, a ∈ Y1 body -> Sub body (.loop a)
 | .seq x y, a, h => by
  simp only [Y1, List.mem_append] at h;rcases h with h | h
  ·exact Sub.trans (.seqL .refl) (Yci h)
  ·exact Sub.trans (.seqR .refl) (Yci h)
 | .cond _ x y, a, h => by
  simp only [Y1, List.mem_append] at h;rcases h with h | h
  ·exact Sub.trans (.condL .refl) (Yci h)
  ·exact Sub.trans (.condR .refl) (Yci h)
 | .block _ x, a, h => Sub.trans (.block .refl) (Yci (by simpa [Y1] using h))
 | .loop x, a, h => by
  simp only [Y1, List.mem_cons] at h;rcases h with rfl | h
  ·exact .refl
  ·exact Sub.trans (.loop .refl) (Yci h)
 | .scope x, a, h => Sub.trans (.scope .refl) (Yci (by simpa [Y1] using h))
 | .region _ _ _, a, h => by simp [Y1] at h
 | .exit _, a, h => by simp [Y1] at h
 | .ret, a, h => by simp [Y1] at h
 | .skip, a, h => by simp [Y1] at h
def Yt1 (k : Nat) : List Code -> List Code
 | [] => []
 | a :: bs => match Nat.beq (Yg1 a) k with | true => a :: Yt1 k bs | false => Yt1 k bs
theorem Yni {k : Nat} : ∀ {bs : List Code} {a : Code}, a ∈ bs -> Yg1 a = k -> a ∈ Yt1 k bs
 | b :: bs, a, h, hk => by
  unfold Yt1;rcases List.mem_cons.1 h with rfl | h
  ·have e : Nat.beq (Yg1 a) k = true := by subst hk; exact Nat.beq_refl _
   rw [e]; simp
  ·split
   ·exact List.mem_cons_of_mem _ (Yni h hk)
   ·exact Yni h hk
theorem Ynh {k : Nat} : ∀ {bs : List Code} {a : Code}, a ∈ Yt1 k bs -> a ∈ bs
 | b :: bs, a, h => by
  unfold Yt1 at h
  split at h
  ·rcases List.mem_cons.1 h with rfl | h
   ·simp
   ·exact List.mem_cons_of_mem _ (Ynh h)
  ·exact List.mem_cons_of_mem _ (Ynh h)
def Yk8 (P : Program) (g : FuncId) : Code := ((P.funcs[g]?).bind (·.body)).getD .skip
def Yfy (P : Program) (g : FuncId) (k : Nat) : List Code := Yt1 k (Y1 (Yk8 P g))
def Ypx (P : Program) (g : FuncId) (k : Nat) : Code := (Yfy P g k).headD .skip
theorem Y1l {P : Program} {g : FuncId} {key : Nat} (h1 : (match Yfy P g key with | [_] => true | _ => false) = true) : (∀ (body a : Code), (P.funcs[g]?).bind (·.body) = some body -> a ∈ Y1 body -> Yg1 a = key -> a = Ypx P g key) /\ Sub (Yk8 P g) (.loop (Ypx P g key)) := by
 have key1 : ∃ x, Yfy P g key = [x] := by
  revert h1
  split
  ·rename_i x h; exact fun _ => ⟨x, h⟩
  ·exact fun h => by cases h
 obtain ⟨x, hx⟩ := key1;have hl : Ypx P g key = x := by unfold Ypx; rw [hx]; rfl
 refine ⟨fun body a hb ha hk => ?_, ?_⟩
 ·have e : Yk8 P g = body := by unfold Yk8; rw [hb]; rfl
  have h2 : a ∈ Yfy P g key := Yni (by rw [e]; exact ha) hk;rw [hx] at h2;rw [hl];simpa using h2
 ·rw [hl];refine Yci (Ynh (k := key) ?_)
  show x ∈ Yfy P g key
  rw [hx]; simp
theorem Y1s {P : Program} {g : FuncId} {key : Nat} (h1 : (match Yfy P g key with | [_] => true | _ => false) = true) : (P.funcs[g]?).bind (·.body) = some (Yk8 P g) := by
 unfold Yk8;cases hb : (P.funcs[g]?).bind (·.body) with
 | some b => rfl
 | none =>
  unfold Yfy Yk8 at h1;rw [hb] at h1;simp [Y1, Yt1] at h1
theorem LE.okOf {P : Program} (tt : (W : InW) -> @Tr (@TI W)) (ht : ∀ W : InW, @TabOk W P (tt W)) (hm : P.follows .mixedOrders = true) (T : Tab P) (n m : Nat) {g : FuncId} {key : Nat} (h1 : (match Yfy P g key with | [_] => true | _ => false) = true) (lc : LC) (meas : (W : InW) -> List (@Ed W) -> Nat)
  (hb : ∀ (W : InW) (s : List (Nat × @AV W)) (ys : @Heap W) (e1 e2 : List (@Ed W)), @Yov W lc.T s e1 -> @Yir W lc.H ys e2 -> ∀ K, @LC.spec lc W (e1 ++ e2) K -> @Ygb W { @cxT W P (tt W) T n m with fn := g } n (Ypx P g key) (@Yeo W lc.len s lc.W) ys (@Yw5 W lc (fun e => meas W e < meas W (e1 ++ e2) /\ @LC.spec lc W e K) K)) :
  ∀ (W : InW) (body a : Code), (P.funcs[g]?).bind (·.body) = some body -> a ∈ Y1 body -> Yg1 a = key -> @Yod W P a (@Yv5 W lc) := by
 intro W body a hbd ha hk;obtain ⟨h2, h3⟩ := Y1l h1;rw [h2 body a hbd ha hk];refine Yy5 ?_;have hP := Y2w P (tt W) T n m;have hL := (Yus (T := T) (ht W) hm n m).at g;have := LoopC.of (c := { @cxT W P (tt W) T n m with fn := g }) hL (by rw [show ({ @cxT W P (tt W) T n m with fn := g } : Cx).P = P from hP]; exact hm) n (root := Yk8 P g) (by
  show ((cxT P (tt W) T n m).P.funcs[g]?).bind (·.body) = _
  rw [hP]; exact Y1s h1) h3 (lc := lc) (meas W) (hb W)
 rw [show ({ @cxT W P (tt W) T n m with fn := g } : Cx).P = P from hP] at this;exact this
end Go.Proofs.YtladoaeefkpdiaaGreatDoor
namespace Go.Proofs.YtladoaeefkpdiaaGreatDoor
open Go.RowKit
attribute [local irreducible] Go.Oper.wp
section
variable [W : InW]
mutual
def AllP : Pt -> (AV -> List Ed -> Prop) -> Prop
 | .int k, M => ∀ n, M (.si k n) [.i n]
 | .bool, M => ∀ b, M (.sb b) [.b b]
 | .str, M => ∀ s, M (.ss s) [.s s]
 | .lit v, M => M (.v v) []
 | .ptr pid k, M => M (.ptr pid k) []
 | .row pid, M => M (.rw pid) []
 | .rs ts, M => ∀ r : Ro ts, M (.rs ts r) [.ro ts r]
 | .mp pid, M => M (.mp pid) []
 | .yl pid, M => M (.yl pid) []
 | .opq pid, M => M (.opq pid) []
 | .agg ps, M => AllL ps fun xs es => M (.agg xs) es
 | .tup ps, M => AllL ps fun xs es => M (.tup xs) es
 | .fn f a b, M => AllL a fun xs e1 => AllL b fun ys e2 => M (.fn f xs ys) (e1 ++ e2)
 | .ifc t p, M => AllP p fun y es => M (.ifc t y) es
 | .held p, M => AllP p fun y es => M (.held y) es
 | .sl pid a b c, M => M (.sl pid a b c) []
 | .slc pid a b c, M => M (.slc pid a b c) []
 | .rwp pid sz, M => ∀ l n : Nat, M (.rwp pid sz l n) [.i l, .i n]
 | .emp pid, M => M (.emp pid) []
def AllL : List Pt -> (List AV -> List Ed -> Prop) -> Prop
 | [], M => M [] []
 | p :: ps, M => AllP p fun x e1 => AllL ps fun xs e2 => M (x :: xs) (e1 ++ e2)
end
mutual
theorem Yjw : ∀ {p : Pt} {M : AV -> List Ed -> Prop} {x : AV} {es : List Ed}, AllP p M -> Yow p x es -> M x es
 | .int k, M, _, _, h, ⟨n, rfl, rfl⟩ => h n
 | .bool, M, _, _, h, ⟨n, rfl, rfl⟩ => h n
 | .str, M, _, _, h, ⟨n, rfl, rfl⟩ => h n
 | .lit v, M, _, _, h, ⟨rfl, rfl⟩ => h
 | .ptr pid k, M, _, _, h, ⟨rfl, rfl⟩ => h
 | .row pid, M, _, _, h, ⟨rfl, rfl⟩ => h
 | .rs ts, M, _, _, h, ⟨r, rfl, rfl⟩ => h r
 | .mp pid, M, _, _, h, ⟨rfl, rfl⟩ => h
 | .yl pid, M, _, _, h, ⟨rfl, rfl⟩ => h
 | .opq pid, M, _, _, h, ⟨rfl, rfl⟩ => h
 | .agg ps, M, _, es, h, ⟨xs, rfl, hi⟩ => Yc6 (M := fun xs es => M (.agg xs) es) h hi
 | .tup ps, M, _, es, h, ⟨xs, rfl, hi⟩ => Yc6 (M := fun xs es => M (.tup xs) es) h hi
 | .fn f a b, M, _, _, h, ⟨xs, ys, e1, e2, rfl, rfl, h1, h2⟩ => Yc6 (M := fun ys e2 => M (.fn f xs ys) (e1 ++ e2)) (Yc6 (M := fun xs e1 => AllL b fun ys e2 => M (.fn f xs ys) (e1 ++ e2)) h h1) h2
 | .ifc t p, M, _, es, h, ⟨y, rfl, hi⟩ => Yjw (M := fun y es => M (.ifc t y) es) h hi
 | .held p, M, _, es, h, ⟨y, rfl, hi⟩ => Yjw (M := fun y es => M (.held y) es) h hi
 | .sl pid _ _ _, M, _, _, h, ⟨rfl, rfl⟩ => h
 | .slc pid _ _ _, M, _, _, h, ⟨rfl, rfl⟩ => h
 | .rwp pid _, M, _, _, h, ⟨l, n, rfl, rfl⟩ => h l n
 | .emp pid, M, _, _, h, ⟨rfl, rfl⟩ => h
theorem Yc6 : ∀ {ps : List Pt} {M : List AV -> List Ed -> Prop} {xs : List AV} {es : List Ed}, AllL ps M -> Yle ps xs es -> M xs es
 | [], M, _, _, h, ⟨rfl, rfl⟩ => h
 | p :: ps, M, _, _, h, ⟨x, xs, e1, e2, rfl, rfl, h1, h2⟩ => Yc6 (M := fun xs e2 => M (x :: xs) (e1 ++ e2)) (Yjw (M := fun x e1 => AllL ps fun xs e2 => M (x :: xs) (e1 ++ e2)) h h1) h2
end
def AllI (p : PI) (M : It -> List Ed -> Prop) : Prop :=
 match p with
 | .blk T ps => AllL ps fun xs es => M (.blk T xs) es
 | .arr T ts => ∀ xs, M (.arr T ts xs) [.l xs]
 | .row T sz n ps => AllL ps fun xs es => M (.row T sz n xs) es
 | .obj x => M (.obj x) []
 | .mpI => ∀ xs, M (.obj (.mpI xs)) [.m xs]
 | .mpP => ∀ xs, M (.obj (.mpP xs)) [.l xs]
 | .lp L ps => AllL ps fun xs es => M (.lp L xs) es
 | .dead => M .dead []
 | .nst T ts => ∀ xs, M (.nst T ts xs) [.l xs]
 | .fro ts => ∀ xs, M (.fro ts xs) [.l xs]
def AllH : List (Nat × PI) -> (Heap -> List Ed -> Prop) -> Prop
 | [], M => M [] []
 | p :: ps, M => AllI p.2 fun it e1 => AllH ps fun h e2 => M ((p.1, it) :: h) (e1 ++ e2)
def AllT : List (Nat × Pt) -> (List (Nat × AV) -> List Ed -> Prop) -> Prop
 | [], M => M [] []
 | p :: ps, M => AllP p.2 fun x e1 => AllT ps fun s e2 => M ((p.1, x) :: s) (e1 ++ e2)
theorem Y27 {p : PI} {M : It -> List Ed -> Prop} {it : It} {es : List Ed} (h : AllI p M) (hi : Y5b p it es) : M it es := by
 cases p with
 | blk T ps => obtain ⟨xs, rfl, hi⟩ := hi; exact Yc6 (M := fun xs es => M (.blk T xs) es) h hi
 | arr T ts => obtain ⟨xs, rfl, rfl⟩ := hi; exact h xs
 | row T sz n ps => obtain ⟨xs, rfl, hi⟩ := hi; exact Yc6 (M := fun xs es => M (.row T sz n xs) es) h hi
 | obj x => obtain ⟨rfl, rfl⟩ := hi; exact h
 | mpI => obtain ⟨xs, rfl, rfl⟩ := hi; exact h xs
 | mpP => obtain ⟨xs, rfl, rfl⟩ := hi; exact h xs
 | lp L ps => obtain ⟨xs, rfl, hi⟩ := hi; exact Yc6 (M := fun xs es => M (.lp L xs) es) h hi
 | dead => obtain ⟨rfl, rfl⟩ := hi; exact h
 | nst T ts => obtain ⟨xs, rfl, rfl⟩ := hi; exact h xs
 | fro ts => obtain ⟨xs, rfl, rfl⟩ := hi; exact h xs
theorem Yob : ∀ {ps : List (Nat × PI)} {M : Heap -> List Ed -> Prop} {h : Heap} {es : List Ed}, AllH ps M -> Yir ps h es -> M h es
 | [], M, _, _, h, ⟨rfl, rfl⟩ => h
 | p :: ps, M, _, _, h, ⟨x, xs, e1, e2, rfl, rfl, h1, h2⟩ => Yob (M := fun xs e2 => M ((p.1, x) :: xs) (e1 ++ e2)) (Y27 (M := fun x e1 => AllH ps fun xs e2 => M ((p.1, x) :: xs) (e1 ++ e2)) h h1) h2
theorem Yuz : ∀ {ps : List (Nat × Pt)} {M : List (Nat × AV) -> List Ed -> Prop} {h : List (Nat × AV)} {es : List Ed}, AllT ps M -> Yov ps h es -> M h es
 | [], M, _, _, h, ⟨rfl, rfl⟩ => h
 | p :: ps, M, _, _, h, ⟨x, xs, e1, e2, rfl, rfl, h1, h2⟩ => Yuz (M := fun xs e2 => M ((p.1, x) :: xs) (e1 ++ e2)) (Yjw (M := fun x e1 => AllT ps fun xs e2 => M ((p.1, x) :: xs) (e1 ++ e2)) h h1) h2
def AllC (t : Ty) (M : AV -> Cl -> Prop) : Prop :=
 match t with
 | .int k => ∀ n, M (.si k n) (.i n)
 | .bool => ∀ b, M (.sb b) (.b b)
 | .str => ∀ s, M (.ss s) (.s s)
 | .sl ts => ∀ r : Ro ts, M (.rs ts r) (.l r.xs)
def Y5c : List Ty -> (List AV -> List Cl -> Prop) -> Prop
 | [], M => M [] []
 | t :: ts, M => AllC t fun x c => Y5c ts fun xs cs => M (x :: xs) (c :: cs)
def AllA (a : AT) (M : AV -> List Cl -> Prop) : Prop :=
 match a with
 | .one t => AllC t fun x c => M x [c]
 | .agg ts => Y5c ts fun xs cs => M (.agg xs) cs
def Y5d : List AT -> (List AV -> DS -> Prop) -> Prop
 | [], M => M [] []
 | a :: ats, M => AllA a fun x d => Y5d ats fun xs ds => M (x :: xs) (d :: ds)
theorem Yu0 {t : Ty} {M : AV -> Cl -> Prop} {x : AV} {c : Cl} (h : AllC t M) (hc : Yu1 t x c) : M x c := by
 cases t <;> (obtain ⟨_, rfl, rfl⟩ := hc; exact h _)
theorem Yqm : ∀ {ts : List Ty} {M : List AV -> List Cl -> Prop} {xs : List AV} {cs : List Cl}, Y5c ts M -> Yof ts xs cs -> M xs cs
 | [], M, _, _, h, ⟨rfl, rfl⟩ => h
 | t :: ts, M, _, _, h, ⟨x, xs, c, cs, rfl, rfl, h1, h2⟩ => Yqm (M := fun xs cs => M (x :: xs) (c :: cs)) (Yu0 (M := fun x c => Y5c ts fun xs cs => M (x :: xs) (c :: cs)) h h1) h2
theorem Y28 {a : AT} {M : AV -> List Cl -> Prop} {x : AV} {d : List Cl} (h : AllA a M) (ha : Y7c a x d) : M x d := by
 cases a with
 | one t => obtain ⟨c, rfl, hc⟩ := ha; exact Yu0 (M := fun x c => M x [c]) h hc
 | agg ts => obtain ⟨xs, rfl, hc⟩ := ha; exact Yqm (M := fun xs cs => M (.agg xs) cs) h hc
theorem Yqn : ∀ {ats : List AT} {M : List AV -> DS -> Prop} {xs : List AV} {ds : DS}, Y5d ats M -> Yqo ats xs ds -> M xs ds
 | [], M, _, _, h, ⟨rfl, rfl⟩ => h
 | a :: ats, M, _, _, h, ⟨x, xs, d, ds, rfl, rfl, h1, h2⟩ => Yqn (M := fun xs ds => M (x :: xs) (d :: ds)) (Y28 (M := fun x d => Y5d ats fun xs ds => M (x :: xs) (d :: ds)) h h1) h2
end
theorem PureOk.of' {P : Program} (tt : (W : InW) -> @Tr (@TI W)) (ht : ∀ W : InW, @TabOk W P (tt W)) (hm : P.follows .mixedOrders = true) (T : Tab P) (n m : Nat) {g : FuncId} {ats : List AT} {rs : RTs} {pre : DS -> Prop} {res : DS -> DS}
  (h : ∀ (W : InW), @Y5d W ats fun args ds => pre ds -> @Yzs W (@cxT W P (tt W) T n m) n g args [] 0 (@Y4g W rs fun o => o = res ds) fun _ _ _ _ => Stuck 421) : PureOk P g ats rs pre res :=
 PureOk.of tt ht hm T n m fun W args ds ha hp => @Yqn W _ _ _ _ (h W) ha hp
theorem LE.okOf' {P : Program} (tt : (W : InW) -> @Tr (@TI W)) (ht : ∀ W : InW, @TabOk W P (tt W)) (hm : P.follows .mixedOrders = true) (T : Tab P) (n m : Nat) {g : FuncId} {key : Nat} (h1 : (match Yfy P g key with | [_] => true | _ => false) = true) (lc : LC) (meas : (W : InW) -> List (@Ed W) -> Nat)
  (hb : ∀ (W : InW), @AllT W lc.T fun s e1 => @AllH W lc.H fun ys e2 => ∀ K, @LC.spec lc W (e1 ++ e2) K -> @Ygb W { @cxT W P (tt W) T n m with fn := g } n (Ypx P g key) (@Yeo W lc.len s lc.W) ys (@Yw5 W lc (fun e => meas W e < meas W (e1 ++ e2) /\ @LC.spec lc W e K) K)) :
  ∀ (W : InW) (body a : Code), (P.funcs[g]?).bind (·.body) = some body -> a ∈ Y1 body -> Yg1 a = key -> @Yod W P a (@Yv5 W lc) :=
 LE.okOf tt ht hm T n m h1 lc meas fun W s ys e1 e2 hT hH => @Yob W _ _ _ _ (@Yuz W _ _ _ _ (hb W) hT) hH
end Go.Proofs.YtladoaeefkpdiaaGreatDoor
namespace Go.Proofs.YtladoaeefkpdiaaGreatDoor
open Go.RowKit
attribute [local irreducible] Go.Oper.wp
section
variable [W : InW]
mutual
def Y4f : Pt -> AV -> List (Nat × Nat) -> (List (Nat × Nat) -> Bool) -> Bool
 | .int k, x, B, K => (match x with | .si k' _ => decide (k' = k) && K B | .v (.int k' _) => decide (k' = k) && K B | _ => false)
 | .bool, x, B, K => (match x with | .sb _ => K B | .v (.bool _) => K B | _ => false)
 | .str, x, B, K => (match x with | .ss _ => K B | .v (.string _) => K B | _ => false)
 | .lit v, x, B, K => (match x with | .v u => (match Ycz u v with | true => K B | false => false) | _ => false)
 | .ptr p k, x, B, K => (match x with | .ptr i k' => (match Nat.beq k' k with | true => K ((p, i) :: B) | false => false) | _ => false)
 | .row p, x, B, K => (match x with | .rw i => K ((p, i) :: B) | .v (.slice none 0 0) => K B | .sl i 0 0 _ => K ((p, i) :: B) | _ => false)
 | .rs _, x, B, K => (match x with | .rs _ _ => K B | .v (.slice none 0 0) => K B | _ => false)
 | .mp p, x, B, K => (match x with | .mp i => K ((p, i) :: B) | _ => false)
 | .yl p, x, B, K => (match x with | .yl i => K ((p, i) :: B) | _ => false)
 | .opq _, _, B, K => K B
 | .agg ps, x, B, K => (match x with | .agg xs => Yot ps xs B K | .v (.agg cs) => Yot ps (cs.toList.map .v) B K | _ => false)
 | .tup ps, x, B, K => (match x with | .tup xs => Yot ps xs B K | _ => false)
 | .fn f a b, x, B, K => (match x with | .fn f' xs ys => (match Yw3 f' f with | true => Yot a xs B fun B => Yot b ys B K | false => false) | _ => false)
 | .ifc t p, x, B, K => (match x with | .ifc t' y => (match Nat.beq t' t with | true => Y4f p y B K | false => false) | .v (.iface t' y) => (match Nat.beq t' t with | true => Y4f p (.v y) B K | false => false) | _ => false)
 | .held _, _, _, _ => false
 | .sl p a b c, x, B, K => (match x with | .sl i a' b' c' => (match Nat.beq a' a && Nat.beq b' b && Nat.beq c' c with | true => K ((p, i) :: B) | false => false) | _ => false)
 | .slc p a b c, x, B, K => (match x with | .slc i a' b' c' => (match Nat.beq a' a && Nat.beq b' b && Nat.beq c' c with | true => K ((p, i) :: B) | false => false) | _ => false)
 | .rwp p sz, x, B, K => (match x with | .rwp i sz' _ _ => (match Nat.beq sz' sz with | true => K ((p, i) :: B) | false => false) | _ => false)
 | .emp p, x, B, K => (match x with | .emp i => K ((p, i) :: B) | _ => false)
def Yot : List Pt -> List AV -> List (Nat × Nat) -> (List (Nat × Nat) -> Bool) -> Bool
 | [], xs, B, K => (match xs with | [] => K B | _ :: _ => false)
 | p :: ps, xs, B, K => (match xs with | [] => false | x :: xs => Y4f p x B fun B => Yot ps xs B K)
end
def idAt : List (Nat × Nat) -> Nat -> Option Nat
 | [], _ => none
 | q :: B, p => match Nat.beq q.1 p with | true => some q.2 | false => idAt B p
def likeI (p : PI) (it : It) (B : List (Nat × Nat)) (K : List (Nat × Nat) -> Bool) : Bool :=
 match p with
 | .blk T ps => (match it with | .blk T' xs => (match Nat.beq T' T with | true => Yot ps xs B K | false => false) | _ => false)
 | .arr T ts => (match it with | .arr T' _ _ => (match Nat.beq T' T with | true => K B | false => false) | .bk T' _ _ _ => (match Nat.beq T' T with | true => K B | false => false) | .row T' _ _ _ => (match Nat.beq T' T with | true => K B | false => false) | _ => false)
 | .row T sz n ps => (match it with | .row T' sz' n' xs => (match Nat.beq T' T && Nat.beq sz' sz && Nat.beq n' n with | true => Yot ps xs B K | false => false) | _ => false)
 | .obj x => (match Y0g it (.obj x) with | true => K B | false => false)
 | .mpI => (match it with | .obj (.mpI _) => K B | .obj (.mpV [] 0) => K B | _ => false)
 | .mpP => (match it with | .obj (.mpP _) => K B | .obj (.mpV [] 0) => K B | _ => false)
 | .lp _ ps => (match it with | .lp _ xs => Yot ps xs B K | _ => false)
 | .dead => K B
 | .nst T _ => (match it with | .nst T' _ _ => (match Nat.beq T' T with | true => K B | false => false) | _ => false)
 | .fro _ => (match it with | .fro _ _ => K B | _ => false)
def Y1p : List (Nat × PI) -> Heap -> List (Nat × Nat) -> Bool
 | [], _, _ => true
 | (pid, p) :: ps, hp, B => match p.isDead with
  | true => Y1p ps hp B
  | false => match idAt B pid with
  | none => Y1p ps hp B
  | some i => match look hp i with
   | none => false
   | some it => likeI p it B fun B => Y1p ps hp B
def Y51 : List (Nat × PI) -> List (Nat × Nat)
 | [] => []
 | p :: h => match Nat.beq (p.1 % 3) 1 with | true => (p.1, p.1) :: Y51 h | false => Y51 h
def likeO (p : Pt) (H : List (Nat × PI)) (x : AV) (hp : Heap) : Bool := Y4f p x (Y51 H) fun B => Y1p H hp B
end
end Go.Proofs.YtladoaeefkpdiaaGreatDoor
namespace Go.Proofs.YtladoaeefkpdiaaGreatDoor
open Go.RowKit
attribute [local irreducible] Go.Oper.wp
section
variable [W : InW]
def endC (c : Cx) (n : Nat) (fn : Func) (tm : List AV) (hp : Heap) (ps : PS) (kR kP : AV -> Heap -> Prop) : Prop :=
 revK (Ybf tm) [] fun fs => Yj1 c n tm fs ps hp fun ps hp => match ps with
  | .run => Yex c.tt tm hp fn.results.toList fun vs => kR (outA vs) hp
  | .live v => kP (.v v) hp
  | .done _ => Stuck 80
def Yzo (c : Cx) (n : Nat) (g : FuncId) (args : List AV) (hp : Heap) (kR kP : AV -> Heap -> Prop) : Prop :=
 match c.P.funcs[g]? with
 | none => Stuck 51
 | some fn => match fn.body with
  | none => Stuck 52
  | some cd => Yc (Yee args) (padK args fn.ntmps fun tm0 =>
   Ygb { c with fn := g } n cd tm0 hp fun x tm hpF => match x with
    | .norm => endC c n fn tm hpF .run kR kP
    | .ret => endC c n fn tm hpF .run kR kP
    | .pan (.v v) => endC c n fn tm hpF (.live v) kR kP
    | _ => Stuck 53)
theorem Ysv {args : List AV} (h : Yee args = true) (n : Nat) : Ybf (args ++ List.replicate n (.v undef)) = [] /\ ∀ (t : Nat) (v : AV), (args ++ List.replicate n (.v undef))[t]? = some v -> v.isHeld = false := by
 obtain ⟨a, b⟩ := Ygx h;refine ⟨by rw [Ykj, a, Yg6]; rfl, fun t v hv => ?_⟩;rw [List.getElem?_append] at hv
 split at hv
 ·exact b t v hv
 ·rw [List.getElem?_replicate] at hv
  split at hv
  ·cases hv; rfl
  ·cases hv
theorem Y12 {args : List AV} {hs : Heap} (hnoh : Yee args = true) (hnd : (keys hs).Nodup) (m : Nat) (φ : Phi) (w0 : World) (M : List Nat) (R : RL) (w : World) (hS : St w0 M (Yb φ hs ++ R) w) :
  RepS (Yx2 φ) φ w0 M R (args ++ List.replicate (m - args.length) (.v undef)) hs
   { tmps := (AV.concL φ args).toArray ++ Array.replicate (m - (AV.concL φ args).toArray.size) undef, defers := [] } w := by
 have hl : (AV.concL φ args).length = args.length := Yg _ _;have hst : ∀ (t : Nat) (v : AV), (args ++ List.replicate (m - args.length) (.v undef))[t]? = some v -> v.isHeld = false := (Ysv hnoh _).2;refine ⟨⟨fun t v hv _ => ?_, fun t v hv hh => ?_, fun t v hv hj => ?_, ?_, ?_⟩, hS, hnd, fun x => rfl⟩
 ·have := (List.getElem?_eq_some_iff.1 hv).1;simpa [hl] using this
 ·rw [hst t v hv] at hh; cases hh
 ·rw [Array.getElem?_append, List.getElem?_append] at *;simp only [List.size_toArray, hl] at hv ⊢
  split
  ·rename_i hlt;rw [if_pos hlt] at hv;have := Yck φ args t;rw [hv] at this;simpa using this
  ·rename_i hge;rw [if_neg hge] at hv;rw [List.getElem?_replicate] at hv
   split at hv
   ·rename_i hlt;cases hv;rw [Array.getElem?_replicate, if_pos hlt];rfl
   ·cases hv
 ·rw [(Ysv hnoh _).1]; rfl
 ·simp [hl]
def BigF (P : Program) (g : FuncId) (xs : List AV) (ys : Heap) (pan : Bool) (v : AV) (ys' : Heap) : Prop :=
 ∀ (φ : Phi) (w0 : World) (M : List Nat) (R : RL) (w : World), (keys ys).Nodup -> St w0 M (Yb φ ys ++ R) w ->
  Calls P g (AV.concL φ xs).toArray w fun e w' => ∃ φ2 : Phi, (∀ x, φ2 (3 * x + 1) = φ (3 * x + 1)) /\ e = Yuy pan (v.conc φ2) /\ (keys ys').Nodup /\ St w0 M (Yb φ2 ys' ++ R) w'
theorem Y43 {c : Cx} (hcL : HandOkL c) (hm : c.P.follows .mixedOrders = true) {n : Nat} {g : FuncId} {args : List AV} {hp : Heap} {kR kP : AV -> Heap -> Prop} (h : Yzo c n g args hp kR kP) :
  ∃ pan v hpF, (match pan with | true => kP v hpF | false => kR v hpF) /\ BigF c.P g args hp pan v hpF := by
 have hc := hcL.toHandOkR;unfold Yzo at h
 split at h
 ·exact h.elim
 ·rename_i fn hf
  split at h
  ·exact h.elim
  ·rename_i cd hb;obtain ⟨hnoh, h1⟩ := Ya h;have h2 := Yi7 h1;obtain ⟨x, tm', hpF, h3, h4⟩ := Yh4 (hcL.at g) hm n (root := cd) (by show (c.P.funcs[g]?).bind (·.body) = some cd; rw [hf]; exact hb) cd .refl _ _ _ h2;have fin : ∀ (ps : PS), (∀ (φ : Phi) (e : Exit), x.is φ e -> ∀ (P : Program) (R : Ending -> World -> Prop) (a : Act) (w : World), Ye5 P fn a.tmps R a.defers ps.mode w -> Yn3 P fn R e a w) ->
     endC c n fn tm' hpF ps kR kP -> ∃ pan v hpF, (match pan with | true => kP v hpF | false => kR v hpF) /\ BigF c.P g args hp pan v hpF := by
    intro ps hexit hend;have hrev := Yq8.1 hend;rw [List.append_nil] at hrev;obtain ⟨ps', hp', h5, h6⟩ := Yev hc hm _ _ _ _ (fun f hf' => Yfh (by simpa using hf')) hrev;have go : ∀ (v : AV) (pan : Bool),
      (∀ (φ0 φ : Phi) (w0 : World) (M : List Nat) (R : RL) (a : Act) (w : World) (Rp : Ending -> World -> Prop), RepS φ0 φ w0 M R tm' hp' a w -> Rp (Yuy pan (v.conc φ)) w -> Leaves c.P fn a.tmps Rp [] ps'.mode w) ->
      BigF c.P g args hp pan v hp' := by
     intro v pan hpost φ w0 M R w hnd hS;refine Yfn hf hb ?_;refine h4 _ _ w0 M R _ w (Y12 hnoh hnd fn.ntmps φ w0 M R w hS) _ fun φ' e a' w' hx hr => ?_;refine hexit φ' e hx c.P _ a' w' ?_;rw [hr.tmps.df, <- List.map_reverse];refine h6 _ φ' w0 M R a' w' hr fn _ fun φ1 w1 hr1 => ?_;refine hpost _ φ1 w0 M R a' w1 _ hr1 ?_;exact ⟨φ1, fun x => hr1.base x, rfl, hr1.nd, hr1.st⟩
    cases ps' with
    | run =>
     obtain ⟨vs, h7, h8, h9⟩ := Ydt hc.tab h5;exact ⟨false, outA vs, hp', h7, go _ false fun φ0 φ w0 M R a w Rp hr hR => ⟨_, Yia h8 (h9 φ0 φ w0 M R a w hr), hR⟩⟩
    | live v => exact ⟨true, .v v, hp', h5, go (.v v) true fun φ0 φ w0 M R a w Rp hr hR => hR⟩
    | done v => exact h5.elim
   cases x with
   | norm => exact fin .run (fun φ e he P R a w hl => by cases he; exact hl) h3
   | ret => exact fin .run (fun φ e he P R a w hl => by cases he; exact hl) h3
   | pan v =>
    cases v <;> first | exact h3.elim | skip
    rename_i v;exact fin (.live v) (fun φ e he P R a w hl => by cases he; exact hl) h3
   | exit i => exact h3.elim
structure CO where
 pan : Bool
 val : Pt
 H : List (Nat × PI)
 same : Bool
end
structure CC where
 g : FuncId
 args : List Pt
 H : List (Nat × PI)
 outs : List CO
 spec : [InW] -> List Ed -> (Nat -> List Ed -> Prop) -> Prop
section
variable [W : InW]
def CallC (P : Program) (cc : CC) : Prop :=
 ∀ xs ys e1 e2, Yle cc.args xs e1 -> Yir cc.H ys e2 -> ∀ K, cc.spec (e1 ++ e2) K -> ∃ j e o v r ys', K j e /\ cc.outs[j]? = some o /\ insP o.val e = some (v, r) /\ insH o.H r = some (ys', []) /\ BigF P cc.g xs ys o.pan v (match o.same with | true => ys | false => ys')
mutual
def Y72 : Pt -> AV -> Bool
 | .lit v, x => (match x with | .v u => Ycz u v | _ => false)
 | .ptr _ _, x => (match x with | .ptr _ _ => true | _ => false)
 | .tup ps, x => (match x with | .tup xs => Y73 ps xs | _ => false)
 | _, _ => true
def Y73 : List Pt -> List AV -> Bool
 | [], _ => true
 | p :: ps, xs => (match xs with | [] => false | x :: xs => Y72 p x && Y73 ps xs)
end
def fitC (H0 : List (Nat × PI)) (e0 : List Ed) (o : CO) (v : AV) (hpF : Heap) (Q : List Ed -> Prop) : Prop :=
 match o.same with
 | true => Ybv o.val v (Ys0 H0) fun y B e1 => Yd0 H0 B hpF fun ys B _ e2 => Yc (Ys1 B && Yfc (ys.map (·.1))) (Yc o.H.isEmpty (e2 = e0 /\ Q e1))
 | false => Ybv o.val v (Ys0 o.H) fun y B e1 => Yd0 o.H B hpF fun ys B _ e2 => Yc (Ys1 B && Yfc (ys.map (·.1))) (Q (e1 ++ e2))
theorem Y1y {H : List (Nat × PI)} {pan : Bool} {p : Pt} {v : AV} {hpF : Heap} {B0 : Bd} {Q : AV -> Heap -> List Ed -> List Ed -> Prop}
  (h : Ybv p v B0 fun y B e1 => Yd0 H B hpF fun ys B _ e2 => Yc (Ys1 B && Yfc (ys.map (·.1))) (Q y ys e1 e2)) : ∃ y ys e1 e2, Q y ys e1 e2 /\ Yow p y e1 /\ Yir H ys e2 /\
  ∀ (P : Program) (g : FuncId) (xs : List AV) (zs : Heap), BigF P g xs zs pan v hpF -> BigF P g xs zs pan y ys := by
 obtain ⟨y, B1, e1, h1, h2, h3, h4, _, _⟩ := Ydh _ _ _ _ h;obtain ⟨ys, B2, rest, e2, k1, k2, k3, k3s, k4⟩ := Yfx _ _ _ _ h1;obtain ⟨hb, hk⟩ := Ya k1;rw [Bool.and_eq_true] at hb;refine ⟨y, ys, e1, e2, hk, h2, k2, fun P g xs zs hbig φ w0 M R w hnd hS => ?_⟩;refine (hbig φ w0 M R w hnd hS).mono fun e w' ⟨φ2, f1, f2, f3, f4⟩ => ⟨hB φ2 B2, fun x => by rw [Ywf hb.1]; exact f1 x, ?_, Ybk hb.2, ?_⟩
 ·rw [f2, h4 B2 k3 φ2]
 ·have := k4 B2 (.refl _) φ2 w0 M [] R w' (by simpa using f4);simp only [List.nil_append] at this;exact this.sub ((List.Sublist.refl _).append (List.sublist_append_right _ _))
theorem Y10 {H0 : List (Nat × PI)} {zs : Heap} {e0 : List Ed} (h0 : Yir H0 zs e0) {o : CO} {v : AV} {hpF : Heap} {Q : List Ed -> Prop} (h : fitC H0 e0 o v hpF Q) : ∃ y ys e, Q e /\ (∃ r, insP o.val e = some (y, r) /\ insH o.H r = some (ys, [])) /\
  ∀ (P : Program) (g : FuncId) (xs : List AV), BigF P g xs zs o.pan v hpF -> BigF P g xs zs o.pan y (match o.same with | true => zs | false => ys) := by
 unfold fitC at h
 split at h
 ·rename_i hs;obtain ⟨y, ys, e1, e2, hk, h2, h3, h4⟩ := Y1y (pan := o.pan) (Q := fun y ys e1 e2 => Yc o.H.isEmpty (e2 = e0 /\ Q e1)) h;obtain ⟨hO, he, hq⟩ := Ya hk
  replace hO := List.isEmpty_iff.1 hO
  subst he;have e := Ynk _ _ _ [] h3;rw [Ynk _ _ _ [] h0] at e;cases e;exact ⟨y, [], e1, hq, ⟨[], by have := Ykh _ _ _ [] h2; rwa [List.append_nil] at this, by rw [hO]; rfl⟩, fun P g xs hb => h4 P g xs _ hb⟩
 ·rename_i hs;obtain ⟨y, ys, e1, e2, hq, h2, h3, h4⟩ := Y1y (pan := o.pan) (Q := fun y ys e1 e2 => Q (e1 ++ e2)) h;exact ⟨y, ys, e1 ++ e2, hq, ⟨e2, Ykh _ _ _ _ h2, by have := Ynk _ _ _ [] h3; rwa [List.append_nil] at this⟩, fun P g xs hb => h4 P g xs _ hb⟩
def outC (H0 : List (Nat × PI)) (e0 : List Ed) : List CO -> Nat -> Bool -> AV -> Heap -> (Nat -> List Ed -> Prop) -> Prop
 | [], _, _, _, _, _ => Stuck 482
 | o :: os, j, pan, v, hpF, Q => match (o.pan == pan) && (Y72 o.val v && (match os with | [] => true | _ => likeO o.val o.H v hpF)) with
  | true => fitC H0 e0 o v hpF fun e => Q j e
  | false => outC H0 e0 os (j + 1) pan v hpF Q
theorem Ytf {H0 : List (Nat × PI)} {zs : Heap} {e0 : List Ed} (h0 : Yir H0 zs e0) {pan : Bool} {v : AV} {hpF : Heap} {Q : Nat -> List Ed -> Prop} : ∀ {os : List CO} {j : Nat}, outC H0 e0 os j pan v hpF Q -> ∃ k o y ys e, Q (j + k) e /\ os[k]? = some o /\ o.pan = pan /\ (∃ r, insP o.val e = some (y, r) /\ insH o.H r = some (ys, [])) /\
  ∀ (P : Program) (g : FuncId) (xs : List AV), BigF P g xs zs pan v hpF -> BigF P g xs zs o.pan y (match o.same with | true => zs | false => ys)
 | [], _, h => h.elim
 | o :: os, j, h => by
  unfold outC at h
  split at h
  ·rename_i hb;rw [Bool.and_eq_true] at hb;have e : o.pan = pan := by simpa using hb.1
   clear hb;obtain ⟨y, ys, e', h1, h2, h3⟩ := Y10 h0 h;exact ⟨0, o, y, ys, e', h1, rfl, e, h2, fun P g xs hb => h3 P g xs (by rw [e]; exact hb)⟩
  ·obtain ⟨k, o', y, ys, e, h1, h2, h3⟩ := Ytf h0 h;exact ⟨k + 1, o', y, ys, e, by rw [show j + (k + 1) = j + 1 + k by omega]; exact h1, by simpa using h2, h3⟩
theorem CallC.of {c : Cx} (hcL : HandOkL c) (hm : c.P.follows .mixedOrders = true) (n : Nat) {cc : CC}
  (hb : AllL cc.args fun xs e1 => AllH cc.H fun ys e2 => ∀ K, cc.spec (e1 ++ e2) K -> Yzo c n cc.g xs ys (fun v hpF => outC cc.H e2 cc.outs 0 false v hpF K) (fun v hpF => outC cc.H e2 cc.outs 0 true v hpF K)) : CallC c.P cc := by
 intro xs ys e1 e2 h1 h2 K hs;have h := Yob (M := fun ys e2 => ∀ K, cc.spec (e1 ++ e2) K -> Yzo c n cc.g xs ys (fun v hpF => outC cc.H e2 cc.outs 0 false v hpF K) (fun v hpF => outC cc.H e2 cc.outs 0 true v hpF K)) (Yc6 (M := fun xs e1 => AllH cc.H fun ys e2 => ∀ K, cc.spec (e1 ++ e2) K -> Yzo c n cc.g xs ys (fun v hpF => outC cc.H e2 cc.outs 0 false v hpF K) (fun v hpF => outC cc.H e2 cc.outs 0 true v hpF K)) hb h1) h2 K hs;obtain ⟨pan, v, hpF, h3, h4⟩ := Y43 hcL hm h;have h5 : outC cc.H e2 cc.outs 0 pan v hpF K := by cases pan <;> exact h3
 obtain ⟨k, o, y, ys', e, k1, k2, k3, ⟨r, k4, k5⟩, k6⟩ := Ytf h2 h5;rw [Nat.zero_add] at k1;exact ⟨k, e, o, y, r, ys', k1, k2, k4, k5, k6 _ _ _ h4⟩
end
end Go.Proofs.YtladoaeefkpdiaaGreatDoor
namespace Go.Proofs.YtladoaeefkpdiaaGreatDoor
open Go.RowKit
attribute [local irreducible] Go.Oper.wp
section
variable [W : InW]
def Y0v (rest : Heap) : Heap -> (Heap -> Prop) -> Prop
 | [], K => K []
 | p :: h, K => match look rest p.1 with
  | some _ => Y0v rest h K
  | none => Y0v rest h fun r => K (p :: r)
theorem Ykc {rest : Heap} : ∀ {hp : Heap} {K : Heap -> Prop}, Y0v rest hp K -> ∃ hs, K hs /\ hs.Sublist hp
 | [], K, h => ⟨[], h, .slnil⟩
 | p :: hp, K, h => by
  unfold Y0v at h
  split at h
  ·obtain ⟨hs, h1, h2⟩ := Ykc h;exact ⟨hs, h1, h2.cons p⟩
  ·obtain ⟨hs, h1, h2⟩ := Ykc h;exact ⟨_, h1, h2.cons_cons p⟩
theorem Y57 {hs hp : Heap} (h : hs.Sublist hp) (hn : (keys hp).Nodup) : PartOf hs hp :=
 ⟨(h.map _).nodup hn, fun p hm => Yb3 hn (h.mem hm)⟩
def usK (hO : Heap) : Heap -> (Heap -> Prop) -> Prop
 | [], K => K []
 | p :: hs, K => match look hO p.1 with
  | some y => usK hO hs fun r => K ((p.1, y) :: r)
  | none => usK hO hs fun r => K ((p.1, .dead) :: r)
def newK (hs : Heap) : Heap -> (Heap -> Prop) -> Prop
 | [], K => K []
 | p :: h, K => match look hs p.1 with
  | some _ => newK hs h K
  | none => newK hs h fun r => K (p :: r)
def usOf (hO hs : Heap) : Heap := hs.map fun p => (p.1, match look hO p.1 with | some y => y | none => .dead)
def Yto (hs hO : Heap) : Heap := hO.filter fun p => (look hs p.1).isNone
theorem Yzw {hO : Heap} : ∀ {hs : Heap} {K : Heap -> Prop}, usK hO hs K ↔ K (usOf hO hs)
 | [], K => Iff.rfl
 | p :: hs, K => by
  unfold usK;cases hl : look hO p.1 <;> simp only [Yzw (hs := hs), usOf, List.map_cons, hl]
theorem Yxe {hs : Heap} : ∀ {h : Heap} {K : Heap -> Prop}, newK hs h K ↔ K (Yto hs h)
 | [], K => Iff.rfl
 | p :: h, K => by
  unfold newK;cases hl : look hs p.1 <;> simp [Yxe (h := h), Yto, hl]
theorem Yg0 (hO hs : Heap) : keys (usOf hO hs) = keys hs := by simp [usOf, keys, Function.comp_def]
theorem Ytt {hO : Heap} : ∀ {hs : Heap} {i : Nat}, look (usOf hO hs) i = (look hs i).map fun _ => match look hO i with | some y => y | none => .dead
 | [], i => rfl
 | p :: hs, i => by
  simp only [usOf, List.map_cons];rw [Yt, Yt]
  by_cases e : p.1 = i
  ·simp [e]
  ·rw [if_neg e, if_neg e]; exact Ytt
theorem Yx7 : ∀ (us hs : Heap), keys us = keys hs -> (keys hs).Nodup -> Yh hs us = us := by
 have key : ∀ (us pre hs : Heap), keys us = keys hs -> (keys (pre ++ hs)).Nodup -> Yh (pre ++ hs) us = pre ++ us := by
  intro us
  induction us with
  | nil =>
   intro pre hs h1 h2;cases hs with
   | nil => rfl
   | cons _ _ => simp [keys] at h1
  | cons p us ih =>
   intro pre hs h1 h2;cases hs with
   | nil => simp [keys] at h1
   | cons q hs =>
    simp only [keys, List.map_cons, List.cons.injEq] at h1;obtain ⟨i, y⟩ := p;obtain ⟨i', x⟩ := q;obtain ⟨rfl, h1⟩ := h1;have hpre : i ∉ keys pre := fun hm => by
     rw [Ybo, List.nodup_append] at h2;exact h2.2.2 _ hm _ (by simp [keys]) rfl
    rw [Yh, Yu6 hpre];have := ih (pre ++ [(i, y)]) hs h1 (by
     simpa [keys] using h2)
    simpa using this
 intro us hs h1 h2;simpa using key us [] hs h1 (by simpa using h2)
theorem St.deads {φ : Phi} {w0 w : World} {M : List Nat} {R : RL} : ∀ {ds : Heap}, (∀ p ∈ ds, p.2 = .dead) -> St w0 M R w -> St w0 M (Yb φ ds ++ R) w
 | [], _, h => h
 | (i, x) :: ds, hd, h => by
  have h1 := St.deads (φ := φ) (ds := ds) (fun p hp => hd p (List.mem_cons_of_mem _ hp)) h;have e : x = .dead := hd (i, x) List.mem_cons_self;subst e;simp only [Yb, List.map_cons, It.conc, List.cons_append] at h1 ⊢;exact h1.add (Ext.refl _) (r := .row (.slice none 0 0) 0 0 0 []) ⟨by simp, .inl ⟨rfl, rfl⟩⟩ (by simp [Res.foot, Value.ownBlock])
def Yi6 (ks : List Nat) (φ φ' : Phi) : Phi := fun i => if i ∈ ks then φ' i else φ i
theorem Yk1 (ks : List Nat) (φ φ' : Phi) : Agree ks φ (Yi6 ks φ φ') := fun i hi => by simp [Yi6, hi]
def mayB (base : Nat) (ks : List Nat) (i : Nat) : Bool := match Yhx base i with | true => true | false => ks.contains i
theorem Ym3 {base : Nat} {ks : List Nat} {φ φ2 : Phi} (hk : ∀ k ∈ ks, Yhx base k = false) {i : Nat} (h : mayB base ks i = true) : Yi6 ks φ (Yb4 φ φ2 base) i = Yb4 φ φ2 base i := by
 unfold mayB at h;unfold Yi6
 split at h
 ·rename_i ho;rw [if_neg (fun hm => by rw [hk i hm] at ho; cases ho), Yd7 ho]
 ·rw [if_pos (List.contains_iff_mem.1 h)]
def Yx1 (base : Nat) : Heap -> Bool
 | [] => true
 | p :: h => !(Yhx base p.1) && Yx1 base h
theorem Yoa {base : Nat} : ∀ {h : Heap}, Yx1 base h = true -> ∀ k ∈ keys h, Yhx base k = false
 | [], _, k, hk => by simp [keys] at hk
 | p :: h, hh, k, hk => by
  simp only [Yx1, Bool.and_eq_true, Bool.not_eq_true'] at hh;simp only [keys, List.map_cons, List.mem_cons] at hk;rcases hk with rfl | hk
  ·exact hh.1
  ·exact Yoa hh.2 k hk
def mayH (base : Nat) (ks : List Nat) : Heap -> Bool
 | [] => true
 | p :: h => mayB base ks p.1 && p.2.ids (mayB base ks) && mayH base ks h
theorem Ytp {base : Nat} {ks : List Nat} {φ φ' : Phi} (h : ∀ i, mayB base ks i = true -> φ' i = φ i) : ∀ {hs : Heap}, mayH base ks hs = true -> Yb φ' hs = Yb φ hs
 | [], _ => rfl
 | p :: hs, hh => by
  simp only [mayH, Bool.and_eq_true] at hh;have := Ytp h hh.2;simp only [Yb, List.map_cons, Ywc h hh.1.1 p.2 hh.1.2] at this ⊢;rw [this]
def Y59 (i : Nat) : Bool := Nat.beq (i % 3) 1
def ownH : Heap -> Bool
 | [] => true
 | p :: h => Y59 p.1 && p.2.ids Y59 && ownH h
theorem Ytd {φ φ' : Phi} (h : ∀ x, φ' (3 * x + 1) = φ (3 * x + 1)) : ∀ hs : Heap, ownH hs = true -> Yb φ' hs = Yb φ hs
 | [], _ => rfl
 | p :: hs, hh => by
  simp only [ownH, Bool.and_eq_true] at hh;have := Ytd h hs hh.2;have hl : ∀ i, Y59 i = true -> φ' i = φ i := fun i hi => by
   have e : i = 3 * (i / 3) + 1 := by have := Ye.1 hi; omega
   rw [e]; exact h _
  simp only [Yb, List.map_cons, Ywc hl hh.1.1 p.2 hh.1.2] at this ⊢;rw [this]
def lowL : List AV -> Bool
 | [] => true
 | x :: xs => x.ids Ycv && lowL xs
theorem Yna : ∀ {xs : List AV}, lowL xs = true -> AV.idsL Ycv xs = true
 | [], _ => rfl
 | x :: xs, h => by
  simp only [lowL, Bool.and_eq_true] at h;unfold AV.idsL;rw [h.1];exact Yna h.2
def nilK (h : Heap) (K : Prop) : Prop := match h with | [] => K | _ :: _ => Stuck 483
def endE (es : List Ed) (K : Prop) : Prop := match es with | [] => K | _ :: _ => Stuck 481
theorem Y1a {h : Heap} {K : Prop} (hh : nilK h K) : h = [] /\ K := by cases h <;> first | exact ⟨rfl, hh⟩ | exact hh.elim
theorem Yug {h : List Ed} {K : Prop} (hh : endE h K) : h = [] /\ K := by cases h <;> first | exact ⟨rfl, hh⟩ | exact hh.elim
def thP : List AV -> List AV -> Bool
 | [], [] => true
 | .ptr a b :: xs, .ptr c d :: ys => Nat.beq a c && Nat.beq b d && thP xs ys
 | _, _ => false
def thV : AV -> AV -> Bool
 | .ptr a b, .ptr c d => Nat.beq a c && Nat.beq b d
 | .rw a, .rw b => Nat.beq a b
 | .mp a, .mp b => Nat.beq a b
 | .fn (.func g) [] xs, .fn (.func g') [] ys => Nat.beq g g' && thP xs ys
 | _, _ => false
def thL : List AV -> List AV -> Bool
 | [], [] => true
 | x :: xs, y :: ys => thV x y && thL xs ys
 | _, _ => false
def thO : Option It -> It -> Bool
 | some (.blk t xs), .blk t' ys => Nat.beq t t' && thL xs ys
 | _, _ => false
theorem Y7g : ∀ {xs ys : List AV}, thP xs ys = true -> xs = ys := by
 intro xs ys
 fun_induction thP xs ys with
 | case1 => intro _; rfl
 | case2 a b xs c d ys ih =>
  intro h;simp only [Bool.and_eq_true, Ye] at h;obtain ⟨⟨rfl, rfl⟩, h⟩ := h;rw [ih h]
 | case3 => intro h; cases h
theorem Y7f {x y : AV} (h : thV x y = true) : x = y := by
 unfold thV at h
 split at h
 ·simp only [Bool.and_eq_true, Ye] at h; obtain ⟨rfl, rfl⟩ := h; rfl
 ·rw [Ye.1 h]
 ·rw [Ye.1 h]
 ·simp only [Bool.and_eq_true, Ye] at h; obtain ⟨rfl, h⟩ := h; rw [Y7g h]
 ·cases h
theorem Y7i : ∀ {xs ys : List AV}, thL xs ys = true -> xs = ys := by
 intro xs ys
 fun_induction thL xs ys with
 | case1 => intro _; rfl
 | case2 x xs y ys ih =>
  intro h;simp only [Bool.and_eq_true] at h;rw [Y7f h.1, ih h.2]
 | case3 => intro h; cases h
theorem Y7h {o : Option It} {y : It} (h : thO o y = true) : o = some y := by
 unfold thO at h
 split at h
 ·simp only [Bool.and_eq_true, Ye] at h; obtain ⟨rfl, h⟩ := h; rw [Y7i h]
 ·cases h
def thin (hs : Heap) : Heap -> Heap
 | [] => []
 | p :: us => match thO (look hs p.1) p.2 with | true => thin hs us | false => p :: thin hs us
def Yzz (hs : Heap) : Heap -> (Heap -> Prop) -> Prop
 | [], K => K []
 | p :: us, K => match thO (look hs p.1) p.2 with | true => Yzz hs us K | false => Yzz hs us fun r => K (p :: r)
theorem Ysl {hs : Heap} : ∀ {us : Heap} {K : Heap -> Prop}, Yzz hs us K ↔ K (thin hs us)
 | [], K => Iff.rfl
 | p :: us, K => by
  unfold Yzz thin;cases thO (look hs p.1) p.2 <;> simp only [Ysl (us := us)]
theorem Yqt {hs : Heap} : ∀ {us : Heap} {i : Nat}, i ∈ keys (thin hs us) -> i ∈ keys us
 | [], _, h => h
 | p :: us, i, h => by
  unfold thin at h
  split at h
  ·exact List.mem_cons_of_mem _ (Yqt h)
  ·rcases List.mem_cons.1 h with h | h
   ·exact h ▸ List.mem_cons_self
   ·exact List.mem_cons_of_mem _ (Yqt h)
theorem Ywz : ∀ {h : Heap} {i : Nat} {x : It}, look h i = some x -> upd h i x = h
 | [], _, _, h => rfl
 | p :: h, i, x, hl => by
  unfold look at hl;unfold upd;cases hb : Nat.beq p.1 i with
  | true =>
   rw [hb] at hl;cases hl;have := Ye.1 hb;subst this;rfl
  | false =>
   rw [hb] at hl
   show p :: upd h i x = p :: h
   rw [Ywz hl]
theorem Ytu : ∀ {h : Heap} {i j : Nat} {x : It}, j ≠ i -> look (upd h i x) j = look h j
 | [], _, _, _, _ => rfl
 | p :: h, i, j, x, hj => by
  unfold upd;cases hb : Nat.beq p.1 i with
  | true =>
   have e := Ye.1 hb;have : Nat.beq i j = false := Y4.2 (Ne.symm hj);have : Nat.beq p.1 j = false := by rw [e]; exact this
   simp [look, *]
  | false => simp [look, Ytu (h := h) hj]
theorem Yh7 {hs : Heap} : ∀ (us h : Heap), (keys us).Nodup -> (∀ k ∈ keys us, look h k = look hs k) -> Yh h (thin hs us) = Yh h us
 | [], _, _, _ => rfl
 | p :: us, h, hn, hl => by
  have hn' := List.nodup_cons.1 hn;unfold thin
  split
  ·rename_i hs'
   show _ = Yh (upd h p.1 p.2) us
   rw [Ywz ((hl _ List.mem_cons_self).trans (Y7h hs'))];exact Yh7 us h hn'.2 fun k hk => hl k (List.mem_cons_of_mem _ hk)
  ·show Yh (upd h p.1 p.2) _ = Yh (upd h p.1 p.2) us
   refine Yh7 us _ hn'.2 fun k hk => ?_;rw [Ytu (show k ≠ p.1 from fun e => hn'.1 (by show p.1 ∈ keys us; rw [<- e]; exact hk))];exact hl k (List.mem_cons_of_mem _ hk)
theorem ACall.thin {P : Program} {g : FuncId} {args : List AV} {hs : Heap} {pan : Bool} {val : AV} {us nw : Heap} (h : ACall P g args hs pan val us nw) (hn : (keys us).Nodup) : ACall P g args hs pan val (Go.Proofs.YtladoaeefkpdiaaGreatDoor.thin hs us) nw := by
 unfold ACall at h ⊢;rw [Yh7 us hs hn fun _ _ => rfl];exact h
def Y8e (cc : CC) (args : List AV) (hp : Heap) (k kp : KE) : Prop :=
 Yc (Yfc (hp.map (·.1))) (Yez cc.args args [] fun _ B _ => Yd0 cc.H B hp fun _ _ rest _ => Y0v rest hp fun hs =>
  Yez cc.args args [] fun xs B e1 => Yd0 cc.H B hs fun ys B rest e2 => nilK rest (Y3 (maxL (Yrm args hp) 1024) fun base =>
   Yc (Yp7 base args && hOld base hs && lowL xs && lowH ys && Yfc (ys.map (·.1))) (cc.spec (e1 ++ e2) fun j e => match cc.outs[j]? with
    | none => Stuck 480
    | some o => outP B base o.val e fun v r => (match o.same with
     | true => endE r (Yc (v.ids (mayB base []) && ownH ys) (match o.pan with | false => k v hs [] [] | true => kp v hs [] []))
     | false => outH B base o.H r fun hO r => endE r (usK hO hs fun us => newK hs hO fun nw =>
      Yc (Yfc (hO.map (·.1)) && Yx1 base nw && v.ids (mayB base (nw.map (·.1))) && mayH base (nw.map (·.1)) hO) (Yzz hs us fun us => match o.pan with | false => k v hs us nw | true => kp v hs us nw))))))
theorem Yws {P : Program} {cc : CC} (hc : CallC P cc) {args : List AV} {hp : Heap} {k kp : KE} (h : Y8e cc args hp k kp) :
  (∃ val hs us nw, k val hs us nw /\ PartOf hs hp /\ (∀ i ∈ keys us, i ∈ keys hs) /\ ACall P cc.g args hs false val us nw) \/
  (∃ val hs us nw, kp val hs us nw /\ PartOf hs hp /\ (∀ i ∈ keys us, i ∈ keys hs) /\ ACall P cc.g args hs true val us nw) := by
 obtain ⟨hnd, h⟩ := Ya h;obtain ⟨_, _, _, h, _⟩ := Ybl _ _ _ _ h;obtain ⟨_, _, rest0, _, h, _⟩ := Yfx _ _ _ _ h;obtain ⟨hs, h, hsub⟩ := Ykc h;have hpart := Y57 hsub (Ybk hnd);obtain ⟨xs, B1, e1, h, m1, m2, m3⟩ := Ybl _ _ _ _ h;obtain ⟨ys, B, rest, e2, h, n1, n2, n3, n4'⟩ := Ycf _ _ _ _ h;have n4 := fun B2 hB2 φ => (n4' B2 hB2 φ).1;obtain ⟨hnil, hz⟩ := Y1a h;subst hnil;have hz2 := Yk.1 hz;clear h hz;generalize maxL (Yrm args hp) 1024 = base at hz2;obtain ⟨hb, hz3⟩ := Ya hz2;simp only [Bool.and_eq_true] at hb;obtain ⟨⟨⟨⟨b1, b2⟩, b3⟩, b4⟩, b5⟩ := hb;obtain ⟨j, e, o, v', r, ys', k1, k2, k3, k4, k5⟩ := hc xs ys e1 e2 m1 n1 _ hz3;rw [k2] at k1;obtain ⟨v, v2, r2, p1, p2, p3, _⟩ := Ygt _ _ _ k1;rw [k3] at p2;cases p2
 split at p1
 ·rename_i hsm;obtain ⟨hr, p1⟩ := Yug p1;obtain ⟨c3', p1⟩ := Ya p1;obtain ⟨c3, cO⟩ : _ /\ _ := by simpa only [Bool.and_eq_true] using c3'
  rw [hsm] at k5;have hA : ACall P cc.g args hs o.pan v [] [] := by
   intro φ w0 M R w hnew hS;have hS1 := n4 B (.refl _) φ w0 M [] R w (by simpa using hS);simp only [List.nil_append, Yb, List.map_nil] at hS1;have hS2 : St w0 M (Yb (Yep φ B { tmps := #[], defers := [] }) ys ++ R) w := by rw [Y1j ys b4]; exact hS1
   have hx : AV.concL (Yep φ B { tmps := #[], defers := [] }) xs = AV.concL φ args := by
    rw [Ych xs (Yna b3), m3 B n2 φ]
   have hcall := k5 (Yep φ B { tmps := #[], defers := [] }) w0 M R w (Ybk b5) hS2;rw [hx] at hcall;refine hcall.mono fun en w' ⟨φ2, f1, f2, f3, f4⟩ => ?_;have hE : Ends B φ φ2 { tmps := #[], defers := [] } := ⟨f1⟩;refine ⟨Yi6 [] φ (Yb4 φ φ2 base), Yk1 _ _ _, ?_, ?_⟩
   ·rw [f2, <- p3 φ φ2 _ hE];rw [Yjt (p := mayB base []) (fun i hi => Ym3 (ks := []) (fun k hk => by cases hk) hi) v c3]
   ·have e0 : Yb φ2 ys = Yb (hB φ B) ys := by rw [Ytd f1 ys cO, Y1j ys b4]
    dsimp only at f4;rw [e0] at f4;obtain ⟨D, hD⟩ := (n4' B (.refl _) φ).2;have f5 : St w0 M ((Yb (hB φ B) ys ++ Yb φ []) ++ R) w' := by simpa [Yb] using f4
    have f6 := (f5.perm (hD.append_right R)).sub (L' := Yb φ hs ++ R) (by
     rw [List.append_assoc]; exact List.sublist_append_right _ _)
    have e1 : Yi6 [] φ (Yb4 φ φ2 base) = φ := by funext i; simp [Yi6]
    rw [e1];simpa [Yh] using f6
  cases hp : o.pan with
  | false => rw [hp] at p1 hA; exact .inl ⟨_, _, _, _, p1, hpart, (fun i hi => by cases hi), hA⟩
  | true => rw [hp] at p1 hA; exact .inr ⟨_, _, _, _, p1, hpart, (fun i hi => by cases hi), hA⟩
 rename_i hsm;rw [hsm] at k5;obtain ⟨hO, ys2, r3, q1, q2, q3⟩ := Ym6 _ _ _ p1;rw [k4] at q2;cases q2;obtain ⟨_, q1⟩ := Yug q1;have q1 := Yxe.1 (Yzw.1 q1);obtain ⟨hb2, q1⟩ := Ya q1;simp only [Bool.and_eq_true] at hb2;obtain ⟨⟨⟨c1, c2⟩, c3⟩, c4⟩ := hb2;have hall := Yoa c2;have hus : ∀ i ∈ keys (usOf hO hs), i ∈ keys hs := fun i hi => by rwa [Yg0] at hi
 have hA : ACall P cc.g args hs o.pan v (usOf hO hs) (Yto hs hO) := by
  intro φ w0 M R w hnew hS;have hS1 := n4 B (.refl _) φ w0 M [] R w (by simpa using hS);simp only [List.nil_append, Yb, List.map_nil] at hS1;have hS2 : St w0 M (Yb (Yep φ B { tmps := #[], defers := [] }) ys ++ R) w := by rw [Y1j ys b4]; exact hS1
  have hx : AV.concL (Yep φ B { tmps := #[], defers := [] }) xs = AV.concL φ args := by
   rw [Ych xs (Yna b3), m3 B n2 φ]
  have hcall := k5 (Yep φ B { tmps := #[], defers := [] }) w0 M R w (Ybk b5) hS2;rw [hx] at hcall;refine hcall.mono fun en w' ⟨φ2, f1, f2, f3, f4⟩ => ?_;have hE : Ends B φ φ2 { tmps := #[], defers := [] } := ⟨f1⟩;refine ⟨Yi6 (keys (Yto hs hO)) φ (Yb4 φ φ2 base), Yk1 _ _ _, ?_, ?_⟩
  ·rw [f2, <- p3 φ φ2 _ hE];rw [Yjt (p := mayB base (keys (Yto hs hO))) (fun i hi => Ym3 hall hi) v c3]
  ·rw [Yx7 _ _ (Yg0 hO hs) hpart.nd];have e1 : St w0 M (Yb (Yb4 φ φ2 base) hO ++ R) w' := by rw [q3 φ φ2 _ hE]; exact f4
   rw [<- Ytp (fun i hi => Ym3 (φ := φ) (φ2 := φ2) hall hi) c4] at e1;generalize Yi6 (keys (Yto hs hO)) φ (Yb4 φ φ2 base) = φ' at e1 ⊢;have hOnd : (keys hO).Nodup := Ybk c1;have hperm : ((usOf hO hs) ++ Yto hs hO).Perm (((usOf hO hs).filter fun p => (look hO p.1).isNone) ++ hO) := by
    refine Ygr ?_ ?_ ?_
    ·rw [Ybo, Yg0];refine List.nodup_append.2 ⟨hpart.nd, (List.filter_sublist.map _).nodup hOnd, fun a ha b hb e => ?_⟩;subst e;obtain ⟨x, hx⟩ := Ylo.2 ha;obtain ⟨q, hq, rfl⟩ := List.mem_map.1 hb;have := (List.mem_filter.1 hq).2;rw [hx] at this;cases this
    ·rw [Ybo];refine List.nodup_append.2 ⟨(List.filter_sublist.map _).nodup (by show (keys (usOf hO hs)).Nodup; rw [Yg0]; exact hpart.nd), hOnd, fun a ha b hb e => ?_⟩;subst e;obtain ⟨x, hx⟩ := Ylo.2 hb;obtain ⟨q, hq, rfl⟩ := List.mem_map.1 ha;have := (List.mem_filter.1 hq).2;rw [hx] at this;cases this
    ·intro i;have hf : ∀ (f : Nat -> Bool) (h : Heap), look (h.filter fun p => f p.1) i = if f i then look h i else none := by
      intro f h
      induction h with
      | nil => simp [look]
      | cons p h ih =>
       rw [List.filter_cons]
       by_cases e : p.1 = i
       ·subst e;cases hfi : f p.1 <;> simp [hfi, Yt] <;> simp_all
       ·cases hfp : f p.1 <;> simp [Yt, e, ih]
     rw [Yjf, Yjf];have a1 := hf (fun i => (look hs i).isNone) hO;have a2 := hf (fun i => (look hO i).isNone) (usOf hO hs);unfold Yto;rw [a1, a2, Ytt];cases look hs i <;> cases look hO i <;> simp
   have hd : ∀ p ∈ ((usOf hO hs).filter fun p => (look hO p.1).isNone), p.2 = .dead := by
    intro p hp;obtain ⟨h1, h2⟩ := List.mem_filter.1 hp;obtain ⟨q, hq, rfl⟩ := List.mem_map.1 h1;dsimp only at h2 ⊢;cases hl : look hO q.1 with
    | none => rfl
    | some y => rw [hl] at h2; cases h2
   have e2 := St.deads (φ := φ') hd e1;refine e2.perm ?_;rw [<- List.append_assoc, <- Yn];exact ((Yv hperm).symm.append_right R)
 have q1 := Ysl.1 q1;have hA := hA.thin (by rw [Yg0]; exact hpart.nd);have hus := fun i (hi : i ∈ keys (thin hs (usOf hO hs))) => hus i (Yqt hi);cases hp : o.pan with
 | false => rw [hp] at q1 hA; exact .inl ⟨_, _, _, _, q1, hpart, hus, hA⟩
 | true => rw [hp] at q1 hA; exact .inr ⟨_, _, _, _, q1, hpart, hus, hA⟩
def likeC (cc : CC) (args : List AV) (hp : Heap) : Bool := Yot cc.args args [] fun B => Y1p cc.H hp B
end
def ceOf {P : Program} (cc : CC) (h : ∀ W : InW, @CallC W P cc) : CE P := ⟨cc.g, fun W => @likeC W cc, fun W args hp k kp => @Y8e W cc args hp k kp, fun W args hp k kp => @Yws W P cc (h W) args hp k kp⟩
theorem CC.okOf {P : Program} (tt : (W : InW) -> @Tr (@TI W)) (ht : ∀ W : InW, @TabOk W P (tt W)) (hm : P.follows .mixedOrders = true) (T : Tab P) (n m : Nat) (cc : CC)
  (hb : ∀ (W : InW), @AllL W cc.args fun xs e1 => @AllH W cc.H fun ys e2 => ∀ K, @CC.spec cc W (e1 ++ e2) K -> @Yzo W (@cxT W P (tt W) T n m) n cc.g xs ys (fun v hpF => @outC W cc.H e2 cc.outs 0 false v hpF K) (fun v hpF => @outC W cc.H e2 cc.outs 0 true v hpF K)) : ∀ W : InW, @CallC W P cc := by
 intro W;have hP := Y2w P (tt W) T n m;have := CallC.of (c := @cxT W P (tt W) T n m) (Yus (T := T) (ht W) hm n m) (by rw [hP]; exact hm) n (cc := cc) (hb W);rwa [hP] at this
end Go.Proofs.YtladoaeefkpdiaaGreatDoor
namespace Go.Proofs.YtladoaeefkpdiaaGreatDoor
open Go.RowKit Go.ChangeShapes Go.WideShapes Go.ChangeAt
inductive WfC : Ty -> Cl -> Prop
 | int (k : IntKind) (n : Int) (h : (Lit.int k n).wf = true) : WfC (.int k) (.i n)
 | bool (b : Bool) : WfC .bool (.b b)
 | str (s : ByteArray) (h : s.size <= maxLen) : WfC .str (.s s)
 | sl (ts : List Ty) (xs : Dt) (hm : xs.length <= maxLen) (hl : ∀ row ∈ xs, row.length = ts.length) (h : ∀ i k t, i < xs.length -> ts[k]? = some t -> WfC t (cel xs i k)) : WfC (.sl ts) (.l xs)
inductive WfL : List Ty -> List Cl -> Prop
 | nil : WfL [] []
 | cons {t : Ty} {c : Cl} {ts : List Ty} {cs : List Cl} (h : WfC t c) (hs : WfL ts cs) : WfL (t :: ts) (c :: cs)
def WfA (a : AT) (d : List Cl) : Prop := match a with | .one t => WfL [t] d | .agg ts => WfL ts d
def WfD : List AT -> DS -> Prop
 | [], ds => ds = []
 | a :: ats, ds => ∃ d ds', ds = d :: ds' /\ WfA a d /\ WfD ats ds'
inductive RdL [InW] : List Ty -> List Value -> List Cl -> Prop
 | nil : RdL [] [] []
 | cons {t : Ty} {u : Value} {c : Cl} {ts : List Ty} {us : List Value} {cs : List Cl} (h : RdV t u c) (hz : Yn0 t c) (hw : WfC t c) (hs : RdL ts us cs) : RdL (t :: ts) (u :: us) (c :: cs)
section
variable [W : InW]
theorem RdL.append {ts : List Ty} {us : List Value} {cs : List Cl} {ts' : List Ty} {us' : List Value} {cs' : List Cl} (h : RdL ts us cs) (h' : RdL ts' us' cs') : RdL (ts ++ ts') (us ++ us') (cs ++ cs') := by
 induction h with
 | nil => exact h'
 | cons a b c _ ih => exact .cons a b c ih
theorem RdL.len {ts : List Ty} {us : List Value} {cs : List Cl} (h : RdL ts us cs) : us.length = ts.length /\ cs.length = ts.length := by
 induction h with
 | nil => exact ⟨rfl, rfl⟩
 | cons _ _ _ _ ih => simp [ih.1, ih.2]
theorem RdL.at {ts : List Ty} {us : List Value} {cs : List Cl} (h : RdL ts us cs) : ∀ (k : Nat) (t : Ty) (u : Value) (c : Cl), ts[k]? = some t -> us[k]? = some u -> cs[k]? = some c -> RdV t u c /\ Yn0 t c /\ WfC t c := by
 induction h with
 | nil => intro k t u c h; simp at h
 | cons a b d _ ih =>
  intro k t u c h1 h2 h3;cases k with
  | zero => simp only [List.getElem?_cons_zero, Option.some.injEq] at h1 h2 h3; subst h1; subst h2; subst h3; exact ⟨a, b, d⟩
  | succ k => exact ih k t u c (by simpa using h1) (by simpa using h2) (by simpa using h3)
theorem RdL.wf {ts : List Ty} {us : List Value} {cs : List Cl} (h : RdL ts us cs) : WfL ts cs := by
 induction h with
 | nil => exact .nil
 | cons _ _ c _ ih => exact .cons c ih
end
def Y1z (rec : TypeId -> Option (List Ty)) : Nat -> List Field -> Option (List Ty)
 | _, [] => some []
 | off, f :: fs => match rec f.type with
  | none => none
  | some ts => if f.offset = off then (Y1z rec (off + ts.length) fs).map (ts ++ ·) else none
def fitN : Nat -> List Ty -> List Ty
 | 0, _ => []
 | n + 1, ts => ts ++ fitN n ts
def fit0 (P : Program) (rec : TypeId -> Option (List Ty)) (t : TypeId) : Option (List Ty) :=
 match P.underlying t with
 | some .bool => some [.bool]
 | some (.int k) => some [.int k]
 | some .string => some [.str]
 | some (.slice e) => (match rec e with | some (t :: ts) => some [.sl (t :: ts)] | _ => none)
 | some (.struct fs) => Y1z rec 0 fs.toList
 | some (.array n e) => (rec e).map (fitN n)
 | _ => none
def You (P : Program) : Nat -> TypeId -> Option (List Ty)
 | 0, _ => none
 | d + 1, t => match fit0 P (You P d) t with
  | some ts => if P.cellsOf t = ts.length then some ts else none
  | none => none
theorem Yek {P : Program} {d : Nat} {t : TypeId} {ts : List Ty} (h : You P d t = some ts) : P.cellsOf t = ts.length := by
 cases d with
 | zero => cases h
 | succ d =>
  unfold You at h
  split at h
  ·split at h
   ·cases h; assumption
   ·cases h
  ·cases h
theorem Yy4 {α : Type} {f : Nat -> Option α} : ∀ {n : Nat} {r : List α}, (List.range n).mapM f = some r -> r.length = n /\ ∀ (i : Nat) (x : α), r[i]? = some x -> f i = some x := by
 have key : ∀ (l : List Nat) (r : List α), l.mapM f = some r -> r.length = l.length /\ ∀ (i : Nat) (x : α), r[i]? = some x -> ∃ j, l[i]? = some j /\ f j = some x := by
  intro l
  induction l with
  | nil => intro r h; simp at h; subst h; exact ⟨rfl, by simp⟩
  | cons a l ih =>
   intro r h;rw [List.mapM_cons] at h;simp only [bind, Option.bind_eq_some_iff, pure, Option.some.injEq] at h;obtain ⟨y, hy, ys, hys, rfl⟩ := h;obtain ⟨h1, h2⟩ := ih ys hys;refine ⟨by simp [h1], fun i x hx => ?_⟩;cases i with
   | zero => simp only [List.getElem?_cons_zero, Option.some.injEq] at hx; subst hx; exact ⟨a, rfl, hy⟩
   | succ i => obtain ⟨j, h3, h4⟩ := h2 i x (by simpa using hx); exact ⟨j, by simpa using h3, h4⟩
 intro n r h;obtain ⟨h1, h2⟩ := key _ _ h;rw [List.length_range] at h1;refine ⟨h1, fun i x hx => ?_⟩;obtain ⟨j, h3, h4⟩ := h2 i x hx;have hi : i < n := by
  rw [<- h1];exact (List.getElem?_eq_some_iff.1 hx).1
 rw [List.getElem?_range hi] at h3;cases h3;exact h4
theorem Yut {w : World} {a : Addr} {n : Nat} {cs : List Value} (h : w.cells? 0 a n = some cs) : cs.length = n /\ ∀ i u, cs[i]? = some u -> w.cell? (a.add i) = some u := by
 unfold World.cells? at h;rw [if_pos (Nat.zero_le _)] at h;exact Yy4 h
theorem Yzp {w : World} {a : Addr} {u : Value} (h : w.cell? a = some u) : a.spot = none /\ a.block < w.heap.size := by
 unfold World.cell? at h
 split at h
 ·rename_i c e1 e2 hb;refine ⟨?_, ?_⟩
  ·split at h
   ·cases h
   ·rename_i hs; cases hsp : a.spot <;> simp_all
  ·rcases Nat.lt_or_ge a.block w.heap.size with hlt | hge
   ·exact hlt
   ·simp [Array.getElem?_eq_none hge] at hb
 ·cases h
section
variable {H : Type} {enc : TypeId × Value -> H} {P : Program}
def Yr6 (enc : TypeId × Value -> H) (P : Program) (w : World) (rec : TypeId -> Option (List Ty)) (fuel : Nat) : Prop :=
 ∀ (t : TypeId) (ts : List Ty) (cs : List Value) (x : DataW H × List MemPlace), rec t = some ts -> DataW.trod enc P w 0 (fun _ => true) true fuel t cs = some x -> ∃ ds, @RdL (atW w) ts cs ds
theorem Yxp {w : World} {rec : TypeId -> Option (List Ty)} {fuel : Nat} (hrec : Yr6 enc P w rec fuel) (hc : ∀ t ts, rec t = some ts -> P.cellsOf t = ts.length) (cs : List Value) :
  ∀ (fs : List Field) (off : Nat) (ts : List Ty), Y1z rec off fs = some ts -> (∀ f ∈ fs, ∃ x, DataW.trod enc P w 0 (fun _ => true) true fuel f.type ((cs.drop f.offset).take (P.cellsOf f.type)) = some x) ->
   ∃ ds, @RdL (atW w) ts ((cs.drop off).take ts.length) ds
 | [], off, ts, h, _ => by
  simp only [Y1z, Option.some.injEq] at h;subst h;exact ⟨[], by simpa using @RdL.nil (atW w)⟩
 | f :: fs, off, ts, h, hm => by
  unfold Y1z at h
  split at h
  ·cases h
  ·rename_i t1 h1
   split at h
   ·rename_i hoff;rw [Option.map_eq_some_iff] at h;obtain ⟨t2, h2, rfl⟩ := h;obtain ⟨y, hy⟩ := hm f List.mem_cons_self;obtain ⟨d1, k1⟩ := hrec _ _ _ _ h1 hy;obtain ⟨d2, k2⟩ := Yxp hrec hc cs fs _ _ h2 fun f hf => hm f (List.mem_cons_of_mem _ hf);rw [hoff, hc _ _ h1] at k1;refine ⟨d1 ++ d2, ?_⟩;have := RdL.append (W := atW w) k1 k2;have e : (cs.drop off).take (t1 ++ t2).length = (cs.drop off).take t1.length ++ (cs.drop (off + t1.length)).take t2.length := by
     rw [List.length_append, List.take_add, List.drop_drop]
    rw [e];exact this
   ·cases h
theorem Yuw {w : World} {rec : TypeId -> Option (List Ty)} {fuel : Nat} (hrec : Yr6 enc P w rec fuel) {e : TypeId} {ts : List Ty} (he : rec e = some ts) (hc : P.cellsOf e = ts.length) (cs : List Value) :
  ∀ (n m : Nat), (∀ i, m <= i -> i < m + n -> ∃ x, DataW.trod enc P w 0 (fun _ => true) true fuel e ((cs.drop (i * P.cellsOf e)).take (P.cellsOf e)) = some x) ->
   ∃ ds, @RdL (atW w) (fitN n ts) ((cs.drop (m * ts.length)).take (n * ts.length)) ds
 | 0, m, _ => ⟨[], by simpa [fitN] using @RdL.nil (atW w)⟩
 | n + 1, m, h => by
  obtain ⟨x, hx⟩ := h m (Nat.le_refl _) (by omega);obtain ⟨d1, k1⟩ := hrec _ _ _ _ he hx;obtain ⟨d2, k2⟩ := Yuw hrec he hc cs n (m + 1) fun i h1 h2 => h i (by omega) (by omega);rw [hc] at k1;refine ⟨d1 ++ d2, ?_⟩;have := RdL.append (W := atW w) k1 k2;have e1 : (cs.drop (m * ts.length)).take ((n + 1) * ts.length) = (cs.drop (m * ts.length)).take ts.length ++ (cs.drop ((m + 1) * ts.length)).take (n * ts.length) := by
   rw [Nat.add_mul, Nat.one_mul, Nat.add_comm (n * ts.length), List.take_add, List.drop_drop, Nat.add_mul, Nat.one_mul]
  rw [e1];exact this
theorem Y3m {w : World} {rec : TypeId -> Option (List Ty)} {fuel : Nat} (hrec : Yr6 enc P w rec fuel) {e : TypeId} {ts : List Ty} (hts : ts ≠ []) (he : rec e = some ts) (hc : P.cellsOf e = ts.length) {a : Addr} {len cap : Nat} (hlc : len <= cap) (hcm : cap <= maxLen) {els : List (DataW H × List MemPlace)}
  (hel : els.length = len) (h : ∀ i, i < len -> (w.cells? 0 (a.add (i * P.cellsOf e)) (P.cellsOf e)).bind (DataW.trod enc P w 0 (fun _ => true) true fuel e) = els[i]?) : ∃ ds, @RdL (atW w) [.sl ts] [.slice (some a) len cap] ds := by
 have hpos : 0 < ts.length := List.length_pos_iff.2 hts;have hget : ∀ i, i < len -> ∃ cs ds, w.cells? 0 (a.add (i * ts.length)) ts.length = some cs /\ @RdL (atW w) ts cs ds := fun i hi => by
  have hx : els[i]? = some els[i] := List.getElem?_eq_getElem (by omega);have := (h i hi).trans hx;rw [Option.bind_eq_some_iff] at this;obtain ⟨cs, k1, k2⟩ := this;obtain ⟨ds, k3⟩ := hrec _ _ _ _ he k2;rw [hc] at k1;exact ⟨cs, ds, k1, k3⟩
 have hall : ∃ xs : Dt, xs.length = len /\ ∃ us : List (List Value), us.length = len /\ ∀ i cs ds, us[i]? = some cs -> xs[i]? = some ds -> w.cells? 0 (a.add (i * ts.length)) ts.length = some cs /\ @RdL (atW w) ts cs ds := by
  clear h hel
  induction len with
  | zero => exact ⟨[], rfl, [], rfl, by simp⟩
  | succ n ih =>
   obtain ⟨xs, h1, us, h2, h3⟩ := ih (by omega) fun i hi => hget i (by omega);obtain ⟨cs, ds, k1, k2⟩ := hget n (by omega);refine ⟨xs ++ [ds], by simp [h1], us ++ [cs], by simp [h2], fun i c d hc' hd' => ?_⟩
   by_cases hi : i < n
   ·rw [List.getElem?_append_left (by omega)] at hc' hd';exact h3 i c d hc' hd'
   ·have hn : i = n := by
     have := (List.getElem?_eq_some_iff.1 hd').1;simp [h1] at this;omega
    subst hn;simp [List.getElem?_append, h1] at hd';simp [List.getElem?_append, h2] at hc';subst hd'; subst hc';exact ⟨k1, k2⟩
 obtain ⟨xs, hxl, us, hul, hx⟩ := hall;have hrow : ∀ i, i < len -> ∃ cs ds, us[i]? = some cs /\ xs[i]? = some ds /\ w.cells? 0 (a.add (i * ts.length)) ts.length = some cs /\ @RdL (atW w) ts cs ds := fun i hi => by
  have e1 : us[i]? = some us[i] := List.getElem?_eq_getElem (by omega);have e2 : xs[i]? = some xs[i] := List.getElem?_eq_getElem (by omega);exact ⟨_, _, e1, e2, hx i _ _ e1 e2⟩
 have hat : ∀ i k, i < len -> k < ts.length -> a.spot = none /\ a.block < w.heap.size /\ w.cell? ⟨a.block, a.off + i * ts.length + k, none⟩ = some ((us.getD i []).getD k undef) := fun i k hi hk => by
  have first : a.spot = none /\ a.block < w.heap.size := by
   obtain ⟨cs, ds, e1, e2, k1, k2⟩ := hrow 0 (by omega);obtain ⟨k3, k4⟩ := Yut k1;have := k4 0 cs[0] (List.getElem?_eq_getElem (by omega));simp only [Nat.zero_mul, Addr.add, if_true] at this;exact Yzp this
  obtain ⟨cs, ds, e1, e2, k1, k2⟩ := hrow i hi;obtain ⟨k3, k4⟩ := Yut k1;have h5 := k4 k cs[k] (List.getElem?_eq_getElem (by omega));refine ⟨first.1, first.2, ?_⟩;have ea : (a.add (i * ts.length)).add k = ⟨a.block, a.off + i * ts.length + k, none⟩ := by
   obtain ⟨b, o, s⟩ := a;have : s = none := first.1
   subst this
   by_cases h0 : i * ts.length = 0 <;> by_cases h1 : k = 0 <;> simp [Addr.add, h0, h1]
  rw [ea] at h5;rw [h5];simp [List.getD_eq_getElem?_getD, e1, List.getElem?_eq_getElem (show k < cs.length by omega)]
 have hcell : ∀ i k t, i < len -> ts[k]? = some t -> @RdV (atW w) t ((us.getD i []).getD k undef) (cel xs i k) /\ Yn0 t (cel xs i k) /\ WfC t (cel xs i k) := fun i k t hi ht => by
  obtain ⟨cs, ds, e1, e2, k1, k2⟩ := hrow i hi;obtain ⟨l1, l2⟩ := RdL.len (W := atW w) k2;have hk : k < ts.length := (List.getElem?_eq_some_iff.1 ht).1;have := RdL.at (W := atW w) k2 k t cs[k] ds[k] ht (List.getElem?_eq_getElem (by omega)) (List.getElem?_eq_getElem (by omega));simpa [cel, List.getD_eq_getElem?_getD, e1, e2, List.getElem?_eq_getElem (show k < cs.length by omega), List.getElem?_eq_getElem (show k < ds.length by omega)] using this
 refine ⟨[.l xs], @RdL.cons (atW w) _ _ _ _ _ _ ?_ ⟨_, rfl⟩ (.sl ts xs (by omega) (fun row hr => ?_) fun i k t hi ht => (hcell i k t (by omega) ht).2.2) (@RdL.nil (atW w))⟩
 ·have := @RdV.sl (atW w) ts (some a) cap (.l xs) (fun i k => (us.getD i []).getD k undef) (by show xs.length <= cap; omega) (by show xs.length <= maxLen; omega) (fun hne => ?_) (fun i k t hi ht => (hcell i k t (by rw [<- hxl]; exact hi) ht).1)
  ·rw [show (Cl.l xs).lst.length = len from hxl] at this;exact this
  ·have h0 : 0 < len := by rw [<- hxl]; exact List.length_pos_iff.2 hne
   obtain ⟨f1, f2, _⟩ := hat 0 0 h0 hpos;refine ⟨a.block, a.off, by obtain ⟨b, o, s⟩ := a; have : s = none := f1; subst this; rfl, f2, fun i k hi hk => (hat i k (by rw [<- hxl]; exact hi) hk).2.2⟩
 ·obtain ⟨i, hi, rfl⟩ := List.getElem_of_mem hr;obtain ⟨cs, ds, e1, e2, k1, k2⟩ := hrow i (by omega);rw [List.getElem?_eq_getElem hi] at e2;cases e2;exact (RdL.len (W := atW w) k2).2
theorem Yi8 {w : World} {t : Ty} {u : Value} {c : Cl} (h : @RdV (atW w) t u c) (hz : Yn0 t c) (hw : WfC t c) : ∃ ds, @RdL (atW w) [t] [u] ds := ⟨[c], @RdL.cons (atW w) _ _ _ _ _ _ h hz hw (@RdL.nil (atW w))⟩
theorem Yg9 (w : World) : ∀ (d fuel : Nat), Yr6 enc P w (You P d) fuel
 | 0, _ => fun t ts cs x h _ => by cases h
 | d + 1, fuel => fun t ts cs x hf h => by
  have hcs := Yek hf;unfold You at hf
  split at hf
  ·rename_i ts' h0
   split at hf
   ·cases hf;unfold fit0 at h0
    split at h0
    ·rename_i hu;cases h0;obtain ⟨b, rfl, _⟩ := DataW.trod_bool hu h;exact Yi8 (@RdV.bool (atW w) (.b b)) ⟨_, rfl⟩ (.bool b)
    ·rename_i k hu;cases h0;obtain ⟨n, rfl, _, hw⟩ := DataW.trod_int hu h;exact Yi8 (@RdV.int (atW w) k (.i n)) ⟨_, rfl⟩ (.int k n hw)
    ·rename_i hu;cases h0;obtain ⟨s, rfl, _, hw⟩ := DataW.trod_string hu h;exact Yi8 (@RdV.str (atW w) (.s s)) ⟨_, rfl⟩ (.str s hw)
    ·rename_i e hu
     split at h0
     ·rename_i t0 ts0 he;cases h0;rcases DataW.trod_slice hu h with ⟨rfl, _⟩ | ⟨a, len, cap, elems, rest, n, rfl, rfl, _, _, h1, h2, h3, h4, _⟩
      ·exact Yi8 (@RdV.nil (atW w) (t0 :: ts0) (.l []) rfl) ⟨_, rfl⟩ (.sl _ _ (Nat.zero_le _) (by simp) (by simp))
      ·exact Y3m (Yg9 w d n) (by simp) he (Yek he) h1 h2 h3 h4
     ·cases h0
    ·rename_i fs hu;obtain ⟨xs, n, rfl, _, hl, hxl, h1⟩ := DataW.trod_struct hu h;obtain ⟨ds, k⟩ := Yxp (Yg9 w d n) (fun t ts => Yek) cs fs.toList 0 _ h0 fun f hf => by
      obtain ⟨i, hi, rfl⟩ := List.getElem_of_mem hf;have := h1 i fs[i] (by simp [Array.getElem?_eq_getElem (show i < fs.size by simpa using hi)]);exact ⟨xs[i]'(by rw [hxl]; simpa using hi), by simpa [List.getElem?_eq_getElem (show i < xs.length by rw [hxl]; simpa using hi)] using this⟩
     refine ⟨ds, ?_⟩;rw [List.drop_zero, List.take_of_length_le (by omega)] at k;exact k
    ·rename_i n e hu;rw [Option.map_eq_some_iff] at h0;obtain ⟨ts0, he, rfl⟩ := h0;obtain ⟨xs, m, rfl, _, hl, hxl, h1⟩ := DataW.trod_array hu h;obtain ⟨ds, k⟩ := Yuw (Yg9 w d m) he (Yek he) cs n 0 fun i _ hi => by
      have := h1 i (by omega);exact ⟨xs[i]'(by omega), by rw [this, List.getElem?_eq_getElem]⟩
     refine ⟨ds, ?_⟩;have hlen : ∀ n, (fitN n ts0).length = n * ts0.length := fun n => by
      induction n with
      | zero => simp [fitN]
      | succ n ih => simp [fitN, ih, Nat.add_mul, Nat.add_comm]
     rw [Nat.zero_mul, List.drop_zero, List.take_of_length_le (by rw [<- hlen]; omega)] at k;exact k
    ·cases h0
   ·cases hf
  ·cases hf
def atOf (P : Program) (t : TypeId) : Option AT :=
 match P.underlying t with
 | some (.struct _) => (You P 9 t).map .agg
 | some (.array _ _) => (You P 9 t).map .agg
 | _ => (match You P 9 t with | some [ty] => some (.one ty) | _ => none)
def Y47 (P : Program) : List TypeId -> Option (List AT)
 | [] => some []
 | t :: ts => match atOf P t with
  | none => none
  | some a => (Y47 P ts).map (a :: ·)
theorem Y24 {w : World} {base : Nat} {t : TypeId} {v : Value} {d : DataW H} {ps : List MemPlace} {a : AT} (ha : atOf P t = some a) (hv : Value.okWide P w .any base t v) (h : DataW.Trod enc P w 0 (fun _ => true) true t v d ps) :
  ∃ dd, @ArgRd (atW w) a v dd /\ WfA a dd := by
 obtain ⟨fuel, h⟩ := h;have wide : ∀ (tys : List Ty), You P 9 t = some tys -> (∃ cs, v = .agg cs) -> ∃ dd, @ArgRd (atW w) (.agg tys) v dd /\ WfA (.agg tys) dd := fun tys hf ⟨cs, e⟩ => by
  subst e;obtain ⟨ds, k⟩ := Yg9 w 9 fuel t tys _ _ hf h;obtain ⟨l1, l2⟩ := RdL.len (W := atW w) k;refine ⟨ds, ⟨cs.toList, by simp, by simpa [Value.cells] using l1, l2, fun i t u c h1 h2 h3 => ?_⟩, RdL.wf (W := atW w) k⟩;have := RdL.at (W := atW w) k i t u c h1 (by simpa [Value.cells] using h2) h3;exact ⟨this.1, this.2.1⟩
 unfold atOf at ha;unfold Value.okWide at hv
 split at ha
 ·rename_i fs hu;rw [hu] at hv;rw [Option.map_eq_some_iff] at ha;obtain ⟨tys, hf, rfl⟩ := ha;obtain ⟨cs, e, _⟩ := hv;exact wide tys hf ⟨cs, e⟩
 ·rename_i n e hu;rw [hu] at hv;rw [Option.map_eq_some_iff] at ha;obtain ⟨tys, hf, rfl⟩ := ha;obtain ⟨cs, e, _⟩ := hv;exact wide tys hf ⟨cs, e⟩
 ·rename_i hn1 hn2
  split at ha
  ·rename_i ty hf;cases ha;obtain ⟨ds, k⟩ := Yg9 w 9 fuel t [ty] _ _ hf h;obtain ⟨l1, l2⟩ := RdL.len (W := atW w) k;have hone : v.cells = #[v] := by
    cases v <;> first | rfl | skip
    exfalso;rename_i cs;have hv2 : Cell.okWide P w .any base t (.agg cs) := by
     split at hv
     ·rename_i fs hu; exact (hn1 fs hu).elim
     ·rename_i n e hu; exact (hn2 n e hu).elim
     ·exact hv
    have hc := Yek hf;unfold You at hf
    split at hf
    ·rename_i ts' h0;unfold fit0 at h0;cases hu : P.underlying t with
     | none => rw [hu] at h0; cases h0
     | some td => cases td <;> simp only [hu] at h0 <;> first | (cases h0; done) | (exact (hn1 _ hu).elim) | (exact (hn2 _ _ hu).elim) | (unfold Cell.okWide at hv2; rw [hu] at hv2; simp [Cell.ok, hu] at hv2; done)
    ·cases hf
   rw [hone] at k;cases k with
   | cons a b c hs =>
    cases hs;exact ⟨_, ⟨_, rfl, a, b⟩, .cons c .nil⟩
  ·cases ha
theorem Yqk {w : World} {base : Nat} : ∀ {ts : List TypeId} {vs : List Value} {ds : List (DataW H)} {ps : List MemPlace} {ats : List AT}, Y47 P ts = some ats -> (∀ (j : Nat) t v, ts[j]? = some t -> vs[j]? = some v -> Value.okWide P w .any base t v) -> DataW.TrodAll enc P w 0 (fun _ => true) true ts vs ds ps ->
  ∃ dd, @Yx3 (atW w) ats vs dd /\ WfD ats dd
 | [], [], [], _, ats, ha, _, _ => by cases ha; exact ⟨[], ⟨rfl, rfl⟩, rfl⟩
 | t :: ts, v :: vs, d :: ds, ps, ats, ha, hv, ⟨p, q, h1, h2, e⟩ => by
  unfold Y47 at ha
  split at ha
  ·cases ha
  ·rename_i a hat;rw [Option.map_eq_some_iff] at ha;obtain ⟨ats', ha', rfl⟩ := ha;obtain ⟨d1, k1, k2⟩ := Y24 hat (hv 0 t v rfl rfl) h1;obtain ⟨d2, k3, k4⟩ := Yqk ha' (fun j t v h1 h2 => hv (j + 1) t v (by simpa using h1) (by simpa using h2)) h2;exact ⟨d1 :: d2, ⟨v, vs, d1, d2, rfl, rfl, k1, k3⟩, ⟨d1, d2, rfl, k2, k4⟩⟩
theorem Ysk {W W' : World} (hl : laidOutB P = true) (hb : Below W.heap.size W W') : ∀ {ts : List TypeId} {vs : List Value} {ds : List (DataW H)} {ps : List MemPlace}, (ts.all fun t => P.readableRec t && decide (t < P.types.size)) = true -> DataW.TrodAll enc P W 0 (fun _ => true) true ts vs ds ps ->
  DataW.TrodAll enc P W' 0 (fun b => decide (b < W.heap.size)) true ts vs ds ps
 | [], [], [], _, _, h => h
 | t :: ts, v :: vs, d :: ds, ps, hr, h => by
  have hlt := DataW.TrodAll.lt h;obtain ⟨p, q, h1, h2, e⟩ := h;simp only [List.all_cons, Bool.and_eq_true, decide_eq_true_eq] at hr;subst e;exact ⟨p, q, Below.trod hl hr.1.1 hr.1.2 h1 hb fun x hx => hlt x (List.mem_append_left _ hx), Ysk hl hb hr.2 h2, rfl⟩
theorem law_end {g : FuncId} {f : Func} {s : ChangeSpec} {W : World} {base : Nat} {args : Array Value} {ds gs : List (DataW H)} {before : List MemPlace} {tb : TypeId} {ats : List AT} (hrt : f.resultTypes = #[tb]) (hub : P.underlying tb = some .bool) (hats : Y47 P f.params.toList = some ats) (hs : s.vars = [])
  (hl : laidOutB P = true) (hr : (f.params.toList.all fun t => P.readableRec t && decide (t < P.types.size)) = true)
  (hfn : ∀ ds : List (DataW H), ds.length = f.params.toList.length -> (s.fn H ds).results = [.lit (.bool true)] /\ (s.fn H ds).args = ds /\ (s.fn H ds).vars = [])
  (h : PureOk P g ats [(false, [.bool])] (WfD ats) fun _ => [[.b true]])
  (hval : ∀ (j : Nat) t v, f.params[j]? = some t -> args[j]? = some v -> Value.okWide P W .any base t v) (hW : DataW.Whole enc P f.params.toList s.vars false W args.toList ds gs before) :
  Calls P g args W fun e W' => ∃ v, e = .returned v /\ s.post enc P f false true false false W args v W' := by
 have hW0 := hW;obtain ⟨p, q, hA, hV, rfl, hfz, _⟩ := hW;rw [hs] at hV;have hgq : gs = [] /\ q = [] := by
  cases gs with
  | nil => exact ⟨rfl, hV⟩
  | cons _ _ => exact hV.elim
 obtain ⟨rfl, rfl⟩ := hgq;obtain ⟨_, hlen⟩ := trodAll_length hA;obtain ⟨dd, k1, k2⟩ := Yqk hats (fun j t v h1 h2 => hval j t v (by simpa using h1) (by simpa using h2)) hA;obtain ⟨xs, x1, x2⟩ := @Yn9 (atW W) _ _ _ k1;have hc := h (atW W) xs dd x1 k2 0 (by decide);have hSt : @St (atW W) W [] [] W := @St.start (atW W) W (@InOk.mk (atW W) W [] (Nat.le_refl _) (by simp) (Below.refl _ _))
 letI : InW := atW W
 have hnew : NewFor (keys (Ydu 0 0 [(false, [.bool])] [[.b true]])) xs [] := fun i hi => by
  have e : keys (Ydu 0 0 [(false, [.bool])] [[.b true]]) = [] := rfl;rw [e] at hi; cases hi
 have hcall := hc (fun _ => ⟨0, false, 0, none, 0, undef, fun _ => False⟩) W [] [] W hnew hSt;rw [x2] at hcall;have e0 : args.toList.toArray = args := by simp
 rw [e0] at hcall;refine hcall.mono fun e W' ⟨φ', _, he, hS⟩ => ?_;have hb : Below W.heap.size W W' := @St.belowIn (atW W) _ _ _ _ hS;obtain ⟨hf1, hf2, hf3⟩ := hfn (ds ++ []) (by simpa using hlen);refine ⟨_, he, ds, [], p ++ [], [], p, [], hW0, ?_, ?_, ?_, ?_, fun h => by cases h⟩
 ·rw [hf1, hrt];exact ⟨[], [], ⟨1, by show DataW.trod enc P W' _ _ _ 1 tb [.bool true] = _; simp [DataW.trod, hub]⟩, rfl, rfl⟩
 ·rw [hf2, List.append_nil];exact Ysk hl hb hr hA
 ·rw [hs, hf3]; rfl
 ·refine World.keptBut_mono (fun x hx => ⟨hx, .inr (.inl (by simpa using hx))⟩) (hb.frame _)
end
theorem Y3b {P : Program} {cc : CC} {pre : DS -> Prop} (h : ∀ W : InW, @CallC W P cc) (ha : cc.args = []) (hH : cc.H = []) (ho : cc.outs = [⟨false, .lit (.bool true), [], false⟩]) (hs : ∀ (W : InW) (e : List (@Ed W)) (K : Nat -> List (@Ed W) -> Prop), @CC.spec cc W e K = K 0 []) : PureOk P cc.g [] [(false, [.bool])] pre fun _ => [[.b true]] := by
 intro W args ds hargs _ d _;obtain ⟨rfl, rfl⟩ := hargs;obtain ⟨j, e, o, v, r, ys', k1, k2, k3, k4, k5⟩ := h W [] [] [] [] (by rw [ha]; exact ⟨rfl, rfl⟩) (by rw [hH]; exact ⟨rfl, rfl⟩) (fun j e => j = 0 /\ e = []) (by rw [hs]; exact ⟨rfl, rfl⟩);obtain ⟨rfl, rfl⟩ := k1;rw [ho] at k2;cases k2;cases k3;cases k4;intro φ w0 M R w _ hS;refine (k5 φ w0 M R w (by simp [keys]) hS).mono fun e w' ⟨φ2, f1, f2, _, f4⟩ => ⟨φ, Agree.refl _ _, f2, f4⟩
end Go.Proofs.YtladoaeefkpdiaaGreatDoor
