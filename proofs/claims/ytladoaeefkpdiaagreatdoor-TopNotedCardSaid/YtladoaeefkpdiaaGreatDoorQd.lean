/-
  A machine over abstract states, proved sound: the help of the proof of a law.
-/
import Derived.Test.YtladoaeefkpdiaaGreatDoorQc
import Derived.Recover
set_option linter.unusedVariables false
set_option linter.unusedSectionVars false
set_option linter.unusedSimpArgs false
namespace Go.Proofs.YtladoaeefkpdiaaGreatDoor
open Go.RowKit
variable [InW]
mutual
def AV.ren (ρ : Nat -> Nat) : AV -> AV
 | .v x => .v x
 | .ptr id k => .ptr (ρ id) k
 | .sl id a b c => .sl (ρ id) a b c
 | .slc id a b c => .slc (ρ id) a b c
 | .emp id => .emp (ρ id)
 | .agg cs => .agg (AV.renL ρ cs)
 | .tup cs => .tup (AV.renL ρ cs)
 | .fn f a b => .fn f (AV.renL ρ a) (AV.renL ρ b)
 | .ifc t x => .ifc t (AV.ren ρ x)
 | .mp id => .mp (ρ id)
 | .yl id => .yl (ρ id)
 | .held x => .held (AV.ren ρ x)
 | .junk => .junk
 | .si k n => .si k n
 | .sb b => .sb b
 | .ss s => .ss s
 | .rs ts r => .rs ts r
 | .rp ts r i k => .rp ts r i k
 | .rw id => .rw (ρ id)
 | .ep id sz i k => .ep (ρ id) sz i k
 | .rwp id sz l n => .rwp (ρ id) sz l n
 | .opq id => .opq (ρ id)
 | .fp id sz i k => .fp (ρ id) sz i k
def AV.renL (ρ : Nat -> Nat) : List AV -> List AV
 | [] => []
 | x :: xs => AV.ren ρ x :: AV.renL ρ xs
end
mutual
def renK (ρ : Nat -> Nat) : AV -> (AV -> Prop) -> Prop
 | .v x, K => K (.v x)
 | .ptr id k, K => Y3 (ρ id) fun id => K (.ptr id k)
 | .sl id a b c, K => Y3 (ρ id) fun id => K (.sl id a b c)
 | .slc id a b c, K => Y3 (ρ id) fun id => K (.slc id a b c)
 | .emp id, K => Y3 (ρ id) fun id => K (.emp id)
 | .agg cs, K => Yib ρ cs fun cs => K (.agg cs)
 | .tup cs, K => Yib ρ cs fun cs => K (.tup cs)
 | .fn f a b, K => Yib ρ a fun a => Yib ρ b fun b => K (.fn f a b)
 | .ifc t x, K => renK ρ x fun x => K (.ifc t x)
 | .mp id, K => Y3 (ρ id) fun id => K (.mp id)
 | .yl id, K => Y3 (ρ id) fun id => K (.yl id)
 | .held x, K => renK ρ x fun x => K (.held x)
 | .junk, K => K .junk
 | .si k n, K => K (.si k n)
 | .sb b, K => K (.sb b)
 | .ss s, K => K (.ss s)
 | .rs ts r, K => K (.rs ts r)
 | .rp ts r i k, K => K (.rp ts r i k)
 | .rw id, K => Y3 (ρ id) fun id => K (.rw id)
 | .ep id sz i k, K => Y3 (ρ id) fun id => K (.ep id sz i k)
 | .rwp id sz l n, K => Y3 (ρ id) fun id => K (.rwp id sz l n)
 | .opq id, K => Y3 (ρ id) fun id => K (.opq id)
 | .fp id sz i k, K => Y3 (ρ id) fun id => K (.fp id sz i k)
def Yib (ρ : Nat -> Nat) : List AV -> (List AV -> Prop) -> Prop
 | [], K => K []
 | x :: xs, K => renK ρ x fun x => Yib ρ xs fun xs => K (x :: xs)
end
mutual
theorem Yli (ρ : Nat -> Nat) : ∀ (x : AV) (K : AV -> Prop), renK ρ x K ↔ K (x.ren ρ)
 | .v _, K => Iff.rfl
 | .ptr id k, K => by simp only [renK, AV.ren, Yk]
 | .sl id a b c, K => by simp only [renK, AV.ren, Yk]
 | .slc id a b c, K => by simp only [renK, AV.ren, Yk]
 | .emp id, K => by simp only [renK, AV.ren, Yk]
 | .agg cs, K => by simp only [renK, AV.ren]; exact Ycp ρ cs _
 | .tup cs, K => by simp only [renK, AV.ren]; exact Ycp ρ cs _
 | .fn f a b, K => by simp only [renK, AV.ren]; rw [Ycp ρ a, Ycp ρ b]
 | .ifc t x, K => by simp only [renK, AV.ren]; exact Yli ρ x _
 | .mp id, K => by simp only [renK, AV.ren, Yk]
 | .yl id, K => by simp only [renK, AV.ren, Yk]
 | .held x, K => by simp only [renK, AV.ren]; exact Yli ρ x _
 | .junk, K => Iff.rfl
 | .si k n, K => Iff.rfl
 | .sb b, K => Iff.rfl
 | .ss s, K => Iff.rfl
 | .rs ts r, K => Iff.rfl
 | .rp ts r i k, K => Iff.rfl
 | .rw id, K => by simp only [renK, AV.ren, Yk]
 | .ep id sz i k, K => by simp only [renK, AV.ren, Yk]
 | .rwp id sz l n, K => by simp only [renK, AV.ren, Yk]
 | .opq id, K => by simp only [renK, AV.ren, Yk]
 | .fp id sz i k, K => by simp only [renK, AV.ren, Yk]
theorem Ycp (ρ : Nat -> Nat) : ∀ (xs : List AV) (K : List AV -> Prop), Yib ρ xs K ↔ K (AV.renL ρ xs)
 | [], K => Iff.rfl
 | x :: xs, K => by simp only [Yib, AV.renL]; rw [Yli ρ x, Ycp ρ xs]
end
mutual
def AV.ids (p : Nat -> Bool) : AV -> Bool
 | .v _ => true
 | .ptr id _ => p id
 | .sl id _ _ _ => p id
 | .slc id _ _ _ => p id
 | .emp id => p id
 | .agg cs => AV.idsL p cs
 | .tup cs => AV.idsL p cs
 | .fn _ a b => match AV.idsL p a with | true => AV.idsL p b | false => false
 | .ifc _ x => AV.ids p x
 | .mp id => p id
 | .yl id => p id
 | .held x => AV.ids p x
 | .junk => true
 | .si _ _ => true
 | .sb _ => true
 | .ss _ => true
 | .rs _ _ => true
 | .rp _ _ _ _ => true
 | .rw id => p id
 | .ep id _ _ _ => p id
 | .rwp id _ _ _ => p id
 | .opq id => p id
 | .fp id _ _ _ => p id
def AV.idsL (p : Nat -> Bool) : List AV -> Bool
 | [] => true
 | x :: xs => match AV.ids p x with | true => AV.idsL p xs | false => false
end
mutual
theorem Yhu {p : Nat -> Bool} {φ φ' : Phi} {ρ : Nat -> Nat} (h : ∀ i, p i = true -> φ' (ρ i) = φ i) : ∀ x : AV, x.ids p = true -> (x.ren ρ).conc φ' = x.conc φ
 | .v _, _ => rfl
 | .ptr id k, hx => by simp only [AV.ren, AV.conc, h id hx]
 | .sl id a b c, hx => by simp only [AV.ren, AV.conc, h id hx]
 | .slc id a b c, hx => by simp only [AV.ren, AV.conc, h id hx]
 | .emp id, hx => by simp only [AV.ren, AV.conc, h id hx]
 | .agg cs, hx => by simp only [AV.ren, AV.conc, Ycj h cs hx]
 | .tup cs, hx => by simp only [AV.ren, AV.conc, Ycj h cs hx]
 | .fn f a b, hx => by
  unfold AV.ids at hx
  split at hx
  ·rename_i h1;simp only [AV.ren, AV.conc, Ycj h a h1, Ycj h b hx]
  ·cases hx
 | .ifc t x, hx => by simp only [AV.ren, AV.conc, Yhu h x hx]
 | .mp id, hx => by simp only [AV.ren, AV.conc, h id hx]
 | .yl id, hx => by simp only [AV.ren, AV.conc, h id hx]
 | .held _, _ => rfl
 | .junk, _ => rfl
 | .si _ _, _ => rfl
 | .sb _, _ => rfl
 | .ss _, _ => rfl
 | .rs _ _, _ => rfl
 | .rp _ _ _ _, _ => rfl
 | .rw id, hx => by simp only [AV.ren, AV.conc, h id hx]
 | .ep id _ _ _, hx => by simp only [AV.ren, AV.conc, h id hx]
 | .rwp id _ _ _, hx => by simp only [AV.ren, AV.conc, h id hx]
 | .opq id, hx => by simp only [AV.ren, AV.conc, h id hx]
 | .fp id _ _ _, hx => by simp only [AV.ren, AV.conc, h id hx]
theorem Ycj {p : Nat -> Bool} {φ φ' : Phi} {ρ : Nat -> Nat} (h : ∀ i, p i = true -> φ' (ρ i) = φ i) : ∀ xs : List AV, AV.idsL p xs = true -> AV.concL φ' (AV.renL ρ xs) = AV.concL φ xs
 | [], _ => rfl
 | x :: xs, hx => by
  unfold AV.idsL at hx
  split at hx
  ·rename_i h1;simp only [AV.renL, AV.concL, Yhu h x h1, Ycj h xs hx]
  ·cases hx
end
def It.ren (ρ : Nat -> Nat) : It -> It
 | .blk T cs => .blk T (AV.renL ρ cs)
 | .row T sz n cs => .row T sz n (AV.renL ρ cs)
 | .rowV T sz n xs => .rowV T sz n xs
 | .obj x => .obj x
 | .lp L cs => .lp L (AV.renL ρ cs)
 | .dead => .dead
 | .arr T ts xs => .arr T ts xs
 | .bk T ts xs j => .bk T ts xs (ρ j)
 | .bkv T sz n cs j => .bkv T sz n (AV.renL ρ cs) (ρ j)
 | .nst T ts xs => .nst T ts xs
 | .fro ts xs => .fro ts xs
def Yyr (ρ : Nat -> Nat) : It -> (It -> Prop) -> Prop
 | .blk T cs, K => Yib ρ cs fun cs => K (.blk T cs)
 | .row T sz n cs, K => Yib ρ cs fun cs => K (.row T sz n cs)
 | .rowV T sz n xs, K => K (.rowV T sz n xs)
 | .obj x, K => K (.obj x)
 | .lp L cs, K => Yib ρ cs fun cs => K (.lp L cs)
 | .dead, K => K .dead
 | .arr T ts xs, K => K (.arr T ts xs)
 | .bk T ts xs j, K => Y3 (ρ j) fun j => K (.bk T ts xs j)
 | .bkv T sz n cs j, K => Y3 (ρ j) fun j => Yib ρ cs fun cs => K (.bkv T sz n cs j)
 | .nst T ts xs, K => K (.nst T ts xs)
 | .fro ts xs, K => K (.fro ts xs)
theorem Yi0 {ρ : Nat -> Nat} {x : It} {K : It -> Prop} : Yyr ρ x K ↔ K (x.ren ρ) := by
 cases x <;> simp only [Yyr, It.ren, Ycp, Yk]
def It.ids (p : Nat -> Bool) : It -> Bool
 | .blk _ cs => AV.idsL p cs
 | .row _ _ _ cs => AV.idsL p cs
 | .rowV .. => true
 | .obj _ => true
 | .lp _ cs => AV.idsL p cs
 | .dead => true
 | .arr .. => true
 | .bk _ _ _ j => p j
 | .bkv _ _ _ cs j => match p j with | true => AV.idsL p cs | false => false
 | .nst .. => true
 | .fro .. => true
theorem Yp5 {p : Nat -> Bool} {φ φ' : Phi} {ρ : Nat -> Nat} (h : ∀ i, p i = true -> φ' (ρ i) = φ i) {id : Nat} (hid : φ' (ρ id) = φ id) : ∀ x : It, x.ids p = true -> (x.ren ρ).conc φ' (ρ id) = x.conc φ id
 | .blk T cs, hx => by simp only [It.ren, It.conc, hid, Ycj h cs hx]
 | .row T sz n cs, hx => by simp only [It.ren, It.conc, hid, Ycj h cs hx]
 | .rowV .., hx => by simp only [It.ren, It.conc, hid]
 | .obj _, hx => by simp only [It.ren, It.conc, hid]
 | .lp L cs, hx => by simp only [It.ren, It.conc, hid, Ycj h cs hx]
 | .dead, hx => rfl
 | .arr .., hx => by simp only [It.ren, It.conc, hid]
 | .bk _ _ _ j, hx => by simp only [It.ren, It.conc, hid, h j hx]
 | .nst .., hx => by simp only [It.ren, It.conc, hid]
 | .fro .., hx => by simp only [It.ren, It.conc, hid]
 | .bkv _ _ _ cs j, hx => by
  have hx' : (match p j with | true => AV.idsL p cs | false => false) = true := hx
  split at hx'
  ·rename_i h1;simp only [It.ren, It.conc, hid, h j h1, Ycj h cs hx']
  ·cases hx'
mutual
theorem Yro : ∀ x : AV, x.ids (fun _ => true) = true
 | .v _ => rfl
 | .ptr _ _ => rfl
 | .sl _ _ _ _ => rfl
 | .slc _ _ _ _ => rfl
 | .emp _ => rfl
 | .agg cs => Yej cs
 | .tup cs => Yej cs
 | .fn _ a b => by unfold AV.ids; rw [Yej a]; exact Yej b
 | .ifc _ x => Yro x
 | .mp _ => rfl
 | .yl _ => rfl
 | .held x => Yro x
 | .junk => rfl
 | .si _ _ => rfl
 | .sb _ => rfl
 | .ss _ => rfl
 | .rs _ _ => rfl
 | .rp _ _ _ _ => rfl
 | .rw _ => rfl
 | .ep _ _ _ _ => rfl
 | .rwp _ _ _ _ => rfl
 | .opq _ => rfl
 | .fp _ _ _ _ => rfl
theorem Yej : ∀ xs : List AV, AV.idsL (fun _ => true) xs = true
 | [] => rfl
 | x :: xs => by unfold AV.idsL; rw [Yro x]; exact Yej xs
end
theorem Ynj (x : It) : x.ids (fun _ => true) = true := by cases x <;> first | rfl | exact Yej _
mutual
theorem Yw6 : ∀ x : AV, x.ren (fun i => i) = x
 | .v _ => rfl
 | .ptr _ _ => rfl
 | .sl _ _ _ _ => rfl
 | .slc _ _ _ _ => rfl
 | .emp _ => rfl
 | .agg cs => by simp only [AV.ren, Yka cs]
 | .tup cs => by simp only [AV.ren, Yka cs]
 | .fn _ a b => by simp only [AV.ren, Yka a, Yka b]
 | .ifc _ x => by simp only [AV.ren, Yw6 x]
 | .mp _ => rfl
 | .yl _ => rfl
 | .held x => by simp only [AV.ren, Yw6 x]
 | .junk => rfl
 | .si _ _ => rfl
 | .sb _ => rfl
 | .ss _ => rfl
 | .rs _ _ => rfl
 | .rp _ _ _ _ => rfl
 | .rw _ => rfl
 | .ep _ _ _ _ => rfl
 | .rwp _ _ _ _ => rfl
 | .opq _ => rfl
 | .fp _ _ _ _ => rfl
theorem Yka : ∀ xs : List AV, AV.renL (fun i => i) xs = xs
 | [] => rfl
 | x :: xs => by simp only [AV.renL, Yw6 x, Yka xs]
end
theorem Yjt {p : Nat -> Bool} {φ φ' : Phi} (h : ∀ i, p i = true -> φ' i = φ i) (x : AV) (hx : x.ids p = true) : x.conc φ' = x.conc φ := by
 have := Yhu (p := p) (ρ := fun i => i) (φ := φ) (φ' := φ') h x hx;rwa [Yw6] at this
theorem Ywc {p : Nat -> Bool} {φ φ' : Phi} (h : ∀ i, p i = true -> φ' i = φ i) {id : Nat} (hid : p id = true) (x : It) (hx : x.ids p = true) : x.conc φ' id = x.conc φ id := by
 have := Yp5 (p := p) (ρ := fun i => i) (φ := φ) (φ' := φ') h (id := id) (h id hid) x hx;have e : x.ren (fun i => i) = x := by cases x <;> simp only [It.ren, Yka]
 rwa [e] at this
def rIn (i : Nat) : Nat := 3 * i + 1
def rOut (d i : Nat) : Nat := match Nat.beq (i % 3) 1 with | true => i / 3 | false => 3 * (i * 1024 + d) + 2
mutual
def AV.lead : AV -> List Nat -> List Nat
 | .v _, acc => acc
 | .ptr id _, acc => id :: acc
 | .sl id _ _ _, acc => id :: acc
 | .slc id _ _ _, acc => id :: acc
 | .emp id, acc => id :: acc
 | .agg cs, acc => AV.leadL cs acc
 | .tup cs, acc => AV.leadL cs acc
 | .fn _ a b, acc => AV.leadL a (AV.leadL b acc)
 | .ifc _ x, acc => AV.lead x acc
 | .mp id, acc => id :: acc
 | .yl id, acc => id :: acc
 | .held x, acc => AV.lead x acc
 | .junk, acc => acc
 | .si _ _, acc => acc
 | .sb _, acc => acc
 | .ss _, acc => acc
 | .rs _ _, acc => acc
 | .rp _ _ _ _, acc => acc
 | .rw id, acc => id :: acc
 | .ep id _ _ _, acc => id :: acc
 | .rwp id _ _ _, acc => id :: acc
 | .opq id, acc => id :: acc
 | .fp id _ _ _, acc => id :: acc
def AV.leadL : List AV -> List Nat -> List Nat
 | [], acc => acc
 | x :: xs, acc => AV.lead x (AV.leadL xs acc)
end
def It.lead : It -> List Nat -> List Nat
 | .blk _ cs, acc => AV.leadL cs acc
 | .row _ _ _ cs, acc => AV.leadL cs acc
 | .lp _ cs, acc => AV.leadL cs acc
 | .bk _ _ _ j, acc => j :: acc
 | .bkv _ _ _ cs j, acc => j :: AV.leadL cs acc
 | _, acc => acc
def Ygn (p : Nat -> Bool) (hp : Heap) : Nat -> List Nat -> Heap -> (Heap -> Prop) -> Prop
 | 0, _, _, _ => Stuck 48
 | _ + 1, [], hs, K => K hs
 | n + 1, i :: is, hs, K => match p i with
  | false => Ygn p hp n is hs K
  | true => match look hs i with
   | some _ => Ygn p hp n is hs K
   | none => match look hp i with
    | none => Ygn p hp n is hs K
    | some it => Ygn p hp n (it.lead is) ((i, it) :: hs) K
theorem Yb2 {p : Nat -> Bool} {hp : Heap} : ∀ {n : Nat} {is : List Nat} {hs : Heap} {K : Heap -> Prop}, PartOf hs hp -> (∀ i ∈ keys hs, p i = true) -> Ygn p hp n is hs K -> ∃ hs', PartOf hs' hp /\ (∀ i ∈ keys hs', p i = true) /\ K hs'
 | 0, _, _, _, _, _, h => h.elim
 | _ + 1, [], hs, K, hpart, hall, h => ⟨hs, hpart, hall, h⟩
 | n + 1, i :: is, hs, K, hpart, hall, h => by
  unfold Ygn at h
  split at h
  ·exact Yb2 hpart hall h
  ·rename_i hpi
   split at h
   ·exact Yb2 hpart hall h
   ·rename_i hno
    split at h
    ·exact Yb2 hpart hall h
    ·rename_i it hit;refine Yb2 ⟨?_, ?_⟩ ?_ h
     ·simp only [keys, List.map_cons, List.nodup_cons];refine ⟨fun hm => ?_, hpart.nd⟩;obtain ⟨q, hq, e⟩ := List.mem_map.1 hm;have := Yb3 hpart.nd hq;rw [e, hno] at this;cases this
     ·intro q hq;rcases List.mem_cons.1 hq with rfl | hq
      ·exact hit
      ·exact hpart.all q hq
     ·intro k hk;simp only [keys, List.map_cons, List.mem_cons] at hk;rcases hk with rfl | hk
      ·exact hpi
      ·exact hall k hk
def nilA (a : Array Value) : Bool := match a with | ⟨[]⟩ => true | ⟨_ :: _⟩ => false
theorem Yjb {a : Array Value} (h : nilA a = true) : a = #[] := by
 obtain ⟨l⟩ := a;cases l with
 | nil => rfl
 | cons _ _ => cases h
def Yw3 (f g : Fn) : Bool := match f, g with | .func i, .func j => Nat.beq i j | _, _ => false
theorem Yvo {f g : Fn} (h : Yw3 f g = true) : f = g := by
 unfold Yw3 at h
 split at h
 ·rw [Ye.1 h]
 ·cases h
def Y6k : Value -> Value -> Bool
 | .int k n, .int k' n' => decide (k = k') && decide (n = n')
 | .string a, .string b => decide (a.data = b.data)
 | _, _ => false
def Yxk : List Value -> List Value -> Bool
 | [], [] => true
 | x :: xs, y :: ys => Y6k x y && Yxk xs ys
 | _, _ => false
theorem Yy9 {a b : Value} (h : Y6k a b = true) : a = b := by
 unfold Y6k at h
 split at h
 ·simp only [Bool.and_eq_true, decide_eq_true_eq] at h;rw [h.1, h.2]
 ·rename_i a b;simp only [decide_eq_true_eq] at h;obtain ⟨d⟩ := a;obtain ⟨d'⟩ := b;rw [show d = d' from h]
 ·cases h
theorem Yng : ∀ {a b : List Value}, Yxk a b = true -> a = b
 | [], [], _ => rfl
 | [], _ :: _, h => by cases h
 | _ :: _, [], h => by cases h
 | x :: xs, y :: ys, h => by
  simp only [Yxk, Bool.and_eq_true] at h;rw [Yy9 h.1, Yng h.2]
def Ycz : Value -> Value -> Bool
 | .int k n, .int k' n' => decide (k = k') && decide (n = n')
 | .bool a, .bool b => match a, b with | true, true => true | false, false => true | _, _ => false
 | .string a, .string b => decide (a.data = b.data)
 | .pointer none, .pointer none => true
 | .slice none n c, .slice none n' c' => Nat.beq n n' && Nat.beq c c'
 | .map none, .map none => true
 | .nilFunc, .nilFunc => true
 | .nilIface, .nilIface => true
 | .iface t v, .iface t' v' => Nat.beq t t' && Ycz v v'
 | .func f a c, .func f' a' c' => nilA a && nilA c && nilA a' && nilA c' && Yw3 f f'
 | .agg a, .agg b => Yxk a.toList b.toList
 | _, _ => false
theorem Yd4 : ∀ (a b : Value), Ycz a b = true -> a = b
 | .agg a, b, h => by
  cases b <;> simp only [Ycz, Bool.false_eq_true] at h;rename_i b;exact congrArg Value.agg (Array.ext' (Yng h))
 | .iface t v, b, h => by
  cases b <;> simp only [Ycz, Bool.and_eq_true, Bool.false_eq_true] at h;rw [Ye.1 h.1, Yd4 v _ h.2]
 | .int k n, b, h => by cases b <;> simp_all [Ycz]
 | .bool a, b, h => by
  cases b <;> simp only [Ycz, Bool.false_eq_true] at h;rename_i b;cases a <;> cases b <;> simp_all
 | .string a, b, h => by
  cases b <;> simp only [Ycz, decide_eq_true_eq, Bool.false_eq_true] at h;rename_i b;cases a; cases b
  simp_all
 | .pointer none, b, h => by
  cases b <;> try (simp [Ycz] at h; done)
  rename_i b;cases b <;> simp_all [Ycz]
 | .pointer (some _), b, h => by simp [Ycz] at h
 | .slice none n c, b, h => by
  cases b <;> try (simp [Ycz] at h; done)
  rename_i b n' c';cases b <;> simp only [Ycz, Bool.and_eq_true, Ye, Bool.false_eq_true] at h;rw [h.1, h.2]
 | .slice (some _) n c, b, h => by simp [Ycz] at h
 | .map none, b, h => by
  cases b <;> try (simp [Ycz] at h; done)
  rename_i b;cases b <;> simp_all [Ycz]
 | .map (some _), b, h => by simp [Ycz] at h
 | .nilFunc, b, h => by cases b <;> simp_all [Ycz]
 | .nilIface, b, h => by cases b <;> simp_all [Ycz]
 | .float _ _, b, h => by simp [Ycz] at h
 | .complex _ _ _, b, h => by simp [Ycz] at h
 | .chan _, b, h => by simp [Ycz] at h
 | .func f a c, b, h => by
  cases b <;> simp only [Ycz, Bool.and_eq_true, Bool.false_eq_true] at h;obtain ⟨⟨⟨⟨h1, h2⟩, h3⟩, h4⟩, h5⟩ := h;rw [Yjb h1, Yjb h2, Yjb h3, Yjb h4, Yvo h5]
 | .tuple _, b, h => by simp [Ycz] at h
mutual
def Ydy : AV -> AV -> Bool
 | .v a, .v b => Ycz a b
 | .ptr i k, .ptr i' k' => Nat.beq i i' && Nat.beq k k'
 | .sl i a b c, .sl i' a' b' c' => Nat.beq i i' && Nat.beq a a' && Nat.beq b b' && Nat.beq c c'
 | .mp i, .mp i' => Nat.beq i i'
 | .yl i, .yl i' => Nat.beq i i'
 | .rw i, .rw i' => Nat.beq i i'
 | .opq i, .opq i' => Nat.beq i i'
 | .ifc t x, .ifc t' x' => Nat.beq t t' && Ydy x x'
 | .agg a, .agg b => sameL a b
 | _, _ => false
def sameL : List AV -> List AV -> Bool
 | [], [] => true
 | x :: xs, y :: ys => match Ydy x y with | true => sameL xs ys | false => false
 | _, _ => false
end
mutual
theorem Ype : ∀ (a b : AV), Ydy a b = true -> a = b
 | .v a, b, h => by cases b <;> simp only [Ydy, Bool.false_eq_true] at h; rw [Yd4 _ _ h]
 | .ptr i k, b, h => by cases b <;> simp only [Ydy, Bool.and_eq_true, Ye, Bool.false_eq_true] at h; rw [h.1, h.2]
 | .sl i x y z, b, h => by cases b <;> simp only [Ydy, Bool.and_eq_true, Ye, Bool.false_eq_true] at h; rw [h.1.1.1, h.1.1.2, h.1.2, h.2]
 | .mp i, b, h => by cases b <;> simp only [Ydy, Ye, Bool.false_eq_true] at h; rw [h]
 | .yl i, b, h => by cases b <;> simp only [Ydy, Ye, Bool.false_eq_true] at h; rw [h]
 | .ifc t x, b, h => by cases b <;> simp only [Ydy, Bool.and_eq_true, Ye, Bool.false_eq_true] at h; rw [h.1, Ype x _ h.2]
 | .agg a, b, h => by cases b <;> simp only [Ydy, Bool.false_eq_true] at h; rw [Yhk a _ h]
 | .slc _ _ _ _, b, h => by simp [Ydy] at h
 | .emp _, b, h => by simp [Ydy] at h
 | .tup _, b, h => by simp [Ydy] at h
 | .fn _ _ _, b, h => by simp [Ydy] at h
 | .held _, b, h => by simp [Ydy] at h
 | .junk, b, h => by simp [Ydy] at h
 | .si _ _, b, h => by simp [Ydy] at h
 | .sb _, b, h => by simp [Ydy] at h
 | .ss _, b, h => by simp [Ydy] at h
 | .rs _ _, b, h => by simp [Ydy] at h
 | .rp _ _ _ _, b, h => by simp [Ydy] at h
 | .rw i, b, h => by cases b <;> simp only [Ydy, Ye, Bool.false_eq_true] at h; rw [h]
 | .ep _ _ _ _, b, h => by simp [Ydy] at h
 | .rwp _ _ _ _, b, h => by simp [Ydy] at h
 | .opq i, b, h => by cases b <;> simp only [Ydy, Ye, Bool.false_eq_true] at h; rw [h]
theorem Yhk : ∀ (a b : List AV), sameL a b = true -> a = b
 | [], b, h => by cases b <;> simp_all [sameL]
 | x :: xs, b, h => by
  cases b with
  | nil => simp [sameL] at h
  | cons y ys =>
   unfold sameL at h
   split at h
   ·rename_i h1;rw [Ype x y h1, Yhk xs ys h]
   ·cases h
end
def Yyf : List MapEntry -> List MapEntry -> Bool
 | [], [] => true
 | e :: es, f :: fs => Ycz e.key f.key && Ycz e.val f.val && Nat.beq e.born f.born && Yyf es fs
 | _, _ => false
theorem Ypd : ∀ {a b : List MapEntry}, Yyf a b = true -> a = b
 | [], b, h => by cases b <;> simp_all [Yyf]
 | e :: es, b, h => by
  cases b with
  | nil => simp [Yyf] at h
  | cons f fs =>
   simp only [Yyf, Bool.and_eq_true, Ye] at h;obtain ⟨k, v, n⟩ := e;obtain ⟨k', v', n'⟩ := f;obtain ⟨⟨⟨h1, h2⟩, h3⟩, h4⟩ := h;have e1 : k = k' := Yd4 _ _ h1;have e2 : v = v' := Yd4 _ _ h2;have e3 : n = n' := h3;rw [e1, e2, e3, Ypd h4]
def Y0g : It -> It -> Bool
 | .blk T a, .blk T' b => Nat.beq T T' && sameL a b
 | .row T s n a, .row T' s' n' b => Nat.beq T T' && Nat.beq s s' && Nat.beq n n' && sameL a b
 | .obj (.sit s p), .obj (.sit s' p') => Nat.beq p p' && decide (s.data = s'.data)
 | .obj (.mpV es k), .obj (.mpV es' k') => Nat.beq k k' && Yyf es es'
 | .dead, .dead => true
 | _, _ => false
theorem Ypc {a b : It} (h : Y0g a b = true) : a = b := by
 unfold Y0g at h
 split at h
 ·simp only [Bool.and_eq_true, Ye] at h;rw [h.1, Yhk _ _ h.2]
 ·simp only [Bool.and_eq_true, Ye] at h;rw [h.1.1.1, h.1.1.2, h.1.2, Yhk _ _ h.2]
 ·rename_i s p s' p';simp only [Bool.and_eq_true, Ye, decide_eq_true_eq] at h;obtain ⟨d⟩ := s;obtain ⟨d'⟩ := s';rw [h.1, show d = d' from h.2]
 ·simp only [Bool.and_eq_true, Ye] at h;rw [h.1, Ypd h.2]
 ·rfl
 ·cases h
end Go.Proofs.YtladoaeefkpdiaaGreatDoor
namespace Go.Proofs.YtladoaeefkpdiaaGreatDoor
open Go.RowKit
variable [InW]
def Y5w (o : Oper) : Bool :=
 match o.op with
 | .alloc _ => true
 | .box _ _ => true
 | .buildSlice _ _ _ => true
 | .makeSlice _ _ _ => true
 | .slice _ _ _ _ _ => true
 | .range _ _ => true
 | .makeMap _ _ => true
 | .call _ => true
 | _ => false
def Y8d (d k : Nat) : Bool := match Nat.beq k (3 * d) with | true => true | false => (match Nat.beq (k % 3) 2 with | true => Nat.beq ((k / 3) % 1024) d | false => false)
def Y20 : List Oper -> Nat -> Bool
 | [], _ => false
 | o :: os, k => match Y5w o with | true => (match Y8d (o.dst.getD 0) k with | true => true | false => Y20 os k) | false => Y20 os k
def hitB (d d3 : Nat) : Heap -> Bool
 | [] => false
 | p :: h => match Nat.beq p.1 d3 with
  | true => true
  | false => match Nat.beq (p.1 % 3) 2 with
   | true => (match Nat.beq ((p.1 / 3) % 1024) d with | true => true | false => hitB d d3 h)
   | false => hitB d d3 h
def Y2z : List Oper -> Heap -> Bool
 | [], _ => false
 | o :: os, hp => match Y5w o with
  | true => (match hitB (o.dst.getD 0) (3 * o.dst.getD 0) hp with | true => true | false => Y2z os hp)
  | false => Y2z os hp
def tabK (ops : List Oper) : Heap -> Nat -> (List (Nat × Nat) -> Prop) -> Prop
 | [], _, K => K []
 | p :: h, m, K => match Y20 ops p.1 with
  | true => Y3 (m + 1) fun m' => tabK ops h m' fun r => Y3 (3 * m') fun i => K ((p.1, i) :: r)
  | false => tabK ops h m K
def maxK : Heap -> Nat -> Nat
 | [], m => m
 | p :: h, m => match Nat.ble (3 * m) p.1 with | true => maxK h (p.1 / 3 + 1) | false => maxK h m
def rho2 : List (Nat × Nat) -> Nat -> Nat
 | [], i => i
 | q :: t, i => match Nat.beq q.1 i with | true => q.2 | false => rho2 t i
def Yio : List (Nat × Nat) -> Nat -> Option Nat
 | [], _ => none
 | q :: t, y => match Nat.beq q.2 y with | true => some q.1 | false => Yio t y
def Yfc : List Nat -> Bool
 | [] => true
 | x :: xs => match xs.contains x with | true => false | false => Yfc xs
def oldB (t : List (Nat × Nat)) (i : Nat) : Bool := match Yio t i with | some _ => false | none => true
def tabB (t : List (Nat × Nat)) : Bool := match t with
 | [] => true
 | q :: t => match Yio t q.2 with
  | some _ => false
  | none => match Nat.beq (q.2 % 3) 1 with | true => false | false => tabB t
def Y7p (t : List (Nat × Nat)) (tm : List AV) (hp : Heap) : Bool := tabB t && AV.idsL (oldB t) tm && (hp.all fun p => oldB t p.1 && p.2.ids (oldB t)) && Yfc (hp.map fun p => rho2 t p.1)
def Yw8 (t : List (Nat × Nat)) : Heap -> (Heap -> Prop) -> Prop
 | [], K => K []
 | p :: h, K => Y3 (rho2 t p.1) fun i => Yyr (rho2 t) p.2 fun x => Yw8 t h fun r => K ((i, x) :: r)
def Y0q (t : List (Nat × Nat)) (h : Heap) : Heap := h.map fun p => (rho2 t p.1, p.2.ren (rho2 t))
theorem Ypl {t : List (Nat × Nat)} : ∀ {h : Heap} {K : Heap -> Prop}, Yw8 t h K ↔ K (Y0q t h)
 | [], K => Iff.rfl
 | p :: h, K => by simp only [Yw8, Yk, Yi0, Ypl (h := h), Y0q, List.map_cons]
def Y6p : Heap -> List Nat
 | [] => []
 | p :: h => match Nat.beq (p.1 % 3) 1 with | true => p.1 :: Y6p h | false => Y6p h
def Yyw (n : Nat) (ops : List Oper) (tm : List AV) (hp : Heap) (K : List AV -> Heap -> Prop) : Prop :=
 match Y2z ops hp with
 | false => K tm hp
 | true => Ygn (fun _ => true) hp n (AV.leadL tm (Y6p hp)) [] fun hs => tabK ops hs (maxK hs 1024) fun t => match t with
  | [] => K tm hs
  | q :: t => Yc (Y7p (q :: t) tm hs) (Yib (rho2 (q :: t)) tm fun tm' => Yw8 (q :: t) hs fun hp' => K tm' hp')
theorem Y46 {t : List (Nat × Nat)} (ht : tabB t = true) {φ : Phi} {i : Nat} (hi : oldB t i = true) : (match Yio t (rho2 t i) with | some o => φ o | none => φ (rho2 t i)) = φ i := by
 induction t with
 | nil => rfl
 | cons q t ih =>
  unfold tabB at ht
  split at ht
  ·cases ht
  ·rename_i h1
   split at ht
   ·cases ht
   ·have hi2 : oldB t i = true /\ ¬ q.2 = i := by
     unfold oldB Yio at hi
     split at hi
     ·cases hi
     ·rename_i hb
      split at hb
      ·cases hb
      ·rename_i hne;exact ⟨by unfold oldB; rw [hb], Y4.1 hne⟩
    unfold rho2;cases hb : Nat.beq q.1 i with
    | true =>
     simp only [Yio, Nat.beq_refl];rw [Ye.1 hb]
    | false =>
     have := ih ht hi2.1;simp only;unfold Yio;cases hb2 : Nat.beq q.2 (rho2 t i) with
     | false => exact this
     | true =>
      exfalso;have e := Ye.1 hb2;have key : ∀ (t : List (Nat × Nat)) (j : Nat), rho2 t j = j \/ Yio t (rho2 t j) ≠ none := by
       intro t
       induction t with
       | nil => intro j; exact .inl rfl
       | cons r t ih2 =>
        intro j;unfold rho2;cases hr : Nat.beq r.1 j with
        | true => right; simp [Yio, Nat.beq_refl]
        | false =>
         simp only;rcases ih2 j with h | h
         ·exact .inl h
         ·right;unfold Yio
          split
          ·simp
          ·exact h
      rcases key t i with h | h
      ·exact hi2.2 (by rw [e, h])
      ·rw [<- e] at h;exact h h1
theorem Ybk : ∀ {l : List Nat}, Yfc l = true -> l.Nodup
 | [], _ => List.nodup_nil
 | x :: xs, h => by
  unfold Yfc at h
  split at h
  ·cases h
  ·rename_i h1;refine List.nodup_cons.2 ⟨fun hm => ?_, Ybk h⟩;rw [List.contains_iff_mem.2 hm] at h1;cases h1
theorem Yw1 : ∀ {t : List (Nat × Nat)}, tabB t = true -> ∀ y, Yio t y ≠ none -> y % 3 ≠ 1
 | [], _, y, h => absurd rfl h
 | q :: t, ht, y, h => by
  unfold tabB at ht
  split at ht
  ·cases ht
  ·split at ht
   ·cases ht
   ·rename_i hm;unfold Yio at h
    split at h
    ·rename_i hb; rw [<- Ye.1 hb]; exact Y4.1 hm
    ·exact Yw1 ht y h
theorem RepS.sub {φ0 φ : Phi} {w0 : World} {M : List Nat} {R : RL} {tm : List AV} {hp hs : Heap} {a : Act} {w : World} (h : RepS φ0 φ w0 M R tm hp a w) (hp' : PartOf hs hp) : RepS φ0 φ w0 M R tm hs a w := by
 refine ⟨h.tmps, ?_, hp'.nd, h.base⟩;have := h.st.perm ((Yv (hp'.perm h.nd)).append (List.Perm.refl R));rw [Yn, List.append_assoc] at this;exact this.sub ((List.Sublist.refl _).append (List.sublist_append_right _ _))
theorem Yiz (ρ : Nat -> Nat) : ∀ (xs : List AV) (t : Nat), (AV.renL ρ xs)[t]? = (xs[t]?).map (AV.ren ρ)
 | [], t => by simp [AV.renL]
 | x :: xs, 0 => by simp [AV.renL]
 | x :: xs, t + 1 => by simpa [AV.renL] using Yiz ρ xs t
theorem Y3u {ρ : Nat -> Nat} {x : AV} (h : (x.ren ρ).rd = true) : x.rd = true := by cases x <;> first | rfl | exact h
theorem Yra (ρ : Nat -> Nat) (x : AV) : (x.ren ρ).isHeld = x.isHeld := by cases x <;> rfl
theorem Yki (ρ : Nat -> Nat) : ∀ tm : List AV, Ybf (AV.renL ρ tm) = (Ybf tm).map (AV.ren ρ)
 | [] => rfl
 | x :: xs => by rw [AV.renL, Y5, Y5, Yki ρ xs]; cases x <;> rfl
theorem Yrp {p : Nat -> Bool} : ∀ {xs : List AV}, AV.idsL p xs = true -> ∀ x ∈ xs, x.ids p = true
 | [], _, x, hx => by cases hx
 | y :: ys, h, x, hx => by
  unfold AV.idsL at h
  split at h
  ·rename_i h1;rcases List.mem_cons.1 hx with rfl | hx
   ·exact h1
   ·exact Yrp h x hx
  ·cases h
theorem Yi4 {n : Nat} {ops : List Oper} {tm : List AV} {hp : Heap} {K : List AV -> Heap -> Prop} (h : Yyw n ops tm hp K) : ∃ tm' hp', K tm' hp' /\
  ∀ (φ0 φ : Phi) (w0 : World) (M : List Nat) (R : RL) (a : Act) (w : World), RepS φ0 φ w0 M R tm hp a w -> ∃ φ', RepS φ0 φ' w0 M R tm' hp' a w := by
 unfold Yyw at h
 split at h
 ·exact ⟨tm, hp, h, fun φ0 φ w0 M R a w hr => ⟨φ, hr⟩⟩
 ·obtain ⟨hs, hpart, _, h1⟩ := Yb2 (PartOf.nil hp) (by simp [keys]) h;have htab : ∀ {h : Heap} {m : Nat} {K : List (Nat × Nat) -> Prop}, tabK ops h m K -> ∃ t, K t := by
   intro h
   induction h with
   | nil => intro m K hk; exact ⟨[], hk⟩
   | cons p h ih =>
    intro m K hk;unfold tabK at hk
    split at hk
    ·obtain ⟨r, hr⟩ := ih (Yk.1 hk);exact ⟨_, Yk.1 hr⟩
    ·exact ih hk
  obtain ⟨t, h2⟩ := htab h1
  split at h2
  ·exact ⟨tm, hs, h2, fun φ0 φ w0 M R a w hr => ⟨φ, hr.sub hpart⟩⟩
  ·rename_i q t;generalize q :: t = t at h2;obtain ⟨hB, h3⟩ := Ya h2;simp only [Y7p, Bool.and_eq_true] at hB;obtain ⟨⟨⟨b1, b2⟩, b3⟩, b4⟩ := hB;have h4 := Ypl.1 ((Ycp _ _ _).1 h3);refine ⟨_, _, h4, fun φ0 φ w0 M R a w hr0 => ?_⟩;have hr := hr0.sub hpart;obtain ⟨φ', hdef⟩ : ∃ φ' : Phi, φ' = fun y => match Yio t y with | some o => φ o | none => φ y := ⟨_, rfl⟩
   have hφ : ∀ i, oldB t i = true -> φ' (rho2 t i) = φ i := fun i hi => by rw [hdef]; exact Y46 b1 hi
   refine ⟨φ', ⟨⟨fun s v hv hh => ?_, fun s v hv hh => ?_, fun s v hv hj => ?_, ?_, ?_⟩, ?_, ?_, fun x => ?_⟩⟩
   ·rw [Yiz, Option.map_eq_some_iff] at hv;obtain ⟨u, hu, rfl⟩ := hv;exact hr.tmps.size s u hu (by rw [<- Yra (rho2 t), hh])
   ·rw [Yiz, Option.map_eq_some_iff] at hv;obtain ⟨u, hu, rfl⟩ := hv;exact hr.tmps.held s u hu (by rw [<- Yra (rho2 t), hh])
   ·rw [Yiz, Option.map_eq_some_iff] at hv;obtain ⟨u, hu, rfl⟩ := hv;rw [hr.tmps.slot s u hu (Y3u hj), Yhu hφ u (Yrp b2 u (List.mem_of_getElem? hu))]
   ·rw [Yki, List.map_map];rw [hr.tmps.df]
    congr 1
    refine List.map_congr_left fun x hx => ?_;have := Yrp b2 _ (Yfh hx);unfold Ye4;simp only [Function.comp, Ye4, Yhu hφ x this]
   ·have : (AV.renL (rho2 t) tm).length = tm.length := by
     have := congrArg List.length (Ycj hφ tm b2);simpa [Yg] using this
    rw [this]; exact hr.tmps.len
   ·have e : Yb φ' (Y0q t hs) = Yb φ hs := by
     unfold Yb Y0q;rw [List.map_map];refine List.map_congr_left fun p hp' => ?_;have := List.all_eq_true.1 b3 p hp';rw [Bool.and_eq_true] at this;exact Yp5 hφ (hφ p.1 this.1) p.2 this.2
    rw [e];exact hr.st
   ·have := Ybk b4;simpa [keys, Y0q, Function.comp_def] using this
   ·have hno : Yio t (3 * x + 1) = none := by
     cases hb : Yio t (3 * x + 1) with
     | none => rfl
     | some o => exact absurd (by omega) (Yw1 b1 (3 * x + 1) (by rw [hb]; simp))
    rw [hdef];simp only [hno];exact hr.base x
end Go.Proofs.YtladoaeefkpdiaaGreatDoor
namespace Go.Proofs.YtladoaeefkpdiaaGreatDoor
open Go.RowKit
variable [InW]
attribute [local irreducible] Go.Oper.wp
def Y1q (e : Ev) (i : Nat) : Bool := !(e.val.has i) && !(hasH i e.us) && !(hasH i e.nw)
def Yfo (e : Ev) : Heap -> Bool
 | [] => true
 | p :: h => match Y1q e p.1 with | true => Yfo e h | false => false
def disjB : Heap -> Heap -> Bool
 | [], _ => true
 | p :: a, b => match look b p.1 with | none => disjB a b | some _ => false
def indB (ol : List Oper) (e f : Ev) : Bool := e.o.apart ol.toArray f.o && disjB e.us f.hs && disjB f.us e.hs && disjB e.nw f.hs && Yfo f e.nw
def Y58 (ol : List Oper) (ms : List Nat) (p q : Nat × Ev) : Bool :=
 match Yfo p.2 q.2.nw with
 | false => false
 | true => match (nthN ms q.1).testBit p.1 with | true => true | false => indB ol p.2 q.2
def Ytb (ol : List Oper) (ms : List Nat) : Todo -> Bool
 | [] => true
 | p :: r => match r.all (Y58 ol ms p) with | true => Ytb ol ms r | false => false
def Yg8 (tm : List AV) (hp : Heap) : Todo -> Bool
 | [] => true
 | p :: r => match Yri p.2.nw tm hp with | true => Yg8 tm hp r | false => false
def Y74 (ol : List Oper) (tm : List AV) (hp : Heap) (r : Todo) : Bool := Yuv ol 0 && Yg8 tm hp r && Ytb ol (Ycg ol []) r
abbrev KD := Todo -> Nat -> Ev -> List AV -> Heap -> Prop
def Yr9 (c : Cx) (ol : List Oper) (KP : KD) : List Oper -> Nat -> Todo -> List AV -> Heap -> (Todo -> List AV -> Heap -> Prop) -> Prop
 | [], _, acc, tm, hp, K => K acc tm hp
 | o :: rest, i, acc, tm, hp, K => Yp9 ol o tm
   (Y3e c o tm hp (fun val hs us nw => Yo6 ol o val fun val => Yge hp us fun hp' => Yf3 hp' nw fun hp' => putK tm o.dst val fun tm' => Yr9 c ol KP rest (i + 1) ((i, ⟨o, false, val, hs, us, nw⟩) :: acc) tm' hp' K) (fun val hs us nw => KP acc i ⟨o, false, val, hs, us, nw⟩ tm hp))
   (putK tm o.dst (.v undef) fun tm' => Yr9 c ol KP rest (i + 1) ((i, ⟨o, true, .v undef, [], [], []⟩) :: acc) tm' hp K)
def Y0t (e : Ev) : Bool := match e.us, e.nw with | [], [] => true | _, _ => false
def Yr4 (ms : List Nat) (j : Nat) : Nat -> Nat -> Bool
 | 0, _ => true
 | n + 1, k => match (nthN ms k).testBit j with | true => Yr4 ms j n (k + 1) | false => false
def Y5p (ol : List Oper) (tm : List AV) (hp : Heap) (r : Todo) (j : Nat) (f : Ev) : Bool :=
 Yuv ol 0 && Yg8 tm hp r && Yri f.nw tm hp && Ytb ol (Ycg ol []) r &&
 (r.all fun p => Yfo p.2 f.nw && (match (nthN (Ycg ol []) j).testBit p.1 with | true => true | false => indB ol p.2 f && Y0t p.2)) &&
 Yr4 (Ycg ol []) j (ol.length - (j + 1)) (j + 1)
def Yzb (ds : List (Option Tmp)) : List AV -> Nat -> (List AV -> Prop) -> Prop
 | [], _, K => K []
 | x :: xs, t, K => match ds.contains (some t) with
  | true => (match x with
   | .held y => Yzb ds xs (t + 1) fun r => K (.held y :: r)
   | _ => Yzb ds xs (t + 1) fun r => K (.junk :: r))
  | false => Yzb ds xs (t + 1) fun r => K (x :: r)
theorem Yt3 {ds : List (Option Tmp)} : ∀ {xs : List AV} {t : Nat} {K : List AV -> Prop}, Yzb ds xs t K ↔ K (Yfg ds xs t)
 | [], t, K => Iff.rfl
 | x :: xs, t, K => by
  unfold Yzb Yfg;cases hb : ds.contains (some t) <;> cases x <;> simp [Yt3 (xs := xs), AV.isHeld]
def Y5g (c : Cx) (ol : List Oper) (tm : List AV) (hp : Heap) (K : KX) : Prop :=
 Yr9 c ol (fun acc j f tm' hp' => Yc (Y5p ol tm hp acc.reverse j f) (Yge hp' f.us fun hp' => Yf3 hp' f.nw fun hp' => Yzb (ol.map (·.dst)) tm 0 fun tmj => K (.pan f.val) tmj hp')) ol 0 [] tm hp
  fun acc tm' hp' => Yc (Y74 ol tm hp acc.reverse) (K .norm tm' hp')
theorem Yv8 {e : Ev} {i : Nat} (h : Y1q e i = true) : e.lacks i := by
 simp only [Y1q, Bool.and_eq_true, Bool.not_eq_true'] at h;exact ⟨h.1.1, h.1.2, h.2⟩
theorem Ydr {e : Ev} : ∀ {h : Heap}, Yfo e h = true -> ∀ i ∈ keys h, e.lacks i
 | [], _, i, hi => by simp [keys] at hi
 | p :: h, hb, i, hi => by
  unfold Yfo at hb
  split at hb
  ·rename_i h1;simp only [keys, List.map_cons, List.mem_cons] at hi;rcases hi with rfl | hi
   ·exact Yv8 h1
   ·exact Ydr hb i hi
  ·cases hb
theorem Yht : ∀ {a b : Heap}, disjB a b = true -> disj (keys a) (keys b)
 | [], b, _, i, hi => by simp [keys] at hi
 | p :: a, b, h, i, hi => by
  unfold disjB at h
  split at h
  ·rename_i h1;simp only [keys, List.map_cons, List.mem_cons] at hi;rcases hi with rfl | hi
   ·intro hm;obtain ⟨q, hq, e⟩ := List.mem_map.1 hm;have : look b p.1 ≠ none := by
     intro h2;have hx : ∀ {h : Heap} {i : Nat}, look h i = none -> i ∉ keys h := by
      intro h
      induction h with
      | nil => intro i _ hm; simp [keys] at hm
      | cons r h ih =>
       intro i hl hm;rw [Yt] at hl
       split at hl
       ·cases hl
       ·rename_i hne;simp only [keys, List.map_cons, List.mem_cons] at hm;rcases hm with e | hm
        ·exact hne e.symm
        ·exact ih hl hm
     exact hx h2 hm
    exact this h1
   ·exact Yht h i hi
  ·cases h
theorem Yt4 {ol : List Oper} {e f : Ev} (h : indB ol e f = true) : Ind ol e f := by
 simp only [indB, Bool.and_eq_true] at h;exact ⟨h.1.1.1.1, Yht h.1.1.1.2, Yht h.1.1.2, Yht h.1.2, Ydr h.2⟩
theorem Yyx {ol : List Oper} {p q : Nat × Ev} (h : Y58 ol (Ycg ol []) p q = true) : PairOk ol p q := by
 unfold Y58 at h
 split at h
 ·cases h
 ·rename_i h1;refine ⟨Ydr h1, ?_⟩
  split at h
  ·rename_i h2; exact .inl (Yfq h2)
  ·exact .inr (Yt4 h)
theorem Yid {ol : List Oper} : ∀ {r : Todo}, Ytb ol (Ycg ol []) r = true -> r.Pairwise (PairOk ol)
 | [], _ => List.Pairwise.nil
 | p :: r, h => by
  unfold Ytb at h
  split at h
  ·rename_i h1;exact List.Pairwise.cons (fun q hq => Yyx (List.all_eq_true.1 h1 q hq)) (Yid h)
  ·cases h
theorem Ye2 {tm : List AV} {hp : Heap} : ∀ {r : Todo}, Yg8 tm hp r = true -> ∀ p ∈ r, NewFor (keys p.2.nw) tm hp /\ (keys p.2.nw).Nodup /\ ∀ i ∈ keys p.2.nw, i % 3 ≠ 1
 | [], _, p, hp => by cases hp
 | q :: r, h, p, hp => by
  unfold Yg8 at h
  split at h
  ·rename_i h1;rcases List.mem_cons.1 hp with rfl | hp
   ·exact Ydg h1
   ·exact Ye2 h p hp
  ·cases h
structure StepW (P : Program) (ol : List Oper) (e : Ev) (tm : List AV) (hp : Heap) : Prop where
 part : PartOf e.hs hp
 sub : ∀ i ∈ keys e.us, i ∈ keys e.hs
 run : (e.skip = true /\ WantA ol e.o tm false /\ e.val = .v undef /\ e.us = [] /\ e.nw = []) \/ (e.skip = false /\ WantA ol e.o tm true /\ DoesW P e.o tm e.hs e.val e.us e.nw)
def ChainW (P : Program) (ol : List Oper) : Todo -> List AV -> Heap -> List AV -> Heap -> Prop
 | [], tm, hp, tm', hp' => tm = tm' /\ hp = hp'
 | p :: r, tm, hp, tm', hp' => StepW P ol p.2 tm hp /\ ChainW P ol r (p.2.tm tm) (p.2.hp hp) tm' hp'
theorem ChainW.chain {P : Program} {ol : List Oper} {tm' : List AV} {hp' : Heap} : ∀ {r : Todo} {tm : List AV} {hp : Heap}, ChainW P ol r tm hp tm' hp' -> (∀ p ∈ r, (keys p.2.nw).Nodup /\ ∀ i ∈ keys p.2.nw, i % 3 ≠ 1) -> Ywx P ol r tm hp tm' hp'
 | [], _, _, h, _ => h
 | p :: r, tm, hp, h, hn => ⟨⟨h.1.part, h.1.sub, (hn p List.mem_cons_self).1, (hn p List.mem_cons_self).2, h.1.run⟩, h.2.chain fun q hq => hn q (List.mem_cons_of_mem _ hq)⟩
structure StepWP (P : Program) (ol : List Oper) (f : Ev) (tm : List AV) (hp : Heap) : Prop where
 part : PartOf f.hs hp
 sub : ∀ i ∈ keys f.us, i ∈ keys f.hs
 want : WantA ol f.o tm true
 does : DoesPW P f.o tm f.hs f.val f.us f.nw
theorem Ylz {c : Cx} {ol : List Oper} {KP : KD} (hc : HandOkR c) : ∀ (l : List Oper) (i : Nat) (acc : Todo) (tm : List AV) (hp : Heap) (K : Todo -> List AV -> Heap -> Prop), Yr9 c ol KP l i acc tm hp K ->
  (∃ (r : Todo) (tm' : List AV) (hp' : Heap), K (r.reverse ++ acc) tm' hp' /\ ChainW c.P ol r tm hp tm' hp' /\ r.map (·.1) = List.range' i l.length /\ r.map (·.2.o) = l) \/
  (∃ (r : Todo) (f : Ev) (tm' : List AV) (hp' : Heap), KP (r.reverse ++ acc) (i + r.length) f tm' hp' /\ ChainW c.P ol r tm hp tm' hp' /\ r.map (·.1) = List.range' i r.length /\ (∃ rest, r.map (·.2.o) ++ f.o :: rest = l) /\ StepWP c.P ol f tm' hp')
 | [], i, acc, tm, hp, K, h => .inl ⟨[], tm, hp, h, ⟨rfl, rfl⟩, rfl, rfl⟩
 | o :: rest, i, acc, tm, hp, K, h => by
  have fin : ∀ (e : Ev), e.o = o -> StepW c.P ol e tm hp -> Yr9 c ol KP rest (i + 1) ((i, e) :: acc) (e.tm tm) (e.hp hp) K ->
    (∃ (r : Todo) (tm' : List AV) (hp' : Heap), K (r.reverse ++ acc) tm' hp' /\ ChainW c.P ol r tm hp tm' hp' /\ r.map (·.1) = List.range' i (o :: rest).length /\ r.map (·.2.o) = o :: rest) \/
    (∃ (r : Todo) (f : Ev) (tm' : List AV) (hp' : Heap), KP (r.reverse ++ acc) (i + r.length) f tm' hp' /\ ChainW c.P ol r tm hp tm' hp' /\ r.map (·.1) = List.range' i r.length /\ (∃ rest', r.map (·.2.o) ++ f.o :: rest' = o :: rest) /\ StepWP c.P ol f tm' hp') := by
   intro e he hs h1;rcases Ylz hc rest (i + 1) _ _ _ K h1 with ⟨r, tm', hp', h2, h3, h4, h5⟩ | ⟨r, f, tm', hp', h2, h3, h4, ⟨rest', h5⟩, h6⟩
   ·exact .inl ⟨(i, e) :: r, tm', hp', by simpa using h2, ⟨hs, h3⟩, by simp [h4, List.range'_succ], by simp [h5, he]⟩
   ·refine .inr ⟨(i, e) :: r, f, tm', hp', ?_, ⟨hs, h3⟩, by simp [h4, List.range'_succ], ⟨rest', by simp [h5, he]⟩, h6⟩;have e1 : i + ((i, e) :: r).length = i + 1 + r.length := by simp only [List.length_cons]; omega
    rw [e1];simpa using h2
  rcases Yf5 h with ⟨hw, h1⟩ | ⟨hw, h1⟩
  ·rcases Yl0 hc h1 with ⟨val, hs, us, nw, h2, hpart, hu, hd⟩ | ⟨val, hs, us, nw, h2, hpart, hu, hd⟩
   ·obtain ⟨val, h2, he⟩ := Yfu h2
    replace hd := hd.same he
    have h3 := Yec (Ycw.1 (Yda.1 h2));exact fin ⟨o, false, val, hs, us, nw⟩ rfl ⟨hpart, hu, .inr ⟨rfl, hw, hd⟩⟩ h3
   ·exact .inr ⟨[], ⟨o, false, val, hs, us, nw⟩, tm, hp, h2, ⟨rfl, rfl⟩, rfl, ⟨rest, rfl⟩, ⟨hpart, hu, hw, hd⟩⟩
  ·have h3 := Yec h1;exact fin ⟨o, true, .v undef, [], [], []⟩ rfl ⟨.nil _, Yfv, .inl ⟨rfl, hw, rfl, rfl, rfl⟩⟩ h3
theorem Yvw {e : Ev} (h : Y0t e = true) : e.quiet := by
 unfold Y0t at h
 split at h
 ·rename_i h1 h2; exact ⟨h1, h2⟩
 ·cases h
theorem Yk9 {ms : List Nat} {j : Nat} : ∀ {n k : Nat}, Yr4 ms j n k = true -> ∀ i, k <= i -> i < k + n -> (nthN ms i).testBit j = true
 | 0, k, _, i, h1, h2 => by omega
 | n + 1, k, h, i, h1, h2 => by
  unfold Yr4 at h
  split at h
  ·rename_i hb;rcases Nat.eq_or_lt_of_le h1 with e | h3
   ·subst e; exact hb
   ·exact Yk9 h i (by omega) (by omega)
  ·cases h
abbrev BigC (P : Program) (cd : Code) := Big (fun Q a w => ∀ r, cd.wpIn (wF r) 0 P Q a w)
theorem Y7e {r : Option Nat} (f : FuncId) : (wF r).fn f := trivial
theorem RepS.drew {φ0 φ : Phi} {w0 : World} {M : List Nat} {R : RL} {tm : List AV} {hp : Heap} {a : Act} {w : World} (h : RepS φ0 φ w0 M R tm hp a w) : RepS φ0 φ w0 M R tm hp a { w with drawn := w.drawn + 1 } := ⟨h.tmps, h.st.drew, h.nd, h.base⟩
theorem Ysi {c : Cx} {ol : List Oper} (hc : HandOkR c) (hm : c.P.follows .mixedOrders = true) {id : Nat} {tm : List AV} {hp : Heap} {K : KX} (h : Y5g c ol tm hp K) : ∃ x tm' hp', K x tm' hp' /\ BigC c.P (.region id ol.toArray true) tm hp x tm' hp' := by
 rcases Ylz hc ol 0 [] tm hp _ h with ⟨r, tm', hp', h1, h2, h3, h4⟩ | ⟨r, f, tm', hp', h1, h2, h3, ⟨rest, h4⟩, h6⟩
 ·rw [List.append_nil, List.reverse_reverse] at h1;obtain ⟨hB, h5⟩ := Ya h1;simp only [Y74, Bool.and_eq_true] at hB;have hfr := Ye2 hB.1.2;have hch := h2.chain fun p hp => (hfr p hp).2;have hlen : r.length = ol.length := by rw [<- List.length_map (f := (·.1)), h3]; simp
  refine ⟨.norm, tm', hp', h5, fun φ0 φ w0 M R a w hr Q kk rr => wpIn_region_any hm ?_⟩;refine Yrw hB.1.1 (fun φ' a' w' hr' hD => kk φ' .normal a' w' rfl hr' hD) _ r _ tm hp φ a _ (by simp [hlen]) ⟨fun k hk => ?_, fun p hp => ?_, ?_, by simp⟩ (LClosed.start _ _) hch (Yid hB.2) (fun p hp => (hfr p hp).1) hr.drew rfl
  ·rw [h3];simp [hk]
  ·obtain ⟨n, hn, rfl⟩ := List.getElem_of_mem hp;have e1 : r[n].1 = n := by
    have := congrArg (·[n]?) h3;simpa [hn, hlen ▸ hn] using this
   have e2 : ol[n]? = some r[n].2.o := by
    have := congrArg (·[n]?) h4;simpa [hn] using this.symm
   rw [e1];exact ⟨by omega, e2⟩
  ·have : (r.map (·.1)).Pairwise (· < ·) := by rw [h3]; exact List.pairwise_lt_range'
   exact List.pairwise_map.1 this
 ·rw [List.append_nil, List.reverse_reverse, Nat.zero_add] at h1;obtain ⟨hB, h5⟩ := Ya h1;have h7 := Yt3.1 (Ycw.1 (Yda.1 h5));simp only [Y5p, Bool.and_eq_true] at hB;obtain ⟨⟨⟨⟨⟨c1, c2⟩, c3⟩, c4⟩, c5⟩, c6⟩ := hB;have hfr := Ye2 c2;have hfn := Ydg c3;have hch := h2.chain fun p hp => (hfr p hp).2;have hlen : r.length < ol.length := by
   have := congrArg List.length h4;simp only [List.length_append, List.length_map, List.length_cons] at this;omega
  have hol : ∀ n, n < r.length -> ol[n]? = (r.map (·.2.o))[n]? := fun n hn => by rw [<- h4, List.getElem?_append_left (by simpa using hn)]
  have hat : ol[r.length]? = some f.o := by rw [<- h4, List.getElem?_append_right (by simp)]; simp
  refine ⟨.pan f.val, _, _, h7, fun φ0 φ w0 M R a w hr Q kk rr => wpIn_region_any hm ?_⟩;refine Yrv c1 (fun o ho => List.mem_map_of_mem ho) (fun φ' a' w' hr' hD => kk φ' _ a' w' rfl hr' hD) ⟨h6.part, h6.sub, hfn.2.1, hfn.2.2, h6.want, h6.does⟩ _ r _ tm hp φ a _ (by simp; omega) ⟨fun k hk => ?_, fun p hp => ?_, hat, ?_, ?_, by simp, fun k hk1 hk2 => ?_⟩ (LClosed.start _ _) hch (Yid c4) (fun p hp => (hfr p hp).1) hfn.1 (fun p hp => ?_) (fun p hp => ?_) ⟨⟨rfl, rfl⟩, fun t _ => rfl, fun t x hx => ⟨x, hx, rfl⟩⟩ hr.drew rfl
  ·rw [h3];have : k < ol.length := by omega
   simp [this];omega
  ·obtain ⟨n, hn, rfl⟩ := List.getElem_of_mem hp;have e1 : r[n].1 = n := by
    have := congrArg (·[n]?) h3;simpa [hn] using this
   rw [e1];exact ⟨hn, by rw [hol n hn]; simp [hn]⟩
  ·simp [hlen]
  ·have : (r.map (·.1)).Pairwise (· < ·) := by rw [h3]; exact List.pairwise_lt_range'
   exact List.pairwise_map.1 this
  ·exact Yfq (Yk9 c6 k (by omega) (by omega))
  ·have := List.all_eq_true.1 c5 p hp;rw [Bool.and_eq_true] at this;exact Ydr this.1
  ·have := List.all_eq_true.1 c5 p hp;rw [Bool.and_eq_true] at this;have h8 := this.2
   split at h8
   ·rename_i hb; exact .inl (Yfq hb)
   ·rw [Bool.and_eq_true] at h8;exact .inr ⟨Yt4 h8.1, Yvw h8.2⟩
theorem Ydb {P : Program} {b : Frame} {a : Act} {k : List Item} {cs : List Frame} {w : World} {c : Code} : step P (lone (b.atR a (.code (.scope c) :: k)) cs w) = .next (lone (b.atR a (.code c :: .inScope c :: k)) cs w) := step_lone_go (by simp [stepG, stepG.exec, Frame.atR])
theorem Yq6 {P : Program} {b : Frame} {a : Act} {k : List Item} {cs : List Frame} {w : World} {c : Code} : step P (lone (b.atR a (.inScope c :: k)) cs w) = .next (lone (b.atR a k) cs w) := step_lone_go (by simp [stepG, stepG.exec, Frame.atR])
theorem Yh3 {F : Fence} {n : Nat} {P : Program} {Q : Exit -> Act -> World -> Prop} {a : Act} {w : World} {c : Code} (h : c.wpIn F n P (Exit.noGoto Q) a w) : (Code.scope c).wpIn F n P Q a w := by
 intro b k cs hro hb hr;obtain ⟨e, a₁, w₁, hq, harr⟩ := h b (.inScope c :: k) cs hro hb hr;have h0 : (lone (b.atR a (.code (.scope c) :: k)) cs w).fenced P F := fenced_calm hb hr rfl;cases e with
 | normal => exact ⟨.normal, a₁, w₁, hq, .head h0 Ydb (StepsIn.trans harr (.one (fenced_calm hb hr rfl) Yq6))⟩
 | exit id => exact ⟨.exit id, a₁, w₁, hq, fun k' hk => .head h0 Ydb (harr.1 k' (by simp [exitTo, hk])), fun hr' hk =>
   let ⟨k₁, h1, h2⟩ := harr.2 hr' (by simp [exitTo, hk]); ⟨k₁, h1, .head h0 Ydb h2⟩⟩
 | goto l => exact hq.elim
 | ret => exact ⟨_, a₁, w₁, hq, .of_steps (.one h0 Ydb) harr⟩
 | panic ch => exact ⟨_, a₁, w₁, hq, .of_steps (.one h0 Ydb) harr⟩
 | outgrown => exact ⟨_, a₁, w₁, hq, .of_steps (.one h0 Ydb) harr⟩
def Y1k (body : List AV -> Heap -> KX -> Prop) : Nat -> List AV -> Heap -> KX -> Prop
 | 0, _, _, _ => Stuck 45
 | n + 1, tm, hp, K => body tm hp fun x tm hp => match x with | .norm => Y1k body n tm hp K | x => K x tm hp
def Yc9 (c : Cx) (n : Nat) : Code -> List AV -> Heap -> KX -> Prop
 | .skip, tm, hp, K => K .norm tm hp
 | .label _, tm, hp, K => K .norm tm hp
 | .region _ ops draw, tm, hp, K => Yyw n ops.toList tm hp fun tm hp => match draw with | true => Y5g c ops.toList tm hp K | false => Y3d c ops.toList ops.toList tm hp K
 | .seq a b, tm, hp, K => Yc9 c n a tm hp fun x tm hp => match x with | .norm => Yc9 c n b tm hp K | x => K x tm hp
 | .cond x a b, tm, hp, K => evK tm x fun v => match v with | .v (.bool t) => vcIf t (Yc9 c n a tm hp K) (Yc9 c n b tm hp K) | .sb t => Vif t (Yc9 c n a tm hp K) (Yc9 c n b tm hp K) | _ => Stuck 46
 | .block id a, tm, hp, K => Yc9 c n a tm hp fun x tm hp => match x with | .exit i => (match Nat.beq i id with | true => K .norm tm hp | false => K (.exit i) tm hp) | x => K x tm hp
 | .loop a, tm, hp, K => Y1k (Yc9 c n a) n tm hp K
 | .scope a, tm, hp, K => Yc9 c n a tm hp K
 | .exit i, tm, hp, K => K (.exit i) tm hp
 | .ret, tm, hp, K => K .ret tm hp
 | _, _, _, _ => Stuck 47
theorem Big.mono {W W' : (Exit -> Act -> World -> Prop) -> Act -> World -> Prop} {tm tm' : List AV} {hp hp' : Heap} {x : AX} (h : Big W tm hp x tm' hp') (hw : ∀ Q a w, W Q a w -> W' Q a w) : Big W' tm hp x tm' hp' := fun φ0 φ w0 M R a w hr Q kk => hw _ _ _ (h φ0 φ w0 M R a w hr Q kk)
theorem Ypw {P : Program} {cd : Code} {body : List AV -> Heap -> KX -> Prop} (hb : ∀ tm hp K, body tm hp K -> ∃ x tm' hp', K x tm' hp' /\ BigC P cd tm hp x tm' hp') : ∀ (n : Nat) (tm : List AV) (hp : Heap) (K : KX), Y1k body n tm hp K ->
  ∃ x tm' hp', K x tm' hp' /\ Big (fun Q a w => ∀ r, Code.roundsIn (wF r) 0 P cd Q n a w) tm hp x tm' hp'
 | 0, tm, hp, K, h => h.elim
 | n + 1, tm, hp, K, h => by
  obtain ⟨x, tm1, hp1, h1, h2⟩ := hb _ _ _ h;have key : (∀ φ e, x.is φ e -> e ≠ .normal) -> K x tm1 hp1 -> ∃ x tm' hp', K x tm' hp' /\ Big (fun Q a w => ∀ r, Code.roundsIn (wF r) 0 P cd Q (n + 1) a w) tm hp x tm' hp' := fun hx hk => by
   refine ⟨x, tm1, hp1, hk, fun φ0 φ w0 M R a w hr Q kk => ?_⟩;intro r;rw [roundsIn_succ];refine h2 φ0 φ w0 M R a w hr _ (fun φ' e a' w' he hr' hd => ?_) r;have hne := hx φ' e he;cases e <;> first | exact absurd rfl hne | exact kk φ' _ a' w' he hr' hd
  cases x with
  | norm =>
   obtain ⟨x2, tm2, hp2, h3, h4⟩ := Ypw hb n _ _ K h1;refine ⟨x2, tm2, hp2, h3, fun φ0 φ w0 M R a w hr Q kk => ?_⟩;intro r;rw [roundsIn_succ];refine h2 φ0 φ w0 M R a w hr _ (fun φ' e a' w' he hr' hd => ?_) r;cases he;exact h4 φ0 φ' w0 M R a' w' hr' Q (fun φ2 e a2 w2 he2 hr2 hd2 => kk φ2 e a2 w2 he2 hr2 (hd2.trans hd)) r
  | exit i => exact key (fun φ e he => by cases he; simp) h1
  | ret => exact key (fun φ e he => by cases he; simp) h1
  | pan v => exact key (fun φ e he => by cases he; simp) h1
theorem Y7 {c : Cx} (hc : HandOkR c) (hm : c.P.follows .mixedOrders = true) (n : Nat) : ∀ (cd : Code) (tm : List AV) (hp : Heap) (K : KX), Yc9 c n cd tm hp K -> ∃ x tm' hp', K x tm' hp' /\ BigC c.P cd tm hp x tm' hp'
 | .skip, tm, hp, K, h => ⟨.norm, tm, hp, h, fun φ0 φ w0 M R a w hr Q kk r => wpIn_skip (kk φ _ a w rfl hr rfl)⟩
 | .label _, tm, hp, K, h => ⟨.norm, tm, hp, h, fun φ0 φ w0 M R a w hr Q kk r => wpIn_label (kk φ _ a w rfl hr rfl)⟩
 | .exit i, tm, hp, K, h => ⟨.exit i, tm, hp, h, fun φ0 φ w0 M R a w hr Q kk r => wpIn_exit (kk φ _ a w rfl hr rfl)⟩
 | .ret, tm, hp, K, h => ⟨.ret, tm, hp, h, fun φ0 φ w0 M R a w hr Q kk r => wpIn_ret (kk φ _ a w rfl hr rfl)⟩
 | .region id ops draw, tm, hp, K, h => by
  obtain ⟨l⟩ := ops;obtain ⟨tm1, hp1, h0, hpre⟩ := Yi4 h;have pre : ∀ {W : (Exit -> Act -> World -> Prop) -> Act -> World -> Prop} {x : AX} {tm' : List AV} {hp' : Heap}, Big W tm1 hp1 x tm' hp' -> Big W tm hp x tm' hp' := fun hb φ0 φ w0 M R a w hr Q kk => by
   obtain ⟨φ', hr'⟩ := hpre φ0 φ w0 M R a w hr;exact hb φ0 φ' w0 M R a w hr' Q kk
  cases draw with
  | true =>
   obtain ⟨x, tm', hp', h1, h2⟩ := Ysi hc hm h0;exact ⟨x, tm', hp', h1, pre h2⟩
  | false =>
   obtain ⟨x, tm', hp', h1, h2⟩ := Yh5 hc l tm1 hp1 K h0;exact ⟨x, tm', hp', h1, pre (h2.mono fun Q a w hw r => Ylx Y7e (hw r))⟩
 | .seq a b, tm, hp, K, h => by
  obtain ⟨x, tm1, hp1, h1, h2⟩ := Y7 hc hm n a tm hp _ h;have key : (∀ φ e, x.is φ e -> e ≠ .normal) -> K x tm1 hp1 -> ∃ x tm' hp', K x tm' hp' /\ BigC c.P (.seq a b) tm hp x tm' hp' := fun hx hk => by
   refine ⟨x, tm1, hp1, hk, fun φ0 φ w0 M R ac w hr Q kk r => wpIn_seq (h2 φ0 φ w0 M R ac w hr _ (fun φ' e a' w' he hr' hd => ?_) r)⟩;have hne := hx φ' e he;cases e <;> first | exact absurd rfl hne | exact kk φ' _ a' w' he hr' hd
  cases x with
  | norm =>
   obtain ⟨x2, tm2, hp2, h3, h4⟩ := Y7 hc hm n b tm1 hp1 K h1;refine ⟨x2, tm2, hp2, h3, fun φ0 φ w0 M R ac w hr Q kk r => wpIn_seq (h2 φ0 φ w0 M R ac w hr _ (fun φ' e a' w' he hr' hd => ?_) r)⟩;cases he;exact h4 φ0 φ' w0 M R a' w' hr' Q (fun φ2 e a2 w2 he2 hr2 hd2 => kk φ2 e a2 w2 he2 hr2 (hd2.trans hd)) r
  | exit i => exact key (fun φ e he => by cases he; simp) h1
  | ret => exact key (fun φ e he => by cases he; simp) h1
  | pan v => exact key (fun φ e he => by cases he; simp) h1
 | .cond x a b, tm, hp, K, h => by
  obtain ⟨v, hj, hx, h1⟩ := Yd h
  try dsimp only at h1
  split at h1
  ·rename_i t;rcases Ye7 h1 with ⟨rfl, h2⟩ | ⟨rfl, h2⟩
   ·obtain ⟨x', tm', hp', h3, h4⟩ := Y7 hc hm n a tm hp K h2;exact ⟨x', tm', hp', h3, fun φ0 φ w0 M R ac w hr Q kk r => wpIn_cond_true (hr.tmps.ev hx (by simp)) (h4 φ0 φ w0 M R ac w hr Q kk r)⟩
   ·obtain ⟨x', tm', hp', h3, h4⟩ := Y7 hc hm n b tm hp K h2;exact ⟨x', tm', hp', h3, fun φ0 φ w0 M R ac w hr Q kk r => wpIn_cond_false (hr.tmps.ev hx (by simp)) (h4 φ0 φ w0 M R ac w hr Q kk r)⟩
  ·rename_i t;rcases Vif.spec h1 with ⟨rfl, h2⟩ | ⟨rfl, h2⟩
   ·obtain ⟨x', tm', hp', h3, h4⟩ := Y7 hc hm n a tm hp K h2;exact ⟨x', tm', hp', h3, fun φ0 φ w0 M R ac w hr Q kk r => wpIn_cond_true (hr.tmps.ev hx (by simp)) (h4 φ0 φ w0 M R ac w hr Q kk r)⟩
   ·obtain ⟨x', tm', hp', h3, h4⟩ := Y7 hc hm n b tm hp K h2;exact ⟨x', tm', hp', h3, fun φ0 φ w0 M R ac w hr Q kk r => wpIn_cond_false (hr.tmps.ev hx (by simp)) (h4 φ0 φ w0 M R ac w hr Q kk r)⟩
  ·exact h1.elim
 | .block id a, tm, hp, K, h => by
  obtain ⟨x, tm1, hp1, h1, h2⟩ := Y7 hc hm n a tm hp _ h;cases x with
  | exit i =>
   cases hb : Nat.beq i id with
   | true =>
    simp only [hb] at h1;refine ⟨.norm, tm1, hp1, h1, fun φ0 φ w0 M R ac w hr Q kk r => wpIn_block (h2 φ0 φ w0 M R ac w hr _ (fun φ' e a' w' he hr' hd => ?_) r)⟩;cases he;simp only [Exit.inBlock, Ye.1 hb, if_true];exact kk φ' .normal a' w' rfl hr' hd
   | false =>
    simp only [hb] at h1;refine ⟨.exit i, tm1, hp1, h1, fun φ0 φ w0 M R ac w hr Q kk r => wpIn_block (h2 φ0 φ w0 M R ac w hr _ (fun φ' e a' w' he hr' hd => ?_) r)⟩;cases he;simp only [Exit.inBlock, Y4.1 hb, if_false];exact kk φ' _ a' w' rfl hr' hd
  | norm => exact ⟨.norm, tm1, hp1, h1, fun φ0 φ w0 M R ac w hr Q kk r => wpIn_block (h2 φ0 φ w0 M R ac w hr _ (fun φ' e a' w' he hr' hd => by cases he; exact kk φ' _ a' w' rfl hr' hd) r)⟩
  | ret => exact ⟨.ret, tm1, hp1, h1, fun φ0 φ w0 M R ac w hr Q kk r => wpIn_block (h2 φ0 φ w0 M R ac w hr _ (fun φ' e a' w' he hr' hd => by cases he; exact kk φ' _ a' w' rfl hr' hd) r)⟩
  | pan v => exact ⟨.pan v, tm1, hp1, h1, fun φ0 φ w0 M R ac w hr Q kk r => wpIn_block (h2 φ0 φ w0 M R ac w hr _ (fun φ' e a' w' he hr' hd => by cases he; exact kk φ' _ a' w' rfl hr' hd) r)⟩
 | .loop a, tm, hp, K, h => by
  obtain ⟨x, tm', hp', h1, h2⟩ := Ypw (P := c.P) (cd := a) (fun tm hp K h => Y7 hc hm n a tm hp K h) n tm hp K h;exact ⟨x, tm', hp', h1, h2.mono fun Q a w hw r => wpIn_loop_rounds n (hw r)⟩
 | .scope a, tm, hp, K, h => by
  obtain ⟨x, tm1, hp1, h1, h2⟩ := Y7 hc hm n a tm hp _ h;refine ⟨x, tm1, hp1, h1, fun φ0 φ w0 M R ac w hr Q kk r => Yh3 (h2 φ0 φ w0 M R ac w hr _ (fun φ' e a' w' he hr' hd => ?_) r)⟩;cases x <;> cases he <;> exact kk φ' _ a' w' rfl hr' hd
 | .rangeFunc .., tm, hp, K, h => h.elim
 | .goto _, tm, hp, K, h => h.elim
 | .refuse _, tm, hp, K, h => h.elim
end Go.Proofs.YtladoaeefkpdiaaGreatDoor
namespace Go.Proofs.YtladoaeefkpdiaaGreatDoor
open Go.RowKit
variable [InW]
attribute [local irreducible] Go.Oper.wp
def Yvu (ρ : Nat -> Nat) : Heap -> (Heap -> Prop) -> Prop
 | [], K => K []
 | p :: h, K => Y3 (ρ p.1) fun i => Yyr ρ p.2 fun x => Yvu ρ h fun r => K ((i, x) :: r)
def renH (ρ : Nat -> Nat) (h : Heap) : Heap := h.map fun p => (ρ p.1, p.2.ren ρ)
theorem Ygm {ρ : Nat -> Nat} : ∀ {h : Heap} {K : Heap -> Prop}, Yvu ρ h K ↔ K (renH ρ h)
 | [], K => Iff.rfl
 | p :: h, K => by simp only [Yvu, Yk, Yi0, Ygm (h := h), renH, List.map_cons]
def Yw7 (ρ : Nat -> Nat) : Heap -> (Heap -> Prop) -> Prop
 | [], K => K []
 | p :: h, K => Yyr ρ p.2 fun x => Yw7 ρ h fun r => K ((p.1, x) :: r)
def Yys (ρ : Nat -> Nat) (h : Heap) : Heap := h.map fun p => (p.1, p.2.ren ρ)
theorem Ypk {ρ : Nat -> Nat} : ∀ {h : Heap} {K : Heap -> Prop}, Yw7 ρ h K ↔ K (Yys ρ h)
 | [], K => Iff.rfl
 | p :: h, K => by simp only [Yw7, Yi0, Ypk (h := h), Yys, List.map_cons]
def Yqq : Nat -> (List AV -> Prop) -> Prop
 | 0, K => K []
 | n + 1, K => Yqq n fun r => K (.v undef :: r)
theorem Yl3 : ∀ {n : Nat} {K : List AV -> Prop}, Yqq n K ↔ K (List.replicate n (.v undef))
 | 0, K => Iff.rfl
 | n + 1, K => by simp only [Yqq, Yl3 (n := n), List.replicate_succ]
def padK : List AV -> Nat -> (List AV -> Prop) -> Prop
 | [], n, K => Yqq n K
 | x :: xs, n, K => match n with | 0 => Stuck 49 | n + 1 => padK xs n fun r => K (x :: r)
theorem Yi7 : ∀ {xs : List AV} {n : Nat} {K : List AV -> Prop}, padK xs n K -> K (xs ++ List.replicate (n - xs.length) (.v undef))
 | [], n, K, h => by simpa using Yl3.1 h
 | x :: xs, 0, K, h => h.elim
 | x :: xs, n + 1, K, h => by simpa using Yi7 (xs := xs) h
def Yex (tt : Tr TI) (tm : List AV) (hp : Heap) : List ResultVar -> (List AV -> Prop) -> Prop
 | [], K => K []
 | r :: rs, K => match r with
  | .tmp t => getK tm t fun v => Yxc v fun v => Yex tt tm hp rs fun vs => K (v :: vs)
  | .cell p T => getK tm p fun a => match a with
   | .ptr i k => Yu hp i fun it => Y1o tt T it k fun v => Yex tt tm hp rs fun vs => K (v :: vs)
   | _ => Stuck 50
def outA : List AV -> AV
 | [v] => v
 | vs => .tup vs
theorem Y4e {tt : Tr TI} {P : Program} (ht : TabOk P tt) {T : TypeId} {it : It} {i j : Nat} {K : AV -> Prop} (h : Y1o tt T it j K) : ∃ v, K v /\ ∀ (φ : Phi) (w0 : World) (M : List Nat) (R : RL) (w : World), St w0 M (it.conc φ i :: R) w -> (loadVar T ⟨(φ i).b, j, none⟩).run P w = .ok (v.conc φ) w := by
 have key : ∀ cs, (∀ φ, it.vals φ = AV.concL φ cs) -> Yrl tt T cs j K -> ∃ v, K v /\ ∀ (φ : Phi) (w0 : World) (M : List Nat) (R : RL) (w : World), St w0 M (it.conc φ i :: R) w -> (loadVar T ⟨(φ i).b, j, none⟩).run P w = .ok (v.conc φ) w := by
  intro cs hcs h;have h1 := Yj ht h
  split at h1
  ·rename_i ha;obtain ⟨v, h2, h3⟩ := Ybh h1;exact ⟨v, h3, fun φ w0 M R w hS => Ypz (Ycx (Ycr ha) (Ybg hS (Yje hcs h2 φ)))⟩
  ·rename_i ha
   split at h1
   ·rename_i n hn;obtain ⟨h2, h3⟩ := Yb8 h1;obtain ⟨h4, h5⟩ := Ybw h3;refine ⟨_, h5, fun φ w0 M R w hS => Ypz (Yds (Ycr ha) (Ycq hn) (by rw [Yg, List.length_take]; omega) fun j' u hj => ?_)⟩;refine Ybg hS ?_;rw [hcs, <- List.getElem?_drop, <- Yfm];rw [Yea, List.getElem?_take] at hj
    split at hj
    ·exact hj
    ·cases hj
   ·exact h1.elim
  ·exact h1.elim
 cases it with
 | blk T' cs => exact key cs (fun φ => rfl) h
 | row T' sz n cs => exact key cs (fun φ => rfl) h
 | rowV _ _ _ _ => exact h.elim
 | obj _ => exact h.elim
 | lp _ _ => exact h.elim
 | dead => exact h.elim
 | arr _ _ _ => exact h.elim
 | bk _ _ _ _ => exact h.elim
 | bkv _ _ _ _ _ => exact h.elim
 | nst _ _ _ => exact h.elim
 | fro _ _ => exact h.elim
theorem Yy6 {hp : Heap} (hn : (keys hp).Nodup) {i : Nat} {it : It} (h : look hp i = some it) {φ : Phi} {w0 w : World} {M : List Nat} {R : RL} (hS : St w0 M (Yb φ hp ++ R) w) : ∃ R', St w0 M (it.conc φ i :: R') w := by
 have := hS.perm ((Yv ((PartOf.one h).perm hn)).append (List.Perm.refl R));exact ⟨_, by simpa [Yb] using this⟩
theorem Ydt {tt : Tr TI} {P : Program} (ht : TabOk P tt) {tm : List AV} {hp : Heap} : ∀ {rs : List ResultVar} {K : List AV -> Prop}, Yex tt tm hp rs K -> ∃ vs, K vs /\ vs.length = rs.length /\
  ∀ (φ0 φ : Phi) (w0 : World) (M : List Nat) (R : RL) (a : Act) (w : World), RepS φ0 φ w0 M R tm hp a w -> (rs.mapM (resM a.tmps)).run P w = .ok (AV.concL φ vs) w
 | [], K, h => ⟨[], h, rfl, fun _ _ _ _ _ _ _ _ => rfl⟩
 | r :: rs, K, h => by
  cases r with
  | tmp t =>
   obtain ⟨v, h1, h2⟩ := Ybh h;obtain ⟨hj, h3⟩ := Yif h2;obtain ⟨vs, h4, h5, h6⟩ := Ydt ht h3;refine ⟨v :: vs, h4, by simp [h5], fun φ0 φ w0 M R a w hr => ?_⟩;have e : a.tmps.getD t undef = v.conc φ := by simp [Array.getD_eq_getD_getElem?, hr.tmps.slot t v h1 hj]
   simp only [List.mapM_cons, Sem.run_bind, resM, e, Sem.run_pure, Result.andThen_ok, h6 φ0 φ w0 M R a w hr, AV.concL]
  | cell p T =>
   obtain ⟨x, h1, h2⟩ := Ybh h
   try dsimp only at h2
   split at h2
   ·rename_i i k;obtain ⟨it, h3, h4⟩ := Yf h2;obtain ⟨v, h5, h6⟩ := Y4e (i := i) ht h4;obtain ⟨vs, h7, h8, h9⟩ := Ydt ht h5;refine ⟨v :: vs, h7, by simp [h8], fun φ0 φ w0 M R a w hr => ?_⟩;have e : a.tmps.getD p undef = .pointer (some ⟨(φ i).b, k, none⟩) := by
     have := hr.tmps.slot p _ h1 (by simp);simp only [AV.conc] at this;simp [Array.getD_eq_getD_getElem?, this]
    obtain ⟨R', hS⟩ := Yy6 hr.nd h3 hr.st;simp only [List.mapM_cons, Sem.run_bind, resM, e, asAddr, Sem.run_pure, Result.andThen_ok, h6 φ w0 M R' w hS, h9 φ0 φ w0 M R a w hr, AV.concL]
   ·exact h2.elim
theorem Yia {fn : Func} {P : Program} {a : Act} {w : World} {φ : Phi} {vs : List AV} (hl : vs.length = fn.results.toList.length) (h : (fn.results.toList.mapM (resM a.tmps)).run P w = .ok (AV.concL φ vs) w) : (results fn a.tmps).run P w = .ok ((outA vs).conc φ) w := by
 have h2 : (fn.results.mapM (resM a.tmps)).run P w = .ok (AV.concL φ vs).toArray w := by
  rw [Array.mapM_eq_mapM_toList, map_eq_pure_bind, Sem.run_bind, h];rfl
 rw [Ys7, Sem.run_bind, h2];simp only [Result.andThen_ok];cases vs with
 | nil => rfl
 | cons v vs =>
  cases vs with
  | nil => rfl
  | cons u us => simp [AV.concL, outA, AV.conc]
def chgK (hpF : Heap) : Heap -> (Heap -> Prop) -> Prop
 | [], K => K []
 | p :: hs, K => Yu hpF (rIn p.1) fun x => Yyr rIn p.2 fun x0 => match Y0g x x0 with
  | true => chgK hpF hs K
  | false => chgK hpF hs fun r => K ((p.1, x) :: r)
inductive Chg (hpF : Heap) : Heap -> Heap -> Heap -> Prop
 | nil : Chg hpF [] [] []
 | same {i : Nat} {x : It} {hs ch hsF : Heap} (hl : look hpF (rIn i) = some (x.ren rIn)) (t : Chg hpF hs ch hsF) : Chg hpF ((i, x) :: hs) ch ((rIn i, x.ren rIn) :: hsF)
 | chg {i : Nat} {x y : It} {hs ch hsF : Heap} (hl : look hpF (rIn i) = some y) (t : Chg hpF hs ch hsF) : Chg hpF ((i, x) :: hs) ((i, y) :: ch) ((rIn i, y) :: hsF)
theorem Ynx {hpF : Heap} : ∀ {hs : Heap} {K : Heap -> Prop}, chgK hpF hs K -> ∃ ch hsF, Chg hpF hs ch hsF /\ K ch
 | [], K, h => ⟨[], [], .nil, h⟩
 | (i, x) :: hs, K, h => by
  obtain ⟨y, h1, h2⟩ := Yf h;have h3 := Yi0.1 h2
  split at h3
  ·rename_i hs';obtain ⟨ch, hsF, h4, h5⟩ := Ynx h3;have e := Ypc hs';subst e;exact ⟨ch, _, .same h1 h4, h5⟩
  ·obtain ⟨ch, hsF, h4, h5⟩ := Ynx h3;exact ⟨_, _, .chg h1 h4, h5⟩
theorem Chg.keys {hpF hs ch hsF : Heap} (h : Chg hpF hs ch hsF) : keys hsF = (keys hs).map rIn /\ (∀ i ∈ keys ch, i ∈ keys hs) /\ ∀ p ∈ hsF, look hpF p.1 = some p.2 := by
 induction h with
 | nil => exact ⟨rfl, by simp [Go.Proofs.YtladoaeefkpdiaaGreatDoor.keys], by simp⟩
 | same hl t ih =>
  refine ⟨by simp only [Go.Proofs.YtladoaeefkpdiaaGreatDoor.keys, List.map_cons] at ih ⊢; rw [ih.1], fun i hi => ?_, fun p hp => ?_⟩
  ·simp only [Go.Proofs.YtladoaeefkpdiaaGreatDoor.keys, List.map_cons, List.mem_cons]; exact .inr (ih.2.1 i hi)
  ·rcases List.mem_cons.1 hp with rfl | hp
   ·exact hl
   ·exact ih.2.2 p hp
 | chg hl t ih =>
  refine ⟨by simp only [Go.Proofs.YtladoaeefkpdiaaGreatDoor.keys, List.map_cons] at ih ⊢; rw [ih.1], fun i hi => ?_, fun p hp => ?_⟩
  ·simp only [Go.Proofs.YtladoaeefkpdiaaGreatDoor.keys, List.map_cons, List.mem_cons] at hi ⊢;exact hi.imp id (ih.2.1 i)
  ·rcases List.mem_cons.1 hp with rfl | hp
   ·exact hl
   ·exact ih.2.2 p hp
theorem Yu6 {i : Nat} {x y : It} {hs : Heap} : ∀ {pre : Heap}, i ∉ keys pre -> upd (pre ++ (i, x) :: hs) i y = pre ++ (i, y) :: hs
 | [], _ => by simp [upd, Nat.beq_refl]
 | p :: pre, h => by
  simp only [keys, List.map_cons, List.mem_cons, not_or] at h;simp only [List.cons_append, upd, Y4.2 (Ne.symm h.1)];rw [Yu6 h.2]
theorem Y45 {hpF : Heap} {φ φ' φF : Phi} {ks : List Nat} {p : Nat -> Bool} {ρ : Nat -> Nat} (hag : Agree ks φ φ') (hF : ∀ x, φF (rIn x) = φ x) (hρ : ∀ i, p i = true -> φ' (ρ i) = φF i) :
  ∀ {hs ch hsF : Heap}, Chg hpF hs ch hsF -> ∀ pre : Heap, (∀ i ∈ keys hs, i ∉ keys pre) -> (keys hs).Nodup -> (∀ k ∈ ks, hasH k hs = false) -> (ch.all fun q => q.2.ids p) = true -> (∀ i ∈ keys hs, ρ (rIn i) = i) ->
   Yb φ' (Yh (pre ++ hs) (Yys ρ ch)) = Yb φ' pre ++ Yb φF hsF := by
 intro hs ch hsF h
 induction h with
 | nil => intro pre _ _ _ _ _; simp [Yys, Yh, Yb]
 | @same i x hs ch hsF hl t ih =>
  intro pre hd hn hk hp hρi;simp only [keys, List.map_cons, List.nodup_cons, List.mem_cons, forall_eq_or_imp] at hd hn hρi;have hk' : ∀ k ∈ ks, i ≠ k /\ x.has k = false /\ hasH k hs = false := fun k hkk => by
   have := hk k hkk;simp only [hasH, Bool.or_eq_false_iff, Y4] at this;exact ⟨this.1.1, this.1.2, this.2⟩
  have := ih (pre ++ [(i, x)]) (fun j hj hm => by
   rw [Ybo] at hm;rcases List.mem_append.1 hm with hm | hm
   ·exact hd.2 j hj hm
   ·simp [keys] at hm; subst hm; exact hn.1 hj) hn.2 (fun k hkk => (hk' k hkk).2.2) hp hρi.2
  rw [List.append_assoc, List.singleton_append] at this;rw [this, Yn, List.append_assoc]
  congr 1
  have e1 : x.conc φ' i = x.conc φ i := Yhq hag (fun hm => (hk' i hm).1 rfl) x fun k hkk => (hk' k hkk).2.1;have e2 : (x.ren rIn).conc φF (rIn i) = x.conc φ i := Yp5 (p := fun _ => true) (fun j _ => hF j) (hF i) x (Ynj x);simp [Yb, e1, e2]
 | @chg i x y hs ch hsF hl t ih =>
  intro pre hd hn hk hp hρi;simp only [keys, List.map_cons, List.nodup_cons, List.mem_cons, forall_eq_or_imp] at hd hn hρi;simp only [List.all_cons, Bool.and_eq_true] at hp;have hk' : ∀ k ∈ ks, i ≠ k /\ x.has k = false /\ hasH k hs = false := fun k hkk => by
   have := hk k hkk;simp only [hasH, Bool.or_eq_false_iff, Y4] at this;exact ⟨this.1.1, this.1.2, this.2⟩
  have := ih (pre ++ [(i, y.ren ρ)]) (fun j hj hm => by
   rw [Ybo] at hm;rcases List.mem_append.1 hm with hm | hm
   ·exact hd.2 j hj hm
   ·simp [keys] at hm; subst hm; exact hn.1 hj) hn.2 (fun k hkk => (hk' k hkk).2.2) hp.2 hρi.2
  simp only [Yys, List.map_cons, Yh] at this ⊢;rw [Yu6 hd.1];rw [List.append_assoc, List.singleton_append] at this;rw [this, Yn, List.append_assoc]
  congr 1
  have hi0 : φ' i = φF (rIn i) := by rw [hF i]; exact hag i fun hm => (hk' i hm).1 rfl
  have e2 : (y.ren ρ).conc φ' i = y.conc φF (rIn i) := by
   have := Yp5 (p := p) (φ := φF) (φ' := φ') (ρ := ρ) hρ (id := rIn i) (by rw [hρi.1, hi0]) y hp.1;rwa [hρi.1] at this
  simp [Yb, e2]
def Yzd (d : Nat) (nwc : Heap) (i : Nat) : Bool :=
 match Nat.beq (i % 3) 1 with
 | true => (match look (renH (rOut d) nwc) (i / 3) with | some _ => false | none => true)
 | false => (match look nwc i with | some _ => true | none => false)
def Y5m (d : Nat) (v : AV) (ch nwc : Heap) : Bool := Nat.blt d 1024 && v.ids (Yzd d nwc) && (ch.all fun q => q.2.ids (Yzd d nwc)) && (nwc.all fun q => q.2.ids (Yzd d nwc))
def Y6l : Heap -> List Nat -> List Nat
 | [], acc => acc
 | p :: h, acc => p.2.lead (Y6l h acc)
def Yk4 (n d : Nat) (hs : Heap) (v : AV) (hpF : Heap) (k : KE) : Prop :=
 chgK hpF hs fun ch => Ygn (fun i => !(Nat.beq (i % 3) 1)) hpF n (v.lead (Y6l ch [])) [] fun nwc =>
  Yc (Y5m d v ch nwc) (renK (rOut d) v fun v' => Yw7 (rOut d) ch fun us => Yvu (rOut d) nwc fun nw => k v' hs us nw)
theorem Ytn {l : List Nat} (h : l.Nodup) : (l.map rIn).Nodup := List.Pairwise.map rIn (fun a b hne e => hne (by simp only [rIn] at e; omega)) h
theorem Y55 (d i : Nat) : rOut d (rIn i) = i := by
 have h1 : (3 * i + 1) % 3 = 1 := by omega
 have h2 : (3 * i + 1) / 3 = i := by omega
 simp [rOut, rIn, h1, h2, Nat.beq_refl]
theorem Y3w {d i : Nat} (h : i % 3 ≠ 1) : rOut d i = 3 * (i * 1024 + d) + 2 := by simp [rOut, Y4.2 h]
theorem Yt0 (ρ : Nat -> Nat) (h : Heap) : keys (renH ρ h) = (keys h).map ρ := by simp [keys, renH]
theorem Ylo {h : Heap} {i : Nat} : (∃ x, look h i = some x) ↔ i ∈ keys h := by
 constructor
 ·rintro ⟨x, hx⟩; exact Ycs hx
 ·intro hm;cases hl : look h i with
  | some x => exact ⟨x, rfl⟩
  | none =>
   exfalso
   induction h with
   | nil => simp [keys] at hm
   | cons p h ih =>
    rw [Yt] at hl
    split at hl
    ·cases hl
    ·rename_i hne;simp only [keys, List.map_cons, List.mem_cons] at hm;rcases hm with e | hm
     ·exact hne e.symm
     ·exact ih hm hl
theorem Ykg {n d : Nat} {hs hpF : Heap} {v : AV} {k : KE} (hsn : (keys hs).Nodup) (h : Yk4 n d hs v hpF k) : ∃ v' us nw, k v' hs us nw /\ (∀ i ∈ keys us, i ∈ keys hs) /\
  ∀ (φ φF : Phi) (w0 : World) (M : List Nat) (R : RL) (w : World), (∀ i ∈ keys nw, hasH i hs = false) -> (keys hpF).Nodup -> (∀ x, φF (3 * x + 1) = φ x) -> St w0 M (Yb φF hpF ++ R) w ->
   ∃ φ', Agree (keys nw) φ φ' /\ v'.conc φ' = v.conc φF /\ St w0 M (Yb φ' (Yh hs us ++ nw) ++ R) w := by
 obtain ⟨ch, hsF, h1, h2⟩ := Ynx h;obtain ⟨nwc, h3, h3p, h4⟩ := Yb2 (PartOf.nil _) (by simp [keys]) h2;obtain ⟨hB, h5⟩ := Ya h4;have h6 := (Yli _ _ _).1 h5;have h7 := Ygm.1 (Ypk.1 h6);simp only [Y5m, Bool.and_eq_true, Nat.blt_eq] at hB;obtain ⟨⟨⟨hd, hv⟩, hch⟩, hnw⟩ := hB;obtain ⟨k1, k2, k3⟩ := h1.keys;have hown : ∀ i ∈ keys nwc, i % 3 ≠ 1 := fun i hi => by
  have := h3p i hi;simp only [Bool.not_eq_true', Y4] at this;exact this
 refine ⟨_, _, _, h7, fun i hi => k2 i (by simpa [keys, Yys] using hi), fun φ φF w0 M R w hfr hnd hF hS => ?_⟩
 let φ' : Phi := fun y => if y ∈ keys (renH (rOut d) nwc) then φF ((y / 3) / 1024) else φ y
 have hag : Agree (keys (renH (rOut d) nwc)) φ φ' := fun i hi => by simp only [φ', hi, if_false]
 have hback : ∀ i, i ∈ keys nwc -> φ' (rOut d i) = φF i := fun i hi => by
  have hm : rOut d i ∈ keys (renH (rOut d) nwc) := by rw [Yt0]; exact List.mem_map_of_mem hi
  have e : ((rOut d i) / 3) / 1024 = i := by rw [Y3w (hown i hi)]; omega
  simp only [φ', hm, if_true, e]
 have hρ : ∀ i, Yzd d nwc i = true -> φ' (rOut d i) = φF i := fun i hi => by
  unfold Yzd at hi;cases hb : Nat.beq (i % 3) 1 with
  | true =>
   rw [hb] at hi;have h31 : i % 3 = 1 := Ye.1 hb;have e : rOut d i = i / 3 := by simp [rOut, hb]
   have hno : i / 3 ∉ keys (renH (rOut d) nwc) := fun hm => by
    obtain ⟨x, hx⟩ := Ylo.2 hm;rw [hx] at hi;cases hi
   rw [e, hag _ hno, <- hF (i / 3)]
   congr 1
   omega
  | false =>
   rw [hb] at hi;refine hback i (Ylo.1 ?_);cases hl : look nwc i with
   | some x => exact ⟨x, rfl⟩
   | none => rw [hl] at hi; cases hi
 refine ⟨φ', hag, Yhu hρ v hv, ?_⟩;have e1 := Y45 (p := Yzd d nwc) (ρ := rOut d) hag (fun x => hF x) hρ h1 [] (by simp [keys]) hsn hfr hch (fun i _ => Y55 d i);have e2 : Yb φ' (renH (rOut d) nwc) = Yb φF nwc := by
  unfold Yb renH;rw [List.map_map];refine List.map_congr_left fun q hq => ?_;exact Yp5 hρ (hback q.1 (List.mem_map_of_mem hq)) q.2 (List.all_eq_true.1 hnw q hq)
 have hpart : PartOf (hsF ++ nwc) hpF := by
  refine ⟨?_, fun q hq => ?_⟩
  ·rw [Ybo, k1];refine List.nodup_append.2 ⟨?_, h3.nd, fun a ha b hb e => ?_⟩
   ·exact Ytn hsn
   ·obtain ⟨x, _, rfl⟩ := List.mem_map.1 ha;exact hown b hb (by rw [<- e]; simp only [rIn]; omega)
  ·rcases List.mem_append.1 hq with hq | hq
   ·exact k3 q hq
   ·exact h3.all q hq
 have hS2 := hS.perm ((Yv (hpart.perm hnd)).append (List.Perm.refl R));rw [Yn, Yn, List.append_assoc] at hS2;simp only [List.nil_append] at e1;rw [Yn, e1, e2];simp only [Yb, List.map_nil, List.nil_append] at hS2 ⊢;exact hS2.sub ((List.Sublist.refl _).append (List.sublist_append_right _ _))
end Go.Proofs.YtladoaeefkpdiaaGreatDoor
namespace Go.Proofs.YtladoaeefkpdiaaGreatDoor
open Go.RowKit
variable [InW]
attribute [local irreducible] Go.Oper.wp
def BigT (W : (Exit -> Act -> World -> Prop) -> Act -> World -> Prop) (tm : List AV) (hp : Heap) (x : AX) (tm' : List AV) (hp' : Heap) : Prop :=
 ∀ (φ0 φ : Phi) (w0 : World) (M : List Nat) (R : RL) (a : Act) (w : World), RepS φ0 φ w0 M R tm hp a w -> ∀ Q : Exit -> Act -> World -> Prop,
  (∀ φ' e a' w', x.is φ' e -> RepS φ0 φ' w0 M R tm' hp' a' w' -> Q e a' w') -> W Q a w
theorem Big.top {W : (Exit -> Act -> World -> Prop) -> Act -> World -> Prop} {tm tm' : List AV} {hp hp' : Heap} {x : AX} (h : Big W tm hp x tm' hp') : BigT W tm hp x tm' hp' := fun φ0 φ w0 M R a w hr Q kk => h φ0 φ w0 M R a w hr Q fun φ' e a' w' h1 h2 _ => kk φ' e a' w' h1 h2
theorem Ywe (tm : List AV) (x : AV) : Ybf (tm ++ [.held x]) = Ybf tm ++ [x] := by
 induction tm with
 | nil => rfl
 | cons y tm ih => rw [List.cons_append, Y5, Y5, ih, List.append_assoc]
theorem RepT.push {φ : Phi} {tm : List AV} {a : Act} (h : RepT φ tm a) (x : AV) : RepT φ (tm ++ [.held x]) { a with defers := Ye4 φ x :: a.defers } := by
 have key : ∀ (t : Nat) (v : AV), (tm ++ [AV.held x])[t]? = some v -> (tm[t]? = some v) \/ (t = tm.length /\ v = .held x) := fun t v hv => by
  rw [List.getElem?_append] at hv
  split at hv
  ·exact .inl hv
  ·rename_i hge;have ht : t = tm.length := by
    rcases Nat.lt_or_ge (t - tm.length) 1 with h1 | h1
    ·omega
    ·rw [List.getElem?_eq_none (by simpa using h1)] at hv; cases hv
   subst ht;simp at hv;exact .inr ⟨rfl, hv.symm⟩
 refine ⟨fun t v hv hh => ?_, fun t v hv hh => ?_, fun t v hv hr => ?_, ?_, by simp; have := h.len; omega⟩
 ·rcases key t v hv with h1 | ⟨_, rfl⟩
  ·exact h.size t v h1 hh
  ·cases hh
 ·rcases key t v hv with h1 | ⟨rfl, rfl⟩
  ·exact h.held t v h1 hh
  ·exact h.len
 ·rcases key t v hv with h1 | ⟨_, rfl⟩
  ·exact h.slot t v h1 hr
  ·cases hr
 ·rw [Ywe, List.map_append, List.reverse_append, h.df];rfl
theorem Ywa (w : World) (b : Nat) (o : Obj) : Kept w.heap.size [b] w (w.putObj b o) :=
 ⟨rfl, rfl, rfl, by simp, fun k _ hk => World.putObj_heap_other (by simpa using hk)⟩
theorem RepS.turn {φ0 φ : Phi} {w0 : World} {M : List Nat} {R : RL} {tm : List AV} {hp : Heap} {a : Act} {w : World} (h : RepS φ0 φ w0 M R tm hp a w) {i b : Nat} {it it' : It} {o o' : Obj} (hl : look hp i = some it) (e1 : it.conc φ i = .blk b o) (e2 : it'.conc φ i = .blk b o') :
  w.heap[b]? = some o /\ RepS φ0 φ w0 M R tm (upd hp i it') a (w.putObj b o') := by
 have hpart := PartOf.one hl;have hS : St w0 M (Yb φ [(i, it)] ++ (Yb φ (Yb0 [(i, it)] hp) ++ R)) w := by
  have := h.st.perm ((Yv (hpart.perm h.nd)).append (List.Perm.refl R));rwa [Yn, List.append_assoc] at this
 have hS2 : St w0 M (Res.blk b o :: (Yb φ (Yb0 [(i, it)] hp) ++ R)) w := by simpa [Yb, e1] using hS
 have hb : w.heap[b]? = some o := hS2.has _ List.mem_cons_self;refine ⟨hb, ?_⟩;have hS3 : St w0 M (Res.blk b o' :: (Yb φ (Yb0 [(i, it)] hp) ++ R)) (w.putObj b o') :=
  hS2.upd .head (Ywa w b o') (World.putObj_heap_same (Array.getElem?_eq_some_iff.1 hb).1) (fun c hc => .inl hc)
 have := h.new_heap (us := [(i, it')]) (nw := []) hpart (fun j hj => by simpa [keys] using hj) ⟨fun j hj => by simp [keys] at hj, by simp [keys], fun j hj => by simp [keys] at hj⟩ (Agree.refl _ φ) (by simpa [Yh, upd, Yb, Nat.beq_refl, e2] using hS3) none (.v undef);simpa [Yh, Ybe, putA, Act.put] using this
def Ylu : List AV -> Bool
 | [] => true
 | x :: xs => match x with | .held _ => Ylu xs | _ => false
def Y3k : List AV -> (List AV -> Prop) -> Prop
 | [], K => K []
 | x :: xs, K => match x with | .junk => Stuck 93 | .held _ => Yc (Ylu xs) (K []) | x => Y3k xs fun r => K (x :: r)
theorem Yjx : ∀ {xs : List AV}, Ylu xs = true -> ∀ x ∈ xs, x.isHeld = true
 | [], _, x, hx => by cases hx
 | y :: xs, h, x, hx => by
  cases y <;> simp only [Ylu, Bool.false_eq_true] at h;rcases List.mem_cons.1 hx with rfl | hx
  ·rfl
  ·exact Yjx h x hx
theorem Yo7 : ∀ {tm : List AV} {K : List AV -> Prop}, Y3k tm K -> ∃ sn hl, tm = sn ++ hl /\ (∀ x ∈ sn, x.rd = true) /\ (∀ x ∈ hl, x.isHeld = true) /\ K sn
 | [], K, h => ⟨[], [], rfl, by simp, by simp, h⟩
 | x :: xs, K, h => by
  have go : x.rd = true -> Y3k xs (fun r => K (x :: r)) -> ∃ sn hl, x :: xs = sn ++ hl /\ (∀ y ∈ sn, y.rd = true) /\ (∀ y ∈ hl, y.isHeld = true) /\ K sn := fun hr h => by
   obtain ⟨sn, hl, rfl, h1, h2, h3⟩ := Yo7 h;exact ⟨x :: sn, hl, rfl, fun y hy => (List.mem_cons.1 hy).elim (fun e => e ▸ hr) (h1 y), h2, h3⟩
  cases x with
  | junk => exact h.elim
  | held y =>
   obtain ⟨h1, h2⟩ := Ya h;exact ⟨[], .held y :: xs, rfl, by simp, fun z hz => (List.mem_cons.1 hz).elim (fun e => e ▸ rfl) (Yjx h1 z), h2⟩
  | _ => exact go rfl h
theorem RepT.snap {φ : Phi} {sn hl : List AV} {a : Act} (h : RepT φ (sn ++ hl) a) (h1 : ∀ x ∈ sn, x.rd = true) (h2 : ∀ x ∈ hl, x.isHeld = true) : a.tmps = (AV.concL φ sn).toArray := by
 have hs : a.tmps.size = sn.length := by
  refine Nat.le_antisymm ?_ ?_
  ·cases hl with
   | nil => have := h.len; simpa using this
   | cons y hl => exact h.held sn.length y (by simp) (h2 y List.mem_cons_self)
  ·rcases Nat.eq_zero_or_pos sn.length with e | e
   ·omega
   ·have hx : sn[sn.length - 1]? = some sn[sn.length - 1] := by simp
    have hr := h1 _ (List.getElem_mem (show sn.length - 1 < sn.length by omega));have := h.size (sn.length - 1) sn[sn.length - 1] (by rw [List.getElem?_append_left (by omega)]; exact hx) (by cases hv : sn[sn.length - 1] <;> simp_all [AV.isHeld]);omega
 refine Array.ext_getElem? fun t => ?_;rcases Nat.lt_or_ge t sn.length with ht | ht
 ·have hx : sn[t]? = some sn[t] := by simp [ht]
  rw [h.slot t sn[t] (by rw [List.getElem?_append_left ht]; exact hx) (h1 _ (List.getElem_mem ht))];simp [Yw, hx]
 ·rw [Array.getElem?_eq_none (by omega), Array.getElem?_eq_none (by simpa [Yg] using ht)]
end Go.Proofs.YtladoaeefkpdiaaGreatDoor
namespace Go.Proofs.YtladoaeefkpdiaaGreatDoor
open Go.RowKit
variable [InW]
attribute [local irreducible] Go.Oper.wp
def Y54 : Oper := { dst := some 1023, op := .call { callee := .value (.const undef), args := #[], argTypes := #[] }, type := 0, pos := "", after := #[], guard := none }
def busyB (L : LI) : Bool := match L.st with | .busy => true | _ => false
def Yts (it : It) (K : LI -> List AV -> Prop) : Prop := match it with | .lp L cs => K L cs | _ => Stuck 96
theorem Yih {it : It} {K : LI -> List AV -> Prop} (h : Yts it K) : ∃ L cs, it = .lp L cs /\ K L cs := by
 unfold Yts at h
 split at h
 ·exact ⟨_, _, rfl, h⟩
 ·exact h.elim
def Y7z (j : Option Code) (tm : List AV) (hp : Heap) (K : KX) : Prop :=
 match j with | none => K .norm tm hp | some .ret => K .ret tm hp | some (.exit i) => K (.exit i) tm hp | _ => Stuck 97
def Y29 (li : Nat) (tm : List AV) (hp us nw : Heap) (K : List AV -> Heap -> Prop) : Prop :=
 Yc (Yri nw tm hp) (Yge hp us fun hp => Yf3 hp nw fun hp => K tm hp)
def Y5i (c : Cx) (n : Nat) (g : Operand) (ps : Array Tmp) (assign body : Code) (tm : List AV) (hp : Heap) (K : KX) : Prop :=
 Yyw n [Y54] tm hp fun tm hp => evK tm g fun gv => funK gv fun gf fa fb => Y3 (maxK hp 1024) fun m => Y3 (3 * m + 3) fun di => Y3 (3 * m + 6) fun li => Y3k tm fun sn =>
  Yc (Yf8 c.P gf) (Yc (Yri [(di, .obj (.dfb true)), (li, .lp ⟨.ready, none, ps, assign, body⟩ (.mp di :: sn))] tm hp)
   (Yf3 hp [(di, .obj (.dfb true)), (li, .lp ⟨.ready, none, ps, assign, body⟩ (.mp di :: sn))] fun hp1 => appK tm [.held (.mp di)] fun tm1 => appK fa (.yl li :: fb) fun args =>
    c.callH gf args hp1 1023
     (fun _ hs us nw => Y29 li tm1 hp1 us nw fun tm hp => Yu hp li fun it => Yts it fun L cs => Yc (!busyB L) (updK hp li (.lp { L with st := .exhausted } cs) fun hp => Y7z L.pend tm hp K))
     (fun val hs us nw => Y29 li tm1 hp1 us nw fun tm hp => K (.pan val) tm hp)))
theorem Yoc {li : Nat} {tm : List AV} {hp us nw : Heap} {K : List AV -> Heap -> Prop} (h : Y29 li tm hp us nw K) : (NewFor (keys nw) tm hp /\ (keys nw).Nodup /\ ∀ i ∈ keys nw, i % 3 ≠ 1) /\ K tm (Ybe (Yh hp us) nw) := by
 obtain ⟨h1, h2⟩ := Ya h;exact ⟨Ydg h1, Ycw.1 (Yda.1 h2)⟩
theorem Yr7 {P : Program} {g : Operand} {ps : Array Tmp} {assign body : Code} {Q : Exit -> Act -> World -> Prop} {a : Act} {w : World}
  (h : ∀ fn : FuncId, ∃ (l : Nat) (mark : List Deferred) (w₁ : World) (d : Deferred) (f : FuncId) (args : Array Value),
   (Instr.enterLoop fn a.tmps ps assign body none).run P w = .ok (l, mark) w₁ /\ (resolve a.eval (rangeCall g l) 0).run P w₁ = .ok d w₁ /\ (invoke d.target d.args).run P w₁ = .ok (.enter f args) w₁ /\
   Calls P f args w₁ (rangePost Fence.wide 0 P l Q { a with defers := mark ++ a.defers })) : (Code.rangeFunc g ps assign body).wp P Q a w :=
 (wpIn_wide (n := 0)).1 (wpIn_rangeFunc fun fn _ => by
  obtain ⟨l, mark, w₁, d, f, args, h1, h2, h3, h4⟩ := h fn;exact ⟨l, mark, w₁, d, w₁, f, args, w₁, h1, h2, fun _ _ => trivial, h3, fun h => by simp [Fence.wide] at h, callsIn_wide.2 h4⟩)
theorem Yvv {c : Cx} (hc : HandOk c) {n : Nat} {g : Operand} {ps : Array Tmp} {assign body : Code} {tm : List AV} {hp : Heap} {K : KX} (h : Y5i c n g ps assign body tm hp K) :
  ∃ x tm' hp', K x tm' hp' /\ BigT (fun Q a w => (Code.rangeFunc g ps assign body).wp c.P Q a w) tm hp x tm' hp' := by
 obtain ⟨tm0, hp0, h0, hpre⟩ := Yi4 h;obtain ⟨gv, hj, hg, h1⟩ := Yd h0;obtain ⟨gf, fa, fb, h2, hgv, hgh⟩ := Yjl h1;have h3 := Yk.1 (Yk.1 (Yk.1 h2));generalize 3 * maxK hp0 1024 + 3 = di at h3;generalize 3 * maxK hp0 1024 + 6 = li at h3;obtain ⟨sn, hl, rfl, s1, s2, h4⟩ := Yo7 h3;obtain ⟨hok, h5⟩ := Ya h4;obtain ⟨hB0, h6⟩ := Ya h5;have hN := Ydg hB0;have h7 := Yct.1 (Yct.1 (Ycw.1 h6));clear h h0 h1 h2 h3 h4 h5 h6;have hdl : di ≠ li := fun e => by have := hN.2.1; simp [keys, e] at this
 have hnd0 : ∀ i ∈ keys [(di, It.obj (.dfb true)), (li, It.lp ⟨.ready, none, ps, assign, body⟩ (.mp di :: sn))], AV.hasL i (sn ++ hl) = false /\ hasH i hp0 = false := hN.1;have hli : AV.hasL li (sn ++ hl) = false := (hnd0 li (by simp [keys])).1;have hdi : AV.hasL di (sn ++ hl) = false := (hnd0 di (by simp [keys])).1;have main : ∀ (φ0 φ : Phi) (w0 : World) (M : List Nat) (R : RL) (a : Act) (w : World), RepS φ0 φ w0 M R (sn ++ hl) hp0 a w -> ∀ fn : FuncId, ∃ φ1 : Phi, (φ1 di).b = w.heap.size /\ (φ1 li).b = w.heap.size + 1 /\
   RepS φ0 φ1 w0 M R ((sn ++ hl) ++ [.held (.mp di)]) (Ybe hp0 [(di, .obj (.dfb true)), (li, .lp ⟨.ready, none, ps, assign, body⟩ (.mp di :: sn))]) { a with defers := { target := .collected w.heap.size, args := #[] } :: a.defers }
    ((w.alloc (.deferred (some []))).alloc (.loop { state := .ready, pending := none, fn, tmps := a.tmps, params := ps, assign, body, defers := w.heap.size })) := by
  intro φ0 φ w0 M R a w hr fn
  let φ1 : Phi := fun i => if i = di then ⟨w.heap.size, false, 0, none, 0, undef, fun _ => False⟩ else if i = li then ⟨w.heap.size + 1, false, 0, none, fn, undef, fun _ => False⟩ else φ i
  have e1 : φ1 di = ⟨w.heap.size, false, 0, none, 0, undef, fun _ => False⟩ := by simp [φ1]
  have e2 : φ1 li = ⟨w.heap.size + 1, false, 0, none, fn, undef, fun _ => False⟩ := by simp [φ1, Ne.symm hdl]
  have hag : Agree (keys [(di, It.obj (.dfb true)), (li, It.lp ⟨.ready, none, ps, assign, body⟩ (.mp di :: sn))]) φ φ1 := fun i hi => by
   simp only [keys, List.map_cons, List.map_nil, List.mem_cons, List.not_mem_nil, or_false, not_or] at hi;simp [φ1, hi.1, hi.2]
  have esn : AV.concL φ1 sn = AV.concL φ sn := Yy hag sn fun i hi => by
   have := (hnd0 i hi).1;rw [Yo, List.any_append, Bool.or_eq_false_iff] at this;rw [Yo]; exact this.1
  have etm := hr.tmps.snap s1 s2;have hS := (hr.st.alloc (.deferred (some []))).alloc (.loop { state := .ready, pending := none, fn, tmps := a.tmps, params := ps, assign, body, defers := w.heap.size });have hS' : St w0 M (Yb φ1 (Yh [] [] ++ [(di, It.obj (.dfb true)), (li, It.lp ⟨.ready, none, ps, assign, body⟩ (.mp di :: sn))]) ++ (Yb φ (Yb0 [] hp0) ++ R)) ((w.alloc (.deferred (some []))).alloc (.loop { state := .ready, pending := none, fn, tmps := a.tmps, params := ps, assign, body, defers := w.heap.size })) := by
   have er : Yb0 [] hp0 = hp0 := by simp [Yb0, keys]
   rw [er];have := hS.perm (List.Perm.swap _ _ _);simpa [Yh, Yb, It.conc, e1, e2, OI.obj, LI.obj, defB, AV.concL, AV.conc, esn, etm, World.size_alloc] using this
  have hr1 := hr.new_heap (PartOf.nil hp0) Yfv hN hag hS' none (.v undef);have hr2 : RepS φ0 φ1 w0 M R (sn ++ hl) (Ybe hp0 [(di, .obj (.dfb true)), (li, .lp ⟨.ready, none, ps, assign, body⟩ (.mp di :: sn))]) a ((w.alloc (.deferred (some []))).alloc (.loop { state := .ready, pending := none, fn, tmps := a.tmps, params := ps, assign, body, defers := w.heap.size })) := hr1;refine ⟨φ1, by rw [e1], by rw [e2], ?_⟩;have hp := hr2.tmps.push (.mp di);have ed : Ye4 φ1 (.mp di) = { target := .collected w.heap.size, args := #[] } := by simp [Ye4, AV.conc, e1]
  rw [ed] at hp;exact ⟨hp, hr2.st, hr2.nd, hr2.base⟩
 generalize hhp1 : Ybe hp0 [(di, It.obj (.dfb true)), (li, It.lp ⟨.ready, none, ps, assign, body⟩ (.mp di :: sn))] = hp1 at h7 main;generalize htm1 : (sn ++ hl) ++ [AV.held (.mp di)] = tm1 at h7 main;have hlk : li ∈ keys hp1 := by
  rw [<- hhp1];exact (Yij _ _).mem_iff.2 (List.mem_append_left _ (by simp [keys]))
 have hargs : ∀ i, i ≠ li -> AV.hasL i tm1 = false -> AV.hasL i (fa ++ .yl li :: fb) = false := fun i hne hi => by
  rw [<- htm1, Yo, List.any_append, Bool.or_eq_false_iff, <- Yo] at hi;have h9 := hgh i (hg.new hi.1);rw [Yo, List.any_append, <- Yo, <- Yo];simp only [AV.hasL, AV.has, h9.1, h9.2, Y4.2 (Ne.symm hne), Bool.or_self]
 have walk : ∀ (pan : Bool) (val : AV) (hs us nw : Heap) (x : AX) (tm' : List AV) (hp' : Heap), PartOf hs hp1 -> (∀ i ∈ keys us, i ∈ keys hs) -> ACall c.P gf (fa ++ .yl li :: fb) hs pan val us nw -> (NewFor (keys nw) tm1 hp1 /\ (keys nw).Nodup /\ ∀ i ∈ keys nw, i % 3 ≠ 1) ->
   (∀ (φ0 φ : Phi) (w0 : World) (M : List Nat) (R : RL) (a : Act) (w : World) (l : Nat), RepS φ0 φ w0 M R tm1 (Ybe (Yh hp1 us) nw) a w -> (φ li).b = l -> ∀ Q : Exit -> Act -> World -> Prop,
    (∀ φ' e a' w', x.is φ' e -> RepS φ0 φ' w0 M R tm' hp' a' w' -> Q e a' w') -> rangePost Fence.wide 0 c.P l Q a (Yuy pan (val.conc φ)) w) ->
   BigT (fun Q a w => (Code.rangeFunc g ps assign body).wp c.P Q a w) tm hp x tm' hp' := by
  intro pan val hs us nw x tm' hp' hpart hu hA hB hpost φ0 φ w0 M R a w hr0 Q kk;obtain ⟨φa, hr⟩ := hpre φ0 φ w0 M R a w hr0;refine Yr7 fun fn => ?_;obtain ⟨φ1, b1, b2, hr1⟩ := main φ0 φa w0 M R a w hr fn;have eg := hr.tmps.ev hg hj;rw [hgv φa] at eg;refine ⟨w.heap.size + 1, [{ target := .collected w.heap.size, args := #[] }], _, { target := .fn (.func gf) (AV.concL φa fb).toArray, args := (AV.concL φa fa).toArray ++ #[.func (.yield (w.heap.size + 1)) #[] #[]] }, gf, (AV.concL φ1 (fa ++ .yl li :: fb)).toArray, run_enterLoop_outer _ _ _ _ _, ?_, ?_, ?_⟩
  ·simp only [resolve, eg, Deferred.ofValue, Sem.run_bind, Sem.run_pure, Result.andThen_ok];simp [Act.eval]
  ·have ea : AV.concL φ1 fa = AV.concL φa fa /\ AV.concL φ1 fb = AV.concL φa fb := by
    have := hgv φ1;have h8 : gv.conc φ1 = gv.conc φa := by
     have h9 := hr1.tmps;have hm : gv.conc φ1 = a.eval g := by
      cases g with
      | tmp t =>
       have hg1 : (tm1)[t]? = some gv := by
        rw [<- htm1];have hg' : (sn ++ hl)[t]? = some gv := hg;rw [List.getElem?_append_left (List.getElem?_eq_some_iff.1 hg').1];exact hg'
       have := h9.slot t gv hg1 hj;simp [Act.eval, Array.getD_eq_getD_getElem?, this]
      | const k => have hx : gv = .v k := hg; subst hx; rfl
      | global k => exact hg.elim
      | func f => have hx : gv = .fn (.func f) [] [] := hg; subst hx; rfl
     rw [hm, hr.tmps.ev hg hj]
    rw [h8, hgv φa] at this;simp only [Value.func.injEq, true_and] at this;have t1 := congrArg Array.toList this.1;have t2 := congrArg Array.toList this.2;exact ⟨by simpa using t1.symm, by simpa using t2.symm⟩
   simp only [invoke, Ygl hok]
   congr 2
   rw [Ybz];simp [AV.concL, AV.conc, b2, ea.1, ea.2]
  ·have hS : St w0 M (Yb φ1 hs ++ (Yb φ1 (Yb0 hs hp1) ++ R)) ((w.alloc (.deferred (some []))).alloc (.loop { state := .ready, pending := none, fn, tmps := a.tmps, params := ps, assign, body, defers := w.heap.size })) := by
    have := hr1.st.perm ((Yv (hpart.perm hr1.nd)).append (List.Perm.refl R));rwa [Yn, List.append_assoc] at this
   have hnli : li ∉ keys nw := fun hm => by
    obtain ⟨p, hp', e⟩ := List.mem_map.1 hlk;exact (Yx (hB.1 li hm).2 hp').1 e
   have hnew : NewFor (keys nw) (fa ++ .yl li :: fb) hs := fun i hi => ⟨hargs i (fun e => hnli (e ▸ hi)) (hB.1 i hi).1, Ye1 fun p hp' => Yx (hB.1 i hi).2 (Yba (hpart.all p hp'))⟩;refine Calls.mono (hA φ1 w0 M _ _ hnew hS) fun e w' ⟨φ2, hag, he, hS2⟩ => ?_;have hr2 := hr1.new_heap hpart hu hB hag hS2 none (.v undef);subst he;exact hpost φ0 φ2 w0 M R _ w' _ hr2 (by rw [hag li hnli, b2]) Q kk
 rcases hc.call _ _ _ _ _ _ h7 with ⟨val, hs, us, nw, k1, hpart, hu, hA⟩ | ⟨val, hs, us, nw, k1, hpart, hu, hA⟩
 ·obtain ⟨hB, k2⟩ := Yoc k1;obtain ⟨it, k3, k4⟩ := Yf k2;obtain ⟨L, cs, rfl, k5⟩ := Yih k4;obtain ⟨hbz, k6⟩ := Ya k5;have k7 := Yeu.1 k6;have fin : ∀ (x : AX), K x tm1 (upd (Ybe (Yh hp1 us) nw) li (.lp { L with st := .exhausted } cs)) ->
    (∀ (φ : Phi) (a : Act) (w : World) (Q : Exit -> Act -> World -> Prop), (∀ e, x.is φ e -> Q e a w) -> match L.pend with | none => Q .normal a w | some j => j.wpIn Fence.wide 0 c.P Q a w) ->
    ∃ x tm' hp', K x tm' hp' /\ BigT (fun Q a w => (Code.rangeFunc g ps assign body).wp c.P Q a w) tm hp x tm' hp' := by
   intro x hk hj2;refine ⟨x, _, _, hk, walk false val hs us nw x _ _ hpart hu hA hB fun φ0 φ w0 M R a w l hr hl Q kk => ?_⟩;obtain ⟨hb, hr2⟩ := hr.turn k3 (b := l) (o := L.obj (φ li).fn (AV.concL φ cs)) (o' := ({ L with st := .exhausted } : LI).obj (φ li).fn (AV.concL φ cs)) (by simp [It.conc, hl]) (it' := .lp { L with st := .exhausted } cs) (by simp [It.conc, hl]);refine ⟨L.pend, _, run_endLoop hb (by
    intro e;unfold busyB at hbz;simp only at e;rw [e] at hbz;simp at hbz), ?_⟩
   exact hj2 φ a _ Q fun e he => kk φ e a _ he hr2
  unfold Y7z at k7
  split at k7
  ·rename_i hp;exact fin .norm k7 fun φ a w Q hq => by rw [hp]; exact hq _ rfl
  ·rename_i hp;exact fin .ret k7 fun φ a w Q hq => by rw [hp]; exact wpIn_ret (hq _ rfl)
  ·rename_i i hp;exact fin (.exit i) k7 fun φ a w Q hq => by rw [hp]; exact wpIn_exit (hq _ rfl)
  ·exact k7.elim
 ·obtain ⟨hB, k2⟩ := Yoc k1;refine ⟨.pan val, _, _, k2, walk true val hs us nw _ _ _ hpart hu hA hB fun φ0 φ w0 M R a w l hr hl Q kk => ?_⟩;exact kk φ _ a w rfl hr
end Go.Proofs.YtladoaeefkpdiaaGreatDoor
namespace Go.Proofs.YtladoaeefkpdiaaGreatDoor
open Go.RowKit
variable [InW]
attribute [local irreducible] Go.Oper.wp
def Yrx (o : Oper) : Option Operand :=
 match o.op, o.guard, o.dst with
 | .defer { callee := .value f, args := ⟨[]⟩, .. }, none, none => some f
 | _, _, _ => none
def Yoy (c : Cx) (ol : List Oper) : List Oper -> List AV -> Heap -> KX -> Prop
 | [], tm, hp, K => K .norm tm hp
 | o :: rest, tm, hp, K => match Yrx o with
  | some f => evK tm f fun fv => funK fv fun _ _ _ => appK tm [.held fv] fun tm => Yoy c ol rest tm hp K
  | none => Yp9 ol o tm
   (Yu4 c o tm hp (fun val hs us nw => Yo6 ol o val fun val => Yql o.dst tm hp val us nw fun tm hp => Yoy c ol rest tm hp K) (fun val hs us nw => Yql none tm hp val us nw fun tm hp => K (.pan val) tm hp))
   (putK tm o.dst (.v undef) fun tm => Yoy c ol rest tm hp K)
theorem Yui {o : Oper} {f : Operand} (h : Yrx o = some f) : o.guard = none /\ o.dst = none /\ ∃ tys, o.op = .defer { callee := .value f, args := #[], argTypes := tys } := by
 unfold Yrx at h
 split at h
 ·rename_i h1 h2 h3;cases h;exact ⟨h2, h3, _, h1⟩
 ·cases h
section
variable {c : Cx} {ol : List Oper}
theorem Yeq (hc : HandOk c) : ∀ (l : List Oper) (tm : List AV) (hp : Heap) (K : KX), Yoy c ol l tm hp K ->
  ∃ x tm' hp', K x tm' hp' /\ BigT (fun Q a w => wpList c.P ol.toArray Q l a w) tm hp x tm' hp'
 | [], tm, hp, K, h => ⟨.norm, tm, hp, h, fun φ0 φ w0 M R a w hr Q kk => kk φ .normal a w rfl hr⟩
 | o :: rest, tm, hp, K, h => by
  unfold Yoy at h
  split at h
  ·rename_i f hf;obtain ⟨h1, h2, tys, h3⟩ := Yui hf;obtain ⟨fv, hj, hfv, h4⟩ := Yd h;obtain ⟨g, fs, cs, h5, h6, _⟩ := Yjl h4;obtain ⟨x, tm', hp', h7, h8⟩ := Yeq hc rest _ _ K (Yct.1 h5);refine ⟨x, tm', hp', h7, fun φ0 φ w0 M R a w hr Q kk => ?_⟩
   show wpList c.P ol.toArray Q (o :: rest) a w
   unfold wpList;have hw : Region.wanted o (yielded ol.toArray a.tmps) = true := by simp only [Region.wanted, h1]
   rw [hw];simp only [if_true];left;have e1 := hr.tmps.ev hfv hj;have hrun : (execOp a.eval o).run c.P w = .ok (.defer (Ye4 φ fv)) w := by
    simp only [execOp, h3, resolve, e1, h6 φ, Deferred.ofValue, Sem.run_bind, Sem.run_pure, Result.andThen_ok, Ye4];simp
   unfold Oper.wp;rw [hrun];simp only [Oper.upon, h2, Act.put];exact h8 φ0 φ w0 M R _ w ⟨hr.tmps.push fv, hr.st, hr.nd, hr.base⟩ Q kk
  ·rcases Yf5 h with ⟨hw, h1⟩ | ⟨hw, h1⟩
   ·rcases Yh6 hc h1 with ⟨val, hs, us, nw, h2, hpart, hu, hd⟩ | ⟨val, hs, us, nw, h2, hpart, hu, hd⟩
    ·obtain ⟨val', h2, he⟩ := Yfu h2
     replace hd := hd.same he
     obtain ⟨hB, h3⟩ := Yen h2;obtain ⟨x, tm', hp', h4, h5⟩ := Yeq hc rest _ _ K h3;refine ⟨x, tm', hp', h4, fun φ0 φ w0 M R a w hr Q kk => ?_⟩
     show wpList c.P ol.toArray Q (o :: rest) a w
     unfold wpList;rw [hw.at hr.tmps];simp only [if_true];exact .inl (Yqf hd hpart hu hB hr fun φ' w' hr' => h5 φ0 φ' w0 M R _ w' hr' Q kk)
    ·obtain ⟨hB, h3⟩ := Yen h2;refine ⟨.pan val, _, _, h3, fun φ0 φ w0 M R a w hr Q kk => ?_⟩
     show wpList c.P ol.toArray Q (o :: rest) a w
     unfold wpList;rw [hw.at hr.tmps];simp only [if_true];left;have b1 := hB.1;have hS : St w0 M (Yb φ hs ++ (Yb φ (Yb0 hs hp) ++ R)) w := by
      have := hr.st.perm ((Yv (hpart.perm hr.nd)).append (List.Perm.refl R));rwa [Yn, List.append_assoc] at this
     refine hd φ w0 M _ a w _ Q (hr.tmps.ops _) (fun i hi => ⟨(b1 i hi).1, Ye1 fun p hp' => Yx (b1 i hi).2 (Yba (hpart.all p hp'))⟩) hS fun φ' w' hag hS' => ?_;exact kk φ' _ a w' rfl (hr.new_heap hpart hu hB hag hS' none val)
   ·have h2 := Yec h1;obtain ⟨x, tm', hp', h4, h5⟩ := Yeq hc rest _ _ K h2;refine ⟨x, tm', hp', h4, fun φ0 φ w0 M R a w hr Q kk => ?_⟩
    show wpList c.P ol.toArray Q (o :: rest) a w
    unfold wpList;rw [hw.at hr.tmps];simp only [Bool.false_eq_true, if_false];exact h5 φ0 φ w0 M R _ w (hr.skip o.dst) Q kk
end
inductive Sub (body : Code) : Code -> Prop where
 | refl : Sub body body
 | seqL {a b : Code} : Sub body (.seq a b) -> Sub body a
 | seqR {a b : Code} : Sub body (.seq a b) -> Sub body b
 | condL {x : Operand} {a b : Code} : Sub body (.cond x a b) -> Sub body a
 | condR {x : Operand} {a b : Code} : Sub body (.cond x a b) -> Sub body b
 | block {i : Nat} {a : Code} : Sub body (.block i a) -> Sub body a
 | loop {a : Code} : Sub body (.loop a) -> Sub body a
 | scope {a : Code} : Sub body (.scope a) -> Sub body a
def Y1 : Code -> List Code
 | .seq a b => Y1 a ++ Y1 b
 | .cond _ a b => Y1 a ++ Y1 b
 | .block _ a => Y1 a
 | .loop a => a :: Y1 a
 | .scope a => Y1 a
 | _ => []
theorem Sub.sub {body cd : Code} (h : Sub body cd) : ∀ x ∈ Y1 cd, x ∈ Y1 body := by
 induction h with
 | refl => exact fun _ h => h
 | seqL _ ih => exact fun x hx => ih x (by simp [Y1, hx])
 | seqR _ ih => exact fun x hx => ih x (by simp [Y1, hx])
 | condL _ ih => exact fun x hx => ih x (by simp [Y1, hx])
 | condR _ ih => exact fun x hx => ih x (by simp [Y1, hx])
 | block _ ih => exact fun x hx => ih x (by simpa [Y1] using hx)
 | loop _ ih => exact fun x hx => ih x (by simp [Y1, hx])
 | scope _ ih => exact fun x hx => ih x (by simpa [Y1] using hx)
theorem Sub.mem {body a : Code} (h : Sub body (.loop a)) : a ∈ Y1 body := h.sub a (by simp [Y1])
def InLoop (P : Program) (c : Code) (Q : Exit -> Act -> World -> Prop) (a : Act) (w : World) : Prop :=
 ∀ (b : Frame) (k : List Item) (cs : List Frame), ∃ e a' w', Q e a' w' /\ Arrives P (lone (b.at a (.code c :: .inLoop c :: k)) cs w) b k cs e a' w'
theorem InLoop.round {P : Program} {c : Code} {Q : Exit -> Act -> World -> Prop} {a : Act} {w : World} (h : c.wp P (Exit.then (InLoop P c Q) Q) a w) : InLoop P c Q a w := by
 intro b k cs;obtain ⟨e, a₁, w₁, hq, harr⟩ := h b (.inLoop c :: k) cs;cases e with
 | normal =>
  obtain ⟨e₂, a₂, w₂, hq₂, harr₂⟩ := hq b k cs;exact ⟨e₂, a₂, w₂, hq₂, .of_steps (Steps.trans harr (.one step_inLoop)) harr₂⟩
 | exit id => exact ⟨_, a₁, w₁, hq, .pass (x := .inLoop c) rfl (fun _ _ => .inl (by simp)) harr⟩
 | goto l => exact ⟨_, a₁, w₁, hq, .pass (x := .inLoop c) rfl (fun _ _ => .inl (by simp)) harr⟩
 | ret => exact ⟨_, a₁, w₁, hq, .pass (x := .inLoop c) rfl (fun _ _ => .inl (by simp)) harr⟩
 | panic ch => exact ⟨_, a₁, w₁, hq, .pass (x := .inLoop c) rfl (fun _ _ => .inl (by simp)) harr⟩
 | outgrown => exact ⟨_, a₁, w₁, hq, .pass (x := .inLoop c) rfl (fun _ _ => .inl (by simp)) harr⟩
theorem InLoop.wp {P : Program} {c : Code} {Q : Exit -> Act -> World -> Prop} {a : Act} {w : World} (h : InLoop P c Q a w) : (Code.loop c).wp P Q a w := by
 intro b k cs;obtain ⟨e, a', w', hq, harr⟩ := h b k cs;exact ⟨e, a', w', hq, .of_steps (.one step_loop) harr⟩
def Yod (P : Program) (a : Code) (f : List AV -> Heap -> KX -> Prop) : Prop := ∀ tm hp K, f tm hp K -> ∃ x tm' hp', K x tm' hp' /\ BigT (fun Q ac w => InLoop P a Q ac w) tm hp x tm' hp'
def Y7a (c : Cx) : Prop := ∀ g k f body a, c.loopsOf g k = some f -> (c.P.funcs[g]?).bind (·.body) = some body -> a ∈ Y1 body -> Yg1 a = k -> Yod c.P a f
structure HandOkL (c : Cx) : Prop extends HandOkR c where
 loops : Y7a c
theorem Ynb {P : Program} {cd : Code} {body : List AV -> Heap -> KX -> Prop} (hb : ∀ tm hp K, body tm hp K -> ∃ x tm' hp', K x tm' hp' /\ BigT (fun Q a w => cd.wp P Q a w) tm hp x tm' hp') : ∀ (n : Nat) (tm : List AV) (hp : Heap) (K : KX), Y1k body n tm hp K ->
  ∃ x tm' hp', K x tm' hp' /\ BigT (fun Q a w => InLoop P cd Q a w) tm hp x tm' hp'
 | 0, tm, hp, K, h => h.elim
 | n + 1, tm, hp, K, h => by
  obtain ⟨x, tm1, hp1, h1, h2⟩ := hb _ _ _ h;have key : (∀ φ e, x.is φ e -> e ≠ .normal) -> K x tm1 hp1 -> ∃ x tm' hp', K x tm' hp' /\ BigT (fun Q a w => InLoop P cd Q a w) tm hp x tm' hp' := fun hx hk => by
   refine ⟨x, tm1, hp1, hk, fun φ0 φ w0 M R a w hr Q kk => InLoop.round (h2 φ0 φ w0 M R a w hr _ (fun φ' e a' w' he hr' => ?_))⟩;have hne := hx φ' e he;cases e <;> first | exact absurd rfl hne | exact kk φ' _ a' w' he hr'
  cases x with
  | norm =>
   obtain ⟨x2, tm2, hp2, h3, h4⟩ := Ynb hb n _ _ K h1;refine ⟨x2, tm2, hp2, h3, fun φ0 φ w0 M R a w hr Q kk => InLoop.round (h2 φ0 φ w0 M R a w hr _ (fun φ' e a' w' he hr' => ?_))⟩;cases he;exact h4 φ0 φ' w0 M R a' w' hr' Q kk
  | exit i => exact key (fun φ e he => by cases he; simp) h1
  | ret => exact key (fun φ e he => by cases he; simp) h1
  | pan v => exact key (fun φ e he => by cases he; simp) h1
def Ygb (c : Cx) (n : Nat) : Code -> List AV -> Heap -> KX -> Prop
 | .seq a b, tm, hp, K => Ygb c n a tm hp fun x tm hp => match x with | .norm => Ygb c n b tm hp K | x => K x tm hp
 | .region id ops draw, tm, hp, K => match draw, ops.toList.any fun o => (Yrx o).isSome with
  | false, true => Yyw n ops.toList tm hp fun tm hp => Yoy c ops.toList ops.toList tm hp K
  | draw, _ => Yc9 c n (.region id ops draw) tm hp K
 | .cond x a b, tm, hp, K => evK tm x fun v => match v with | .v (.bool t) => vcIf t (Ygb c n a tm hp K) (Ygb c n b tm hp K) | .sb t => Vif t (Ygb c n a tm hp K) (Ygb c n b tm hp K) | _ => Stuck 98
 | .block id a, tm, hp, K => Ygb c n a tm hp fun x tm hp => match x with | .exit i => (match Nat.beq i id with | true => K .norm tm hp | false => K (.exit i) tm hp) | x => K x tm hp
 | .rangeFunc g ps assign body, tm, hp, K => Y5i c n g ps assign body tm hp K
 | .loop a, tm, hp, K => match c.loopsOf c.fn (Yg1 a) with | some f => f tm hp K | none => Y1k (Ygb c n a) n tm hp K
 | .scope a, tm, hp, K => Ygb c n a tm hp K
 | cd, tm, hp, K => Yc9 c n cd tm hp K
theorem Yh4 {c : Cx} (hcL : HandOkL c) (hm : c.P.follows .mixedOrders = true) (n : Nat) {root : Code} (hroot : (c.P.funcs[c.fn]?).bind (·.body) = some root) : ∀ (cd : Code), Sub root cd -> ∀ (tm : List AV) (hp : Heap) (K : KX), Ygb c n cd tm hp K -> ∃ x tm' hp', K x tm' hp' /\ BigT (fun Q a w => cd.wp c.P Q a w) tm hp x tm' hp' := by
 have hcR' := hcL.toHandOkR;have plain : ∀ (cd : Code) (tm : List AV) (hp : Heap) (K : KX), Yc9 c n cd tm hp K -> ∃ x tm' hp', K x tm' hp' /\ BigT (fun Q a w => cd.wp c.P Q a w) tm hp x tm' hp' := fun cd tm hp K h => by
  obtain ⟨x, tm', hp', h1, h2⟩ := Y7 hcR' hm n cd tm hp K h;exact ⟨x, tm', hp', h1, (h2.mono fun Q a w hw => (wpIn_wide (n := 0)).1 (hw none)).top⟩
 have hcR := hcL.toHandOkR;have hc := hcR.toHandOk;intro cd
 induction cd with
 | seq a b iha ihb =>
  intro hsub tm hp K h;obtain ⟨x, tm1, hp1, h1, h2⟩ := iha hsub.seqL tm hp _ h;have key : (∀ φ e, x.is φ e -> e ≠ .normal) -> K x tm1 hp1 -> ∃ x tm' hp', K x tm' hp' /\ BigT (fun Q a' w => (Code.seq a b).wp c.P Q a' w) tm hp x tm' hp' := fun hx hk => by
   refine ⟨x, tm1, hp1, hk, fun φ0 φ w0 M R ac w hr Q kk => wp_seq (h2 φ0 φ w0 M R ac w hr _ fun φ' e a' w' he hr' => ?_)⟩;have hne := hx φ' e he;cases e <;> first | exact absurd rfl hne | exact kk φ' _ a' w' he hr'
  cases x with
  | norm =>
   obtain ⟨x2, tm2, hp2, h3, h4⟩ := ihb hsub.seqR tm1 hp1 K h1;refine ⟨x2, tm2, hp2, h3, fun φ0 φ w0 M R ac w hr Q kk => wp_seq (h2 φ0 φ w0 M R ac w hr _ fun φ' e a' w' he hr' => ?_)⟩;cases he;exact h4 φ0 φ' w0 M R a' w' hr' Q kk
  | exit i => exact key (fun φ e he => by cases he; simp) h1
  | ret => exact key (fun φ e he => by cases he; simp) h1
  | pan v => exact key (fun φ e he => by cases he; simp) h1
 | region id ops draw =>
  intro hsub tm hp K h;obtain ⟨l⟩ := ops;unfold Ygb at h
  split at h
  ·obtain ⟨tm1, hp1, h0, hpre⟩ := Yi4 h;obtain ⟨x, tm', hp', h1, h2⟩ := Yeq hc l tm1 hp1 K h0;refine ⟨x, tm', hp', h1, fun φ0 φ w0 M R a w hr Q kk => ?_⟩;obtain ⟨φ', hr'⟩ := hpre φ0 φ w0 M R a w hr;exact wp_region_lit (h2 φ0 φ' w0 M R a w hr' Q kk)
  ·exact plain _ tm hp K h
 | cond x a b iha ihb =>
  intro hsub tm hp K h;obtain ⟨v, hj, hx, h1⟩ := Yd h
  try dsimp only at h1
  split at h1
  ·rcases Ye7 h1 with ⟨rfl, h2⟩ | ⟨rfl, h2⟩
   ·obtain ⟨x', tm', hp', h3, h4⟩ := iha hsub.condL tm hp K h2;exact ⟨x', tm', hp', h3, fun φ0 φ w0 M R ac w hr Q kk => wp_cond_true (hr.tmps.ev hx (by simp)) (h4 φ0 φ w0 M R ac w hr Q kk)⟩
   ·obtain ⟨x', tm', hp', h3, h4⟩ := ihb hsub.condR tm hp K h2;exact ⟨x', tm', hp', h3, fun φ0 φ w0 M R ac w hr Q kk => wp_cond_false (hr.tmps.ev hx (by simp)) (h4 φ0 φ w0 M R ac w hr Q kk)⟩
  ·rcases Vif.spec h1 with ⟨rfl, h2⟩ | ⟨rfl, h2⟩
   ·obtain ⟨x', tm', hp', h3, h4⟩ := iha hsub.condL tm hp K h2;exact ⟨x', tm', hp', h3, fun φ0 φ w0 M R ac w hr Q kk => wp_cond_true (hr.tmps.ev hx (by simp)) (h4 φ0 φ w0 M R ac w hr Q kk)⟩
   ·obtain ⟨x', tm', hp', h3, h4⟩ := ihb hsub.condR tm hp K h2;exact ⟨x', tm', hp', h3, fun φ0 φ w0 M R ac w hr Q kk => wp_cond_false (hr.tmps.ev hx (by simp)) (h4 φ0 φ w0 M R ac w hr Q kk)⟩
  ·exact h1.elim
 | block id a iha =>
  intro hsub tm hp K h;obtain ⟨x, tm1, hp1, h1, h2⟩ := iha hsub.block tm hp _ h;cases x with
  | exit i =>
   cases hb : Nat.beq i id with
   | true =>
    simp only [hb] at h1;refine ⟨.norm, tm1, hp1, h1, fun φ0 φ w0 M R ac w hr Q kk => wp_block (h2 φ0 φ w0 M R ac w hr _ fun φ' e a' w' he hr' => ?_)⟩;cases he;simp only [Exit.inBlock, Ye.1 hb, if_true];exact kk φ' .normal a' w' rfl hr'
   | false =>
    simp only [hb] at h1;refine ⟨.exit i, tm1, hp1, h1, fun φ0 φ w0 M R ac w hr Q kk => wp_block (h2 φ0 φ w0 M R ac w hr _ fun φ' e a' w' he hr' => ?_)⟩;cases he;simp only [Exit.inBlock, Y4.1 hb, if_false];exact kk φ' _ a' w' rfl hr'
  | norm => exact ⟨.norm, tm1, hp1, h1, fun φ0 φ w0 M R ac w hr Q kk => wp_block (h2 φ0 φ w0 M R ac w hr _ fun φ' e a' w' he hr' => by cases he; exact kk φ' _ a' w' rfl hr')⟩
  | ret => exact ⟨.ret, tm1, hp1, h1, fun φ0 φ w0 M R ac w hr Q kk => wp_block (h2 φ0 φ w0 M R ac w hr _ fun φ' e a' w' he hr' => by cases he; exact kk φ' _ a' w' rfl hr')⟩
  | pan v => exact ⟨.pan v, tm1, hp1, h1, fun φ0 φ w0 M R ac w hr Q kk => wp_block (h2 φ0 φ w0 M R ac w hr _ fun φ' e a' w' he hr' => by cases he; exact kk φ' _ a' w' rfl hr')⟩
 | rangeFunc g ps assign body _ _ => intro _ tm hp K h; exact Yvv hc h
 | loop a iha =>
  intro hsub tm hp K h;unfold Ygb at h
  split at h
  ·rename_i f hf;obtain ⟨x, tm', hp', h1, h2⟩ := hcL.loops _ _ f root a hf hroot hsub.mem rfl tm hp K h;exact ⟨x, tm', hp', h1, fun φ0 φ w0 M R ac w hr Q kk => InLoop.wp (h2 φ0 φ w0 M R ac w hr Q kk)⟩
  ·obtain ⟨x, tm', hp', h1, h2⟩ := Ynb (fun tm hp K h => iha hsub.loop tm hp K h) n tm hp K h;exact ⟨x, tm', hp', h1, fun φ0 φ w0 M R ac w hr Q kk => InLoop.wp (h2 φ0 φ w0 M R ac w hr Q kk)⟩
 | scope a iha =>
  intro hsub tm hp K h;obtain ⟨x, tm', hp', h1, h2⟩ := iha hsub.scope tm hp K h;refine ⟨x, tm', hp', h1, fun φ0 φ w0 M R ac w hr Q kk => wp_scope_straight (h2 φ0 φ w0 M R ac w hr _ fun φ' e a' w' he hr' => ?_)⟩;have hg : ∀ l, e ≠ .goto l := fun l hl => by subst hl; cases x <;> cases he
  cases e <;> first | exact kk φ' _ a' w' he hr' | exact absurd rfl (hg _)
 | _ => intro _ tm hp K h; exact plain _ tm hp K h
inductive PS where
 | run
 | live (v : Value)
 | done (v : Value)
def PS.mode : PS -> FrameMode
 | .run => .returning
 | .live v => .panicking [{ v, recovered := false }]
 | .done v => .panicking [{ v, recovered := true }]
abbrev KS := AX -> List AV -> Heap -> PS -> Prop
def Y0r (o : Oper) : Bool :=
 match o.op with
 | .call { callee := .builtin .recover, args := ⟨[]⟩, .. } => true
 | _ => false
def Yly (c : Cx) (ol : List Oper) : List Oper -> List AV -> Heap -> PS -> KS -> Prop
 | [], tm, hp, ps, K => K .norm tm hp ps
 | o :: rest, tm, hp, ps, K => Yp9 ol o tm
   (match Y0r o with
    | true => (match ps with
     | .live v => putK tm o.dst (.v v) fun tm => Yly c ol rest tm hp (.done v) K
     | ps => putK tm o.dst (.v .nilIface) fun tm => Yly c ol rest tm hp ps K)
    | false => Yu4 c o tm hp (fun val hs us nw => Yo6 ol o val fun val => Yql o.dst tm hp val us nw fun tm hp => Yly c ol rest tm hp ps K) (fun _ _ _ _ => Stuck 75))
   (putK tm o.dst (.v undef) fun tm => Yly c ol rest tm hp ps K)
def BigS (P : Program) (W : (Exit -> Act -> List Frame -> World -> Prop) -> Act -> List Frame -> World -> Prop) (tm : List AV) (hp : Heap) (ps : PS) (x : AX) (tm' : List AV) (hp' : Heap) (ps' : PS) : Prop :=
 ∀ (c0 : Frame) (cs0 : List Frame) (φ0 φ : Phi) (w0 : World) (M : List Nat) (R : RL) (a : Act) (w : World), RepS φ0 φ w0 M R tm hp a w -> ∀ Q : Exit -> Act -> List Frame -> World -> Prop,
  (∀ φ' e a' w', x.is φ' e -> RepS φ0 φ' w0 M R tm' hp' a' w' -> a'.defers = a.defers -> Q e a' ({ c0 with mode := ps'.mode } :: cs0) w') -> W Q a ({ c0 with mode := ps.mode } :: cs0) w
theorem Yla {P : Program} {o : Oper} {a : Act} {K : Act -> World -> Prop} {Q : Exit -> Act -> World -> Prop} {w : World} (h : o.wp P a w K Q) : ∀ w', (execOp a.eval o).run P w ≠ .ok .recover w' := fun w' e => by
 unfold Oper.wp at h;rw [e] at h;exact h
theorem Yer {c : Cx} {ops : Array Oper} (hc : HandOk c) : ∀ (l : List Oper) (k : Nat) (hl : ∀ j, l[j]? = ops[k + j]?) (tm : List AV) (hp : Heap) (ps : PS) (K : KS), Yly c ops.toList l tm hp ps K ->
  ∃ x tm' hp' ps', K x tm' hp' ps' /\ BigS c.P (fun Q a cs w => wpOpsS c.P ops Q (List.range' k l.length) a cs w) tm hp ps x tm' hp' ps'
 | [], k, hl, tm, hp, ps, K, h => ⟨.norm, tm, hp, ps, h, fun c0 cs0 φ0 φ w0 M R a w hr Q kk => kk φ .normal a w rfl hr rfl⟩
 | o :: rest, k, hl, tm, hp, ps, K, h => by
  have ho : ops[k]? = some o := by have := hl 0; simpa using this.symm
  have hl' : ∀ j, rest[j]? = ops[k + 1 + j]? := fun j => by have := hl (j + 1); rw [show k + 1 + j = k + (j + 1) by omega, <- this]; simp
  have hrange : List.range' k (o :: rest).length = k :: List.range' (k + 1) rest.length := by simp [List.range'_succ]
  rcases Yf5 h with ⟨hw, h1⟩ | ⟨hw, h1⟩
  ·split at h1
   ·rename_i hrec;have hop : ∀ (a : Act) (w : World), (execOp a.eval o).run c.P w = .ok .recover w := fun a w => by
     unfold Y0r at hrec
     split at hrec
     ·rename_i hop;simp only [execOp, hop, resolve, invoke, builtin, Sem.run_bind, Sem.run_pure, Result.andThen_ok]
     ·cases hrec
    have step : ∀ (v : Value) (ps1 : PS), (∀ (c0 : Frame) (cs0 : List Frame), recoverD ({ c0 with mode := ps.mode } :: cs0) = some (v, { c0 with mode := ps1.mode } :: cs0) \/ (recoverD ({ c0 with mode := ps.mode } :: cs0) = none /\ v = .nilIface /\ ps1 = ps)) ->
      putK tm o.dst (.v v) (fun tm => Yly c ops.toList rest tm hp ps1 K) -> ∃ x tm' hp' ps', K x tm' hp' ps' /\ BigS c.P (fun Q a cs w => wpOpsS c.P ops Q (List.range' k (o :: rest).length) a cs w) tm hp ps x tm' hp' ps' := by
     intro v ps1 hrc hput;obtain ⟨x, tm', hp', ps', h4, h5⟩ := Yer hc rest (k + 1) hl' _ hp ps1 K (Yec hput);refine ⟨x, tm', hp', ps', h4, fun c0 cs0 φ0 φ w0 M R a w hr Q kk => ?_⟩;have hwa := hw.at hr.tmps;rw [Array.toArray_toList] at hwa
     show wpOpsS c.P ops Q (List.range' k (o :: rest).length) a _ w
     rw [hrange];unfold wpOpsS;simp only [ho, hwa, if_true, hop a w];have hr2 : RepS φ0 φ w0 M R (putA tm o.dst (.v v)) hp (a.put o.dst v) w := ⟨hr.tmps.put o.dst (.v v), hr.st, hr.nd, hr.base⟩;rcases hrc c0 cs0 with e | ⟨e, e2, e3⟩
     ·simp only [e];exact h5 c0 cs0 φ0 φ w0 M R _ w hr2 Q fun φ' e a' w' h6 h7 h8 => kk φ' e a' w' h6 h7 (by rw [h8, Ybt])
     ·subst e2 e3;simp only [e];exact h5 c0 cs0 φ0 φ w0 M R _ w hr2 Q fun φ' e a' w' h6 h7 h8 => kk φ' e a' w' h6 h7 (by rw [h8, Ybt])
    cases ps with
    | live v => exact step v (.done v) (fun c0 cs0 => .inl rfl) h1
    | run => exact step .nilIface .run (fun c0 cs0 => .inr ⟨rfl, rfl, rfl⟩) h1
    | done v => exact step .nilIface (.done v) (fun c0 cs0 => .inr ⟨rfl, rfl, rfl⟩) h1
   ·rcases Yh6 hc h1 with ⟨val, hs, us, nw, h2, hpart, hu, hd⟩ | ⟨val, hs, us, nw, h2, _⟩
    ·obtain ⟨val', h2, he⟩ := Yfu h2
     replace hd := hd.same he
     obtain ⟨hB, h3⟩ := Yen h2;obtain ⟨x, tm', hp', ps', h4, h5⟩ := Yer hc rest (k + 1) hl' _ _ ps K h3;refine ⟨x, tm', hp', ps', h4, fun c0 cs0 φ0 φ w0 M R a w hr Q kk => ?_⟩;have hwa := hw.at hr.tmps;rw [Array.toArray_toList] at hwa
     show wpOpsS c.P ops Q (List.range' k (o :: rest).length) a _ w
     rw [hrange];unfold wpOpsS;simp only [ho, hwa, if_true];have hwp : o.wp c.P a w (fun a' w' => wpOpsS c.P ops Q (List.range' (k + 1) rest.length) a' ({ c0 with mode := ps.mode } :: cs0) w') (fun e a' w' => Q e a' ({ c0 with mode := ps.mode } :: cs0) w') :=
      Yqf hd hpart hu hB hr fun φ' w' hr' => h5 c0 cs0 φ0 φ' w0 M R _ w' hr' Q fun φ2 e a' w2 h6 h7 h8 => kk φ2 e a' w2 h6 h7 (by rw [h8, Ybt])
     have hnr := Yla hwp;unfold Oper.wp at hwp;generalize (execOp a.eval o).run c.P w = r at hwp hnr ⊢;cases r with
     | halt x w' => exact hwp
     | ok nx w' => cases nx <;> first | exact absurd rfl (hnr _) | exact hwp
    ·exact h2.elim
  ·have h2 := Yec h1;obtain ⟨x, tm', hp', ps', h4, h5⟩ := Yer hc rest (k + 1) hl' _ hp ps K h2;refine ⟨x, tm', hp', ps', h4, fun c0 cs0 φ0 φ w0 M R a w hr Q kk => ?_⟩;have hwa := hw.at hr.tmps;rw [Array.toArray_toList] at hwa
   show wpOpsS c.P ops Q (List.range' k (o :: rest).length) a _ w
   rw [hrange];unfold wpOpsS;simp only [ho, hwa, Bool.false_eq_true, if_false];exact h5 c0 cs0 φ0 φ w0 M R _ w (hr.skip o.dst) Q fun φ2 e a' w2 h6 h7 h8 => kk φ2 e a' w2 h6 h7 (by rw [h8, Ybt])
end Go.Proofs.YtladoaeefkpdiaaGreatDoor
namespace Go.Proofs.YtladoaeefkpdiaaGreatDoor
open Go.RowKit
variable [InW]
attribute [local irreducible] Go.Oper.wp
def vcS (c : Cx) (n : Nat) : Code -> List AV -> Heap -> PS -> KS -> Prop
 | .skip, tm, hp, ps, K => K .norm tm hp ps
 | .seq a b, tm, hp, ps, K => vcS c n a tm hp ps fun x tm hp ps => match x with | .norm => vcS c n b tm hp ps K | x => K x tm hp ps
 | .cond x a b, tm, hp, ps, K => evK tm x fun v => match v with | .v (.bool t) => vcIf t (vcS c n a tm hp ps K) (vcS c n b tm hp ps K) | _ => Stuck 76
 | .region id ops draw, tm, hp, ps, K => match draw, ops.toList.any Y0r with
  | false, true => Yyw n ops.toList tm hp fun tm hp => Yly c ops.toList ops.toList tm hp ps K
  | draw, _ => Yc9 c n (.region id ops draw) tm hp fun x tm hp => K x tm hp ps
 | cd, tm, hp, ps, K => Yc9 c n cd tm hp fun x tm hp => K x tm hp ps
theorem Yzu {c : Cx} (hcR : HandOkR c) (hm : c.P.follows .mixedOrders = true) (n : Nat) : ∀ (cd : Code) (tm : List AV) (hp : Heap) (ps : PS) (K : KS), vcS c n cd tm hp ps K -> ∃ x tm' hp' ps', K x tm' hp' ps' /\ BigS c.P (fun Q a cs w => cd.wpS c.P Q a cs w) tm hp ps x tm' hp' ps' := by
 have plain : ∀ (cd : Code) (tm : List AV) (hp : Heap) (ps : PS) (K : KS), Yc9 c n cd tm hp (fun x tm hp => K x tm hp ps) -> ∃ x tm' hp' ps', K x tm' hp' ps' /\ BigS c.P (fun Q a cs w => cd.wpS c.P Q a cs w) tm hp ps x tm' hp' ps' := fun cd tm hp ps K h => by
  obtain ⟨x, tm', hp', h1, h2⟩ := Y7 hcR hm n cd tm hp _ h;exact ⟨x, tm', hp', ps, h1, fun c0 cs0 φ0 φ w0 M R a w hr Q kk => wpS_of_wp ((wpIn_wide (n := 0)).1 (h2 φ0 φ w0 M R a w hr _ (fun φ' e a' w' h3 h4 h5 => kk φ' e a' w' h3 h4 h5) none))⟩
 have hc := hcR.toHandOk;intro cd
 induction cd with
 | skip =>
  intro tm hp ps K h;exact ⟨.norm, tm, hp, ps, h, fun c0 cs0 φ0 φ w0 M R a w hr Q kk => wpS_of_wp (wp_skip (kk φ _ a w rfl hr rfl))⟩
 | seq a b iha ihb =>
  intro tm hp ps K h;obtain ⟨x, tm1, hp1, ps1, h1, h2⟩ := iha tm hp ps _ h;have key : (∀ φ e, x.is φ e -> e ≠ .normal) -> K x tm1 hp1 ps1 -> ∃ x tm' hp' ps', K x tm' hp' ps' /\ BigS c.P (fun Q a' cs w => (Code.seq a b).wpS c.P Q a' cs w) tm hp ps x tm' hp' ps' := fun hx hk => by
   refine ⟨x, tm1, hp1, ps1, hk, fun c0 cs0 φ0 φ w0 M R ac w hr Q kk => wpS_seq (h2 c0 cs0 φ0 φ w0 M R ac w hr _ fun φ' e a' w' he hr' hd => ?_)⟩;have hne := hx φ' e he;cases e <;> first | exact absurd rfl hne | exact kk φ' _ a' w' he hr' hd
  cases x with
  | norm =>
   obtain ⟨x2, tm2, hp2, ps2, h3, h4⟩ := ihb tm1 hp1 ps1 K h1;refine ⟨x2, tm2, hp2, ps2, h3, fun c0 cs0 φ0 φ w0 M R ac w hr Q kk => wpS_seq (h2 c0 cs0 φ0 φ w0 M R ac w hr _ fun φ' e a' w' he hr' hd => ?_)⟩;cases he;exact h4 c0 cs0 φ0 φ' w0 M R a' w' hr' Q fun φ2 e a2 w2 he2 hr2 hd2 => kk φ2 e a2 w2 he2 hr2 (hd2.trans hd)
  | exit i => exact key (fun φ e he => by cases he; simp) h1
  | ret => exact key (fun φ e he => by cases he; simp) h1
  | pan v => exact key (fun φ e he => by cases he; simp) h1
 | cond x a b iha ihb =>
  intro tm hp ps K h;obtain ⟨v, hj, hx, h1⟩ := Yd h
  try dsimp only at h1
  split at h1
  ·rcases Ye7 h1 with ⟨rfl, h2⟩ | ⟨rfl, h2⟩
   ·obtain ⟨x', tm', hp', ps', h3, h4⟩ := iha tm hp ps K h2;exact ⟨x', tm', hp', ps', h3, fun c0 cs0 φ0 φ w0 M R ac w hr Q kk => wpS_cond (hr.tmps.ev hx (by simp)) (h4 c0 cs0 φ0 φ w0 M R ac w hr Q kk)⟩
   ·obtain ⟨x', tm', hp', ps', h3, h4⟩ := ihb tm hp ps K h2;exact ⟨x', tm', hp', ps', h3, fun c0 cs0 φ0 φ w0 M R ac w hr Q kk => wpS_cond (hr.tmps.ev hx (by simp)) (h4 c0 cs0 φ0 φ w0 M R ac w hr Q kk)⟩
  ·exact h1.elim
 | region id ops draw =>
  intro tm hp ps K h;unfold vcS at h
  split at h
  ·obtain ⟨tm1, hp1, h0, hpre⟩ := Yi4 h;obtain ⟨x, tm', hp', ps', h1, h2⟩ := Yer (ops := ops) hc ops.toList 0 (fun j => by simp) tm1 hp1 ps K h0;refine ⟨x, tm', hp', ps', h1, fun c0 cs0 φ0 φ w0 M R a w hr Q kk => ?_⟩;obtain ⟨φ', hr'⟩ := hpre φ0 φ w0 M R a w hr;have := h2 c0 cs0 φ0 φ' w0 M R a w hr' Q kk;refine wpS_region ?_;rw [List.range_eq_range'];simpa using this
  ·exact plain _ tm hp ps K h
 | _ => intro tm hp ps K h; exact plain _ tm hp ps K h
def Yee : List AV -> Bool
 | [] => true
 | x :: xs => match x with | .held _ => false | _ => Yee xs
theorem Ygx : ∀ {xs : List AV}, Yee xs = true -> Ybf xs = [] /\ ∀ (t : Nat) (v : AV), xs[t]? = some v -> v.isHeld = false
 | [], _ => ⟨rfl, by simp⟩
 | x :: xs, h => by
  unfold Yee at h
  split at h
  ·cases h
  ·rename_i hh;have hx : x.isHeld = false := by cases x <;> first | rfl | (exfalso; exact hh _ rfl)
   obtain ⟨a, b⟩ := Ygx h;refine ⟨by rw [Y5, a]; cases x <;> simp_all [AV.isHeld], fun t v hv => ?_⟩;cases t with
   | zero => simp only [List.getElem?_cons_zero, Option.some.injEq] at hv; rw [<- hv, hx]
   | succ t => exact b t v (by simpa using hv)
theorem Ykj : ∀ (a b : List AV), Ybf (a ++ b) = Ybf a ++ Ybf b
 | [], b => rfl
 | x :: a, b => by rw [List.cons_append, Y5, Y5, Ykj a b, List.append_assoc]
theorem Yg6 : ∀ n : Nat, Ybf (List.replicate n (.v undef)) = []
 | 0 => rfl
 | n + 1 => by rw [List.replicate_succ, Y5, Yg6 n]; rfl
theorem Yo5 {args : List AV} (h : Yee args = true) (n : Nat) : Ybf (AV.renL rIn args ++ List.replicate n (.v undef)) = [] /\ ∀ (t : Nat) (v : AV), (AV.renL rIn args ++ List.replicate n (.v undef))[t]? = some v -> v.isHeld = false := by
 obtain ⟨a, b⟩ := Ygx h;refine ⟨by rw [Ykj, Yki, a, Yg6]; rfl, fun t v hv => ?_⟩;rw [List.getElem?_append] at hv
 split at hv
 ·rw [Yiz, Option.map_eq_some_iff] at hv;obtain ⟨u, hu, rfl⟩ := hv;rw [Yra]; exact b t u hu
 ·rw [List.getElem?_replicate] at hv
  split at hv
  ·cases hv; rfl
  ·cases hv
theorem Ynr {args : List AV} {hs : Heap} (hnoh : Yee args = true) (hnd : (keys hs).Nodup) (m : Nat) (φ : Phi) (w0 : World) (M : List Nat) (R : RL) (w : World) (hS : St w0 M (Yb φ hs ++ R) w) :
  RepS φ (fun i => if i % 3 = 1 then φ (i / 3) else ⟨0, false, 0, none, 0, undef, fun _ => False⟩) w0 M R (AV.renL rIn args ++ List.replicate (m - (AV.renL rIn args).length) (.v undef)) (renH rIn hs)
   { tmps := (AV.concL φ args).toArray ++ Array.replicate (m - (AV.concL φ args).toArray.size) undef, defers := [] } w := by
 have hin : ∀ i, (fun i => if i % 3 = 1 then φ (i / 3) else (⟨0, false, 0, none, 0, undef, fun _ => False⟩ : Hd)) (rIn i) = φ i := fun i => by
  have h1 : (3 * i + 1) % 3 = 1 := by omega
  have h2 : (3 * i + 1) / 3 = i := by omega
  simp only [rIn, h1, h2, if_true]
 have ea := Ycj (p := fun _ => true) (ρ := rIn) (φ := φ) (φ' := fun i => if i % 3 = 1 then φ (i / 3) else (⟨0, false, 0, none, 0, undef, fun _ => False⟩ : Hd)) (fun i _ => hin i) args (Yej args);have hl : (AV.renL rIn args).length = args.length := by
  have := congrArg List.length ea;simpa [Yg] using this
 have hnh : ∀ (t : Nat) (v : AV), (AV.renL rIn args ++ List.replicate (m - (AV.renL rIn args).length) (.v undef))[t]? = some v -> v.isHeld = false -> t < ((AV.concL φ args).toArray ++ Array.replicate (m - (AV.concL φ args).toArray.size) undef).size := fun t v hv _ => by
  have := (List.getElem?_eq_some_iff.1 hv).1;simpa [Yg, hl] using this
 refine ⟨⟨hnh, fun t v hv hh => ?_, fun t v hv hj => ?_, ?_, by simp [Yg, hl]⟩, ?_, ?_, fun x => ?_⟩
 ·rw [(Yo5 hnoh _).2 t v hv] at hh; cases hh
 ·rw [Array.getElem?_append, List.getElem?_append] at *;simp only [List.size_toArray, Yg, hl] at hv ⊢
  split
  ·rename_i hlt;rw [if_pos hlt] at hv;have := Yck (fun i => if i % 3 = 1 then φ (i / 3) else (⟨0, false, 0, none, 0, undef, fun _ => False⟩ : Hd)) (AV.renL rIn args) t;rw [ea, hv] at this;simpa using this
  ·rename_i hge;rw [if_neg hge] at hv;rw [List.getElem?_replicate] at hv
   split at hv
   ·rename_i hlt;cases hv;rw [Array.getElem?_replicate, if_pos hlt];rfl
   ·cases hv
 ·rw [(Yo5 hnoh _).1]; rfl
 ·have e : Yb (fun i => if i % 3 = 1 then φ (i / 3) else (⟨0, false, 0, none, 0, undef, fun _ => False⟩ : Hd)) (renH rIn hs) = Yb φ hs := by
   unfold Yb renH;rw [List.map_map];refine List.map_congr_left fun q _ => ?_;exact Yp5 (p := fun _ => true) (φ := φ) (φ' := fun i => if i % 3 = 1 then φ (i / 3) else (⟨0, false, 0, none, 0, undef, fun _ => False⟩ : Hd)) (ρ := rIn) (fun i _ => hin i) (hin q.1) q.2 (Ynj q.2)
  rw [e];exact hS
 ·rw [Yt0]; exact Ytn hnd
 ·exact hin x
def defK (c : Cx) (n : Nat) (g : FuncId) (args : List AV) (hp : Heap) (ps : PS) (k : PS -> Heap -> Heap -> Heap -> Prop) : Prop :=
 match c.P.funcs[g]? with
 | none => Stuck 77
 | some fn => match fn.body with
  | none => Stuck 78
  | some cd => Yc (Yee args) (Ygn (fun _ => true) hp n (AV.leadL args []) [] fun hs => Yib rIn args fun args' => Yvu rIn hs fun hp0 => padK args' fn.ntmps fun tm0 =>
   vcS c n cd tm0 hp0 ps fun x tm hpF ps' => match x with
    | .norm => Yex c.tt tm hpF fn.results.toList fun vs => Yk4 n 1022 hs (.v undef) hpF fun _ hs us nw => k ps' hs us nw
    | .ret => Yex c.tt tm hpF fn.results.toList fun vs => Yk4 n 1022 hs (.v undef) hpF fun _ hs us nw => k ps' hs us nw
    | _ => Stuck 79)
def ADef (P : Program) (g : FuncId) (args : List AV) (hs : Heap) (ps ps' : PS) (us nw : Heap) : Prop :=
 ∀ (φ : Phi) (w0 : World) (M : List Nat) (R : RL) (w : World), NewFor (keys nw) args hs -> St w0 M (Yb φ hs ++ R) w ->
  CallsD P g (AV.concL φ args).toArray ps.mode w fun e um w' => um = ps'.mode /\ (∃ v, e = .returned v) /\ ∃ φ', Agree (keys nw) φ φ' /\ St w0 M (Yb φ' (Yh hs us ++ nw) ++ R) w'
theorem Y15 {c : Cx} (hc : HandOkR c) (hm : c.P.follows .mixedOrders = true) {n : Nat} {g : FuncId} {args : List AV} {hp : Heap} {ps : PS} {k : PS -> Heap -> Heap -> Heap -> Prop} (h : defK c n g args hp ps k) :
  ∃ ps' hs us nw, k ps' hs us nw /\ PartOf hs hp /\ (∀ i ∈ keys us, i ∈ keys hs) /\ ADef c.P g args hs ps ps' us nw := by
 unfold defK at h
 split at h
 ·exact h.elim
 ·rename_i fn hf
  split at h
  ·exact h.elim
  ·rename_i cd hb;obtain ⟨hnoh, h⟩ := Ya h;obtain ⟨hs, hpart, _, h1⟩ := Yb2 (PartOf.nil hp) (by simp [keys]) h;have h2 := Yi7 (Ygm.1 ((Ycp _ _ _).1 h1));obtain ⟨x, tm', hpF, ps', h3, h4⟩ := Yzu hc hm n cd _ _ _ _ h2;have fin : (x = .norm \/ x = .ret) -> Yex c.tt tm' hpF fn.results.toList (fun vs => Yk4 n 1022 hs (.v undef) hpF fun _ hs us nw => k ps' hs us nw) -> ∃ ps' hs us nw, k ps' hs us nw /\ PartOf hs hp /\ (∀ i ∈ keys us, i ∈ keys hs) /\ ADef c.P g args hs ps ps' us nw := by
    intro hx hr;obtain ⟨vs, h5, h6, h7⟩ := Ydt hc.tab hr;obtain ⟨v', us, nw, h8, h9, h10⟩ := Ykg hpart.nd h5;refine ⟨ps', hs, us, nw, h8, hpart, h9, fun φ w0 M R w hnew hS => ?_⟩;refine callsD_of_wpS hf hb fun c₀ cs hu => ?_;have hc0 : c₀ = { c₀ with mode := ps.mode } := by rw [<- hu]
    rw [hc0];refine h4 c₀ cs φ _ w0 M R _ w (Ynr hnoh hpart.nd fn.ntmps φ w0 M R w hS) _ fun φ' e a' w' hxe hr2 hd => ?_;have hrun := Yia h6 (h7 φ φ' w0 M R a' w' hr2);obtain ⟨φ2, hag, _, hS2⟩ := h10 φ φ' w0 M R w' (fun i hi => (hnew i hi).2) hr2.nd hr2.base hr2.st;rcases hx with rfl | rfl <;> cases hxe <;> exact ⟨hd, ps'.mode, rfl, _, hrun, rfl, ⟨_, rfl⟩, φ2, hag, hS2⟩
   cases x with
   | norm => exact fin (.inl rfl) h3
   | ret => exact fin (.inr rfl) h3
   | exit i => exact h3.elim
   | pan v => exact h3.elim
def Ye5 (P : Program) (fn : Func) (tmps : Array Value) (R : Ending -> World -> Prop) : List Deferred -> FrameMode -> World -> Prop
  | [], u, w => Leaves P fn tmps R [] u w
  | d :: ds, u, w => u ≠ .run /\
      ((∃ r w', d.target = .collected r /\ (Instr.takeDeferred r).run P w = .ok [] w' /\ Ye5 P fn tmps R ds u w') \/
       (∃ fv cap f args, d.target = .fn fv cap /\ (invoke d.target d.args).run P w = .ok (.enter f args) w /\ CallsD P f args u w fun
          | .returned _, u', w' => Ye5 P fn tmps R ds (settle u') w'
          | .panicked chain, u', w' => Ye5 P fn tmps R ds (raised u' chain) w'
          | .outgrown, _, w' => R .outgrown w'))
theorem Yf1 {P : Program} {fn : Func} {tmps : Array Value} {R : Ending -> World -> Prop} : ∀ (ds : List Deferred) (u : FrameMode) (w : World) (fr : Frame) (cs : List Frame), fr.mode = u -> fr.defers = ds -> fr.tmps = tmps -> P.funcs[fr.fn]? = some fn -> fr.kind = .normal -> Ye5 P fn tmps R ds u w ->
  ∃ e w' fr', R e w' /\ Comes P (lone fr cs w) (lone fr' cs w') e /\ fr'.fn = fr.fn /\ fr'.leaving P w' e := by
 intro ds
 induction ds with
 | nil =>
  intro u w fr cs hu hd ht hf hk h;exact leaves_steps [] u w fr cs hu hd ht hf hk h
 | cons d ds ih =>
  intro u w fr cs hu hd ht hf hk h;obtain ⟨hrun, h⟩ := h;rcases h with ⟨r, w', htar, htake, hrest⟩ | ⟨fv, cap, f, args, htar, hinv, hcall⟩
  ·have h1 := step_collected (cs := cs) (hu ▸ hrun) hd htar htake;obtain ⟨e', w'', fr', hR', hs', hfn', hl'⟩ := ih u w' { fr with defers := [] ++ ds } cs hu rfl ht hf hk hrest;exact ⟨e', w'', fr', hR', Comes.of_steps (.one h1) hs', hfn', hl'⟩
  ·have h1 := step_defer (cs := cs) (hu ▸ hrun) hd htar hinv;obtain ⟨e, u', w', frX, hR, hsteps, hkX, hgo⟩ := hcall { fr with defers := ds } cs hu;cases e with
   | returned v =>
    have h2 := step_going_returned (c := { { fr with defers := ds } with mode := u' }) (cs := cs) hkX hgo;obtain ⟨e', w'', fr', hR', hs', hfn', hl'⟩ := ih (settle u') w' { { { fr with defers := ds } with mode := u' } with mode := settle u' } cs rfl rfl ht hf hk hR;exact ⟨e', w'', fr', hR', Comes.of_steps (.head h1 (Steps.trans hsteps (.one h2))) hs', hfn', hl'⟩
   | panicked chain =>
    have h2 := step_going_panicked (c := { { fr with defers := ds } with mode := u' }) (cs := cs) hgo;obtain ⟨e', w'', fr', hR', hs', hfn', hl'⟩ := ih (raised u' chain) w' { { { fr with defers := ds } with mode := u' } with mode := raised u' chain } cs rfl rfl ht hf hk hR;exact ⟨e', w'', fr', hR', Comes.of_steps (.head h1 (Steps.trans hsteps (.one h2))) hs', hfn', hl'⟩
   | outgrown => exact ⟨.outgrown, w', fr, hR, Outgrown.of_steps (.one h1) hsteps, rfl, trivial⟩
def Yn3 (P : Program) (fn : Func) (R : Ending -> World -> Prop) : Exit -> Act -> World -> Prop
 | .normal, a, w | .ret, a, w => Ye5 P fn a.tmps R a.defers .returning w
 | .panic chain, a, w => Ye5 P fn a.tmps R a.defers (.panicking chain) w
 | .outgrown, _, w => R .outgrown w
 | _, _, _ => False
theorem Yfn {P : Program} {f : FuncId} {fn : Func} {c : Code} {args : Array Value} {w : World} {R : Ending -> World -> Prop} (hf : P.funcs[f]? = some fn) (hb : fn.body = some c)
  (h : c.wp P (Yn3 P fn R) { tmps := args ++ Array.replicate (fn.ntmps - args.size) undef, defers := [] } w) : Calls P f args w R := by
 intro cs
 let b : Frame := { (default : Frame) with fn := f, kind := .normal }
 have henter : Frame.enter P f args .normal = b.at { tmps := args ++ Array.replicate (fn.ntmps - args.size) undef, defers := [] } [.code c] := by
  simp [Frame.enter, Frame.at, hf, hb, b]
 obtain ⟨e, a', w', hq, harr⟩ := h b [] cs;rw [<- henter] at harr;cases e with
 | normal =>
  obtain ⟨e', w'', fr', hR, hs, hfn, hl⟩ := Yf1 a'.defers .returning w' { b.at a' [] with mode := .returning } cs rfl rfl rfl hf rfl hq;exact ⟨e', w'', fr', hR, Comes.of_steps (Steps.trans harr (.one step_end)) hs, hfn, hl⟩
 | ret =>
  obtain ⟨todo, hs₀⟩ := harr;obtain ⟨e', w'', fr', hR, hs, hfn, hl⟩ := Yf1 a'.defers .returning w' { b.at a' todo with mode := .returning } cs rfl rfl rfl hf rfl hq;exact ⟨e', w'', fr', hR, Comes.of_steps hs₀ hs, hfn, hl⟩
 | panic chain =>
  obtain ⟨todo, hs₀⟩ := harr;obtain ⟨e', w'', fr', hR, hs, hfn, hl⟩ := Yf1 a'.defers (.panicking chain) w' { b.at a' todo with mode := .panicking chain } cs rfl rfl rfl hf rfl hq;exact ⟨e', w'', fr', hR, Comes.of_steps hs₀ hs, hfn, hl⟩
 | exit id => exact hq.elim
 | goto l => exact hq.elim
 | outgrown => exact ⟨.outgrown, w', b, hq, harr.resolve_left (by simp [b]), rfl, trivial⟩
def PS.settle : PS -> PS
 | .done _ => .run
 | ps => ps
theorem Yvm (ps : PS) : Go.settle ps.mode = ps.settle.mode := by cases ps <;> rfl
def Y7x (f : AV) (K : Nat -> Prop) (K' : Prop) : Prop := match f with | .mp i => K i | _ => K'
def dfbK (it : It) (K : Prop) : Prop := match it with | .obj (.dfb true) => K | _ => Stuck 94
theorem Y14 {it : It} {K : Prop} (h : dfbK it K) : it = .obj (.dfb true) /\ K := by
 unfold dfbK at h
 split at h
 ·exact ⟨rfl, h⟩
 ·exact h.elim
def Yj1 (c : Cx) (n : Nat) (tm : List AV) : List AV -> PS -> Heap -> (PS -> Heap -> Prop) -> Prop
 | [], ps, hp, K => K ps hp
 | f :: fs, ps, hp, K => Y7x f (fun i => Yu hp i fun it => dfbK it (updK hp i (.obj (.dfb false)) fun hp => Yj1 c n tm fs ps hp K)) (funK f fun g a b => Yc (Yf8 c.P g) (appK a b fun args => defK c n g args hp ps fun ps' hs us nw =>
   Yc (Yri nw tm hp) (Yge hp us fun hp => Yf3 hp nw fun hp => Yj1 c n tm fs ps'.settle hp K)))
theorem Yev {c : Cx} (hc : HandOkR c) (hm : c.P.follows .mixedOrders = true) {n : Nat} {tm : List AV} : ∀ (fs : List AV) (ps : PS) (hp : Heap) (K : PS -> Heap -> Prop), (∀ f ∈ fs, AV.held f ∈ tm) -> Yj1 c n tm fs ps hp K ->
  ∃ ps' hp', K ps' hp' /\ ∀ (φ0 φ : Phi) (w0 : World) (M : List Nat) (R : RL) (a : Act) (w : World), RepS φ0 φ w0 M R tm hp a w -> ∀ (fn : Func) (Rp : Ending -> World -> Prop),
   (∀ φ' w', RepS φ0 φ' w0 M R tm hp' a w' -> Leaves c.P fn a.tmps Rp [] ps'.mode w') -> Ye5 c.P fn a.tmps Rp (fs.map (Ye4 φ)) ps.mode w
 | [], ps, hp, K, _, h => ⟨ps, hp, h, fun φ0 φ w0 M R a w hr fn Rp kk => kk φ w hr⟩
 | f :: fs, ps, hp, K, hmem, h => by
  unfold Yj1 Y7x at h
  split at h
  ·rename_i i;obtain ⟨it, k1, k2⟩ := Yf h;obtain ⟨rfl, k3⟩ := Y14 k2;obtain ⟨ps', hp', h7, h8⟩ := Yev hc hm fs _ _ K (fun f hf => hmem f (List.mem_cons_of_mem _ hf)) (Yeu.1 k3);refine ⟨ps', hp', h7, fun φ0 φ w0 M R ac w hr fn Rp kk => ?_⟩;have hne : ps.mode ≠ .run := by cases ps <;> simp [PS.mode]
   obtain ⟨hb, hr2⟩ := hr.turn k1 (b := (φ i).b) (o := .deferred (some [])) (o' := .deferred none) (it' := .obj (.dfb false)) rfl rfl;rw [List.map_cons];exact ⟨hne, .inl ⟨(φ i).b, _, rfl, run_takeDeferred hb, h8 φ0 φ w0 M R ac _ hr2 fn Rp kk⟩⟩
  obtain ⟨g, a, b, h1, h2, h3⟩ := Yjl h;obtain ⟨hok, h4⟩ := Ya h1;obtain ⟨ps1, hs, us, nw, h5, hpart, hu, hA⟩ := Y15 hc hm (Yct.1 h4);obtain ⟨hB, h6⟩ := Ya h5;obtain ⟨ps', hp', h7, h8⟩ := Yev hc hm fs _ _ K (fun f hf => hmem f (List.mem_cons_of_mem _ hf)) (Ycw.1 (Yda.1 h6));have hB' := Ydg hB;refine ⟨ps', hp', h7, fun φ0 φ w0 M R ac w hr fn Rp kk => ?_⟩;have e1 : Ye4 φ f = { target := .fn (.func g) (AV.concL φ b).toArray, args := (AV.concL φ a).toArray } := by unfold Ye4; rw [h2 φ]
  have hne : ps.mode ≠ .run := by cases ps <;> simp [PS.mode]
  have hi : (invoke (.fn (.func g) (AV.concL φ b).toArray) (AV.concL φ a).toArray).run c.P w = .ok (.enter g (AV.concL φ (a ++ b)).toArray) w := by
   rw [Ybz];simp only [invoke, Ygl hok];simp
  rw [List.map_cons, e1];refine ⟨hne, .inr ⟨_, _, _, _, rfl, hi, ?_⟩⟩;have hS : St w0 M (Yb φ hs ++ (Yb φ (Yb0 hs hp) ++ R)) w := by
   have := hr.st.perm ((Yv (hpart.perm hr.nd)).append (List.Perm.refl R));rwa [Yn, List.append_assoc] at this
  have hnew : NewFor (keys nw) (a ++ b) hs := fun i hi => by
   have hh := h3 i (by have := Yjk (hB'.1 i hi).1 (hmem f List.mem_cons_self); simpa [AV.has] using this);refine ⟨by rw [Yo, List.any_append, <- Yo, <- Yo, hh.1, hh.2]; rfl, Ye1 fun p hp' => Yx (hB'.1 i hi).2 (Yba (hpart.all p hp'))⟩
  refine CallsD.mono (hA φ w0 M _ w hnew hS) fun e um w' ⟨hum, ⟨v, hv⟩, φ', hag, hS'⟩ => ?_;subst hv hum;have hr2 := hr.new_heap hpart hu hB' hag hS' none (.v undef);have := h8 φ0 φ' w0 M R ac w' hr2 fn Rp kk;have e2 : fs.map (Ye4 φ') = fs.map (Ye4 φ) := List.map_congr_left fun f' hf' => by
   unfold Ye4;rw [Yfl hag f' fun i hi => by have := Yjk (hB'.1 i hi).1 (hmem f' (List.mem_cons_of_mem _ hf')); simpa [AV.has] using this]
  rw [e2] at this
  show Ye5 c.P fn ac.tmps Rp (fs.map (Ye4 φ)) (Go.settle ps1.mode) w'
  rw [Yvm];exact this
end Go.Proofs.YtladoaeefkpdiaaGreatDoor
namespace Go.Proofs.YtladoaeefkpdiaaGreatDoor
open Go.RowKit
variable [InW]
attribute [local irreducible] Go.Oper.wp
def Y5h (L : LI) : Bool := match L.st with | .ready => true | _ => false
def Yjp (n d i : Nat) (hs : Heap) (j : Option Code) (b : Bool) (st : LoopState) (hp : Heap) (k : KE) : Prop :=
 Yu hp (rIn i) fun it => Yts it fun L cs => updK hp (rIn i) (.lp { L with st := st, pend := j } cs) fun hp => Yk4 n d hs (.v (.bool b)) hp k
def Y0o (c : Cx) (n : Nat) (L : LI) (i : Nat) (args : List AV) (hp : Heap) (d : Nat) (k : KE) : Prop :=
 Yc (Yee args) (Ygn (fun _ => true) hp n (i :: AV.leadL args []) [] fun hs => Yu hs i fun _ => Yib rIn args fun tm0 => Yvu rIn hs fun hp0 =>
  Yc9 c n L.assign tm0 hp0 fun x tm hp => match x with
   | .norm => Yu hp (rIn i) fun it => Yts it fun L1 cs => Yc (Y5h L1) (updK hp (rIn i) (.lp { L1 with st := .busy } cs) fun hp =>
     Yc9 c n L.body tm hp fun x tm hp => match x with
      | .norm => Yjp n d i hs none true .ready hp k
      | .ret => Yjp n d i hs (some .ret) false .done hp k
      | .exit id => Yjp n d i hs (some (.exit id)) false .done hp k
      | .pan _ => Stuck 100)
   | _ => Stuck 99)
theorem Yvs {c : Cx} (hc : HandOkR c) (hm : c.P.follows .mixedOrders = true) {n : Nat} {L : LI} {i : Nat} {args : List AV} {hp : Heap} {d : Nat} {k : KE} (h : Y0o c n L i args hp d k) :
  ∃ val hs us nw, k val hs us nw /\ PartOf hs hp /\ (∀ i ∈ keys us, i ∈ keys hs) /\ i ∈ keys hs /\ Yx4 c.P L i args hs val us nw := by
 obtain ⟨hnoh, h⟩ := Ya h;obtain ⟨hs, hpart, _, h1⟩ := Yb2 (PartOf.nil hp) (by simp [keys]) h;obtain ⟨it0, hit0, h1⟩ := Yf h1;have h2 := Ygm.1 ((Ycp _ _ _).1 h1);obtain ⟨x1, tm1, hp1, h3, hA⟩ := Y7 hc hm n L.assign _ _ _ h2;have hx1 : x1 = .norm := by cases x1 <;> first | rfl | exact h3.elim
 subst hx1;dsimp only at h3;obtain ⟨it1, l1, h4⟩ := Yf h3;obtain ⟨L1, cs1, rfl, h5⟩ := Yih h4;obtain ⟨hrd, h6⟩ := Ya h5;obtain ⟨x2, tm2, hp2, h7, hBd⟩ := Y7 hc hm n L.body _ _ _ (Yeu.1 h6);have hready : L1.st = .ready := by
  unfold Y5h at hrd
  split at hrd
  ·assumption
  ·cases hrd
 have fin : ∀ (j : Option Code) (b : Bool) (st : LoopState), b = j.isNone -> st = (if j.isNone then .ready else .done) -> Yjp n d i hs j b st hp2 k ->
   (∀ (φ : Phi) (e : Exit) (l : Nat) (a : Act) (w : World) (R : Ending -> World -> Prop), x2.is φ e -> (∃ v w', (Instr.endRound l j).run c.P w = .ok v w' /\ R (.returned v) w') -> roundPost c.P l R e a w) ->
   ∃ val hs us nw, k val hs us nw /\ PartOf hs hp /\ (∀ i ∈ keys us, i ∈ keys hs) /\ i ∈ keys hs /\ Yx4 c.P L i args hs val us nw := by
  intro j b st hb hst hend hpost;obtain ⟨it2, l2, e1⟩ := Yf hend;obtain ⟨L2, cs2, rfl, e2⟩ := Yih e1;obtain ⟨v', us, nw, e3, e4, e5⟩ := Ykg hpart.nd (Yeu.1 e2);refine ⟨v', hs, us, nw, e3, hpart, e4, Ycs hit0, fun φ w0 M R w hnew hS => ?_⟩;have hr0 := Ynr hnoh hpart.nd 0 φ w0 M R w hS;generalize hφ0 : (fun i => if i % 3 = 1 then φ (i / 3) else (⟨0, false, 0, none, 0, undef, fun _ => False⟩ : Hd)) = φ0 at hr0;simp only [Nat.zero_sub, Array.replicate_zero, Array.append_empty, List.replicate_zero, List.append_nil] at hr0;have hin : ∀ ψ : Phi, (∀ x, ψ (3 * x + 1) = φ x) -> ψ (rIn i) = φ i := fun ψ hψ => hψ i;refine roundIn_of_wpIn (F := Fence.wide) trivial ?_;refine hA φ φ0 w0 M R _ w hr0 _ (fun φ1 e a1 w1 he hr1 hd1 => ?_) (some (φ i).b);cases he;have b1 := hin φ1 hr1.base;obtain ⟨hb1, hr2⟩ := hr1.turn l1 (b := (φ i).b) (o := L1.obj (φ i).fn (AV.concL φ1 cs1)) (o' := ({ L1 with st := .busy } : LI).obj (φ i).fn (AV.concL φ1 cs1)) (it' := .lp { L1 with st := .busy } cs1) (by simp [It.conc, b1]) (by simp [It.conc, b1]);refine ⟨_, run_beginRound hb1 hready, ?_⟩;refine hBd φ φ1 w0 M R a1 _ hr2 _ (fun φ2 e a2 w2 he2 hr3 hd2 => ?_) (some (φ i).b);refine hpost φ2 e _ a2 w2 _ he2 ?_;have b2 := hin φ2 hr3.base;obtain ⟨hb2, hr4⟩ := hr3.turn l2 (b := (φ i).b) (o := L2.obj (φ i).fn (AV.concL φ2 cs2)) (o' := ({ L2 with st := st, pend := j } : LI).obj (φ i).fn (AV.concL φ2 cs2)) (it' := .lp { L2 with st := st, pend := j } cs2) (by simp [It.conc, b2]) (by simp [It.conc, b2]);have hrun := run_endRound (P := c.P) j hb2;rw [<- hst, <- hb] at hrun;refine ⟨_, _, hrun, ?_⟩;obtain ⟨φ3, hag, hv, hS3⟩ := e5 φ φ2 w0 M R _ (fun i hi => (hnew i hi).2) hr4.nd hr4.base hr4.st;exact ⟨φ3, hag, by rw [hv]; rfl, hS3⟩
 cases x2 with
 | norm => exact fin none true .ready rfl rfl h7 fun φ e l a w R he hx => by cases he; exact hx
 | ret => exact fin (some .ret) false .done rfl rfl h7 fun φ e l a w R he hx => by cases he; exact hx
 | exit id => exact fin (some (.exit id)) false .done rfl rfl h7 fun φ e l a w R he hx => by cases he; exact hx
 | pan v => exact h7.elim
end Go.Proofs.YtladoaeefkpdiaaGreatDoor
namespace Go.Proofs.YtladoaeefkpdiaaGreatDoor
open Go.RowKit
variable [InW]
attribute [local irreducible] Go.Oper.wp
def revK : List AV -> List AV -> (List AV -> Prop) -> Prop
 | [], acc, K => K acc
 | x :: xs, acc, K => revK xs (x :: acc) K
theorem Yq8 : ∀ {xs acc : List AV} {K : List AV -> Prop}, revK xs acc K ↔ K (xs.reverse ++ acc)
 | [], acc, K => Iff.rfl
 | x :: xs, acc, K => by simp [revK, Yq8 (xs := xs)]
def endK (c : Cx) (n d : Nat) (fn : Func) (hs : Heap) (tm : List AV) (hp : Heap) (ps : PS) (k kp : KE) : Prop :=
 revK (Ybf tm) [] fun fs => Yj1 c n tm fs ps hp fun ps hp => match ps with
  | .run => Yex c.tt tm hp fn.results.toList fun vs => Yk4 n d hs (outA vs) hp k
  | .live v => Yk4 n d hs (.v v) hp kp
  | .done _ => Stuck 80
def Yzs (c : Cx) (n : Nat) (g : FuncId) (args : List AV) (hp : Heap) (d : Nat) (k kp : KE) : Prop :=
 match c.P.funcs[g]? with
 | none => Stuck 51
 | some fn => match fn.body with
  | none => Stuck 52
  | some cd => Yc (Yee args) (Ygn (fun _ => true) hp n (AV.leadL args []) [] fun hs => Yib rIn args fun args' => Yvu rIn hs fun hp0 => padK args' fn.ntmps fun tm0 =>
   Ygb { c with fn := g } n cd tm0 hp0 fun x tm hpF => match x with
    | .norm => endK c n d fn hs tm hpF .run k kp
    | .ret => endK c n d fn hs tm hpF .run k kp
    | .pan (.v v) => endK c n d fn hs tm hpF (.live v) k kp
    | _ => Stuck 53)
def Ywy (c : Cx) (g : FuncId) (args : List AV) (hp : Heap) (k kp : KE) : Prop :=
 (∃ val hs us nw, k val hs us nw /\ PartOf hs hp /\ (∀ i ∈ keys us, i ∈ keys hs) /\ ACall c.P g args hs false val us nw) \/
 (∃ val hs us nw, kp val hs us nw /\ PartOf hs hp /\ (∀ i ∈ keys us, i ∈ keys hs) /\ ACall c.P g args hs true val us nw)
theorem HandOkL.at {c : Cx} (hc : HandOkL c) (g : FuncId) : HandOkL { c with fn := g } := ⟨⟨⟨hc.tab, hc.call, hc.sym⟩, hc.round⟩, hc.loops⟩
theorem Yqj {c : Cx} (hcL : HandOkL c) (hm : c.P.follows .mixedOrders = true) {n : Nat} {g : FuncId} {args : List AV} {hp : Heap} {d : Nat} {k kp : KE} (h : Yzs c n g args hp d k kp) : Ywy c g args hp k kp := by
 have hc := hcL.toHandOkR;unfold Yzs at h
 split at h
 ·exact h.elim
 ·rename_i fn hf
  split at h
  ·exact h.elim
  ·rename_i cd hb;obtain ⟨hnoh, h⟩ := Ya h;obtain ⟨hs, hpart, _, h1⟩ := Yb2 (PartOf.nil hp) (by simp [keys]) h;have h2 := Yi7 (Ygm.1 ((Ycp _ _ _).1 h1));obtain ⟨x, tm', hpF, h3, h4⟩ := Yh4 (hcL.at g) hm n (root := cd) (by show (c.P.funcs[g]?).bind (·.body) = some cd; rw [hf]; exact hb) cd .refl _ _ _ h2;have fin : ∀ (ps : PS), (∀ (φ : Phi) (e : Exit), x.is φ e -> ∀ (P : Program) (R : Ending -> World -> Prop) (a : Act) (w : World), Ye5 P fn a.tmps R a.defers ps.mode w -> Yn3 P fn R e a w) ->
     endK c n d fn hs tm' hpF ps k kp -> Ywy c g args hp k kp := by
    intro ps hexit hend;have hrev := Yq8.1 hend;rw [List.append_nil] at hrev;obtain ⟨ps', hp', h5, h6⟩ := Yev hc hm _ _ _ _ (fun f hf' => Yfh (by simpa using hf')) hrev;have go : ∀ (v : AV) (kx : KE) (pan : Bool), Yk4 n d hs v hp' kx ->
      (∀ (φ0 φ : Phi) (w0 : World) (M : List Nat) (R : RL) (a : Act) (w : World) (Rp : Ending -> World -> Prop), RepS φ0 φ w0 M R tm' hp' a w -> Rp (Yuy pan (v.conc φ)) w -> Leaves c.P fn a.tmps Rp [] ps'.mode w) ->
      ∃ val us nw, kx val hs us nw /\ (∀ i ∈ keys us, i ∈ keys hs) /\ ACall c.P g args hs pan val us nw := by
     intro v kx pan hlv hpost;obtain ⟨v', us, nw, h7, h8, h9⟩ := Ykg hpart.nd hlv;refine ⟨v', us, nw, h7, h8, fun φ w0 M R w hnew hS => ?_⟩;refine Yfn hf hb ?_;refine h4 φ _ w0 M R _ w (Ynr hnoh hpart.nd fn.ntmps φ w0 M R w hS) _ fun φ' e a' w' hx hr => ?_;refine hexit φ' e hx c.P _ a' w' ?_;rw [hr.tmps.df, <- List.map_reverse];refine h6 φ φ' w0 M R a' w' hr fn _ fun φ1 w1 hr1 => ?_;refine hpost φ φ1 w0 M R a' w1 _ hr1 ?_;obtain ⟨φ2, hag, hv, hS2⟩ := h9 φ φ1 w0 M R w1 (fun i hi => (hnew i hi).2) hr1.nd hr1.base hr1.st;exact ⟨φ2, hag, by rw [hv], hS2⟩
    cases ps' with
    | run =>
     obtain ⟨vs, h7, h8, h9⟩ := Ydt hc.tab h5;obtain ⟨val, us, nw, a1, a2, a3⟩ := go (outA vs) k false h7 fun φ0 φ w0 M R a w Rp hr hR => ⟨_, Yia h8 (h9 φ0 φ w0 M R a w hr), hR⟩;exact .inl ⟨val, hs, us, nw, a1, hpart, a2, a3⟩
    | live v =>
     obtain ⟨val, us, nw, a1, a2, a3⟩ := go (.v v) kp true h5 fun φ0 φ w0 M R a w Rp hr hR => hR;exact .inr ⟨val, hs, us, nw, a1, hpart, a2, a3⟩
    | done v => exact h5.elim
   cases x with
   | norm => exact fin .run (fun φ e he P R a w hl => by cases he; exact hl) h3
   | ret => exact fin .run (fun φ e he P R a w hl => by cases he; exact hl) h3
   | pan v =>
    cases v <;> first | exact h3.elim | skip
    rename_i v;exact fin (.live v) (fun φ e he P R a w hl => by cases he; exact hl) h3
   | exit i => exact h3.elim
end Go.Proofs.YtladoaeefkpdiaaGreatDoor
namespace Go.Proofs.YtladoaeefkpdiaaGreatDoor
open Go.RowKit
variable [InW]
attribute [local irreducible] Go.Oper.wp
inductive AT where
 | one (t : Ty)
 | agg (ts : List Ty)
abbrev DS := List (List Cl)
def Yu1 (t : Ty) (x : AV) (c : Cl) : Prop :=
 match t with
 | .int k => ∃ n, x = .si k n /\ c = .i n
 | .bool => ∃ b, x = .sb b /\ c = .b b
 | .str => ∃ s, x = .ss s /\ c = .s s
 | .sl ts => ∃ r : Ro ts, x = .rs ts r /\ c = .l r.xs
def Yof : List Ty -> List AV -> List Cl -> Prop
 | [], xs, cs => xs = [] /\ cs = []
 | t :: ts, xs, cs => ∃ x xs' c cs', xs = x :: xs' /\ cs = c :: cs' /\ Yu1 t x c /\ Yof ts xs' cs'
def Y7c (a : AT) (x : AV) (d : List Cl) : Prop :=
 match a with
 | .one t => ∃ c, d = [c] /\ Yu1 t x c
 | .agg ts => ∃ xs, x = .agg xs /\ Yof ts xs d
def Yqo : List AT -> List AV -> DS -> Prop
 | [], xs, ds => xs = [] /\ ds = []
 | a :: ats, xs, ds => ∃ x xs' d ds', xs = x :: xs' /\ ds = d :: ds' /\ Y7c a x d /\ Yqo ats xs' ds'
def ArgRd (a : AT) (v : Value) (d : List Cl) : Prop :=
 match a with
 | .one t => ∃ c, d = [c] /\ RdV t v c /\ Yn0 t c
 | .agg ts => ∃ us : List Value, v = .agg us.toArray /\ us.length = ts.length /\ d.length = ts.length /\ ∀ (k : Nat) (t : Ty) (u : Value) (c : Cl), ts[k]? = some t -> us[k]? = some u -> d[k]? = some c -> RdV t u c /\ Yn0 t c
theorem Yuu {t : Ty} {v : Value} {c : Cl} (h : RdV t v c) (hz : Yn0 t c) : ∃ x : AV, Yu1 t x c /\ ∀ φ, x.conc φ = v := by
 cases t with
 | int k => obtain ⟨n, rfl⟩ := hz; exact ⟨.si k n, ⟨n, rfl, rfl⟩, fun φ => h.isInt.symm⟩
 | bool => obtain ⟨b, rfl⟩ := hz; exact ⟨.sb b, ⟨b, rfl, rfl⟩, fun φ => h.isBool.symm⟩
 | str => obtain ⟨s, rfl⟩ := hz; exact ⟨.ss s, ⟨s, rfl, rfl⟩, fun φ => h.isStr.symm⟩
 | sl ts => obtain ⟨xs, rfl⟩ := hz; exact ⟨.rs ts ⟨(v, xs), h⟩, ⟨_, rfl, rfl⟩, fun φ => rfl⟩
theorem Yqh : ∀ {ts : List Ty} {us : List Value} {d : List Cl}, us.length = ts.length -> d.length = ts.length -> (∀ (k : Nat) (t : Ty) (u : Value) (c : Cl), ts[k]? = some t -> us[k]? = some u -> d[k]? = some c -> RdV t u c /\ Yn0 t c) -> ∃ xs : List AV, Yof ts xs d /\ ∀ φ, AV.concL φ xs = us
 | [], us, d, h1, h2, _ => by
  have e1 : us = [] := List.length_eq_zero_iff.1 h1;have e2 : d = [] := List.length_eq_zero_iff.1 h2;subst e1; subst e2;exact ⟨[], ⟨rfl, rfl⟩, fun φ => rfl⟩
 | t :: ts, u :: us, c :: d, h1, h2, h => by
  obtain ⟨x, hx, hxc⟩ := Yuu (h 0 t u c rfl rfl rfl).1 (h 0 t u c rfl rfl rfl).2;obtain ⟨xs, hxs, hxsc⟩ := Yqh (by simpa using h1) (by simpa using h2) fun k t u c a b e => h (k + 1) t u c (by simpa using a) (by simpa using b) (by simpa using e);exact ⟨x :: xs, ⟨_, _, _, _, rfl, rfl, hx, hxs⟩, fun φ => by simp [AV.concL, hxc φ, hxsc φ]⟩
 | t :: ts, [], d, h1, _, _ => by simp at h1
 | t :: ts, u :: us, [], _, h2, _ => by simp at h2
theorem Y49 {a : AT} {v : Value} {d : List Cl} (h : ArgRd a v d) : ∃ x : AV, Y7c a x d /\ ∀ φ, x.conc φ = v := by
 cases a with
 | one t =>
  obtain ⟨c, rfl, h1, h2⟩ := h;obtain ⟨x, hx, hc⟩ := Yuu h1 h2;exact ⟨x, ⟨c, rfl, hx⟩, hc⟩
 | agg ts =>
  obtain ⟨us, rfl, h1, h2, h3⟩ := h;obtain ⟨xs, hx, hc⟩ := Yqh h1 h2 h3;exact ⟨.agg xs, ⟨xs, rfl, hx⟩, fun φ => by simp [AV.conc, hc φ]⟩
def Yx3 : List AT -> List Value -> DS -> Prop
 | [], vs, ds => vs = [] /\ ds = []
 | a :: ats, vs, ds => ∃ v vs' d ds', vs = v :: vs' /\ ds = d :: ds' /\ ArgRd a v d /\ Yx3 ats vs' ds'
theorem Yn9 : ∀ {ats : List AT} {vs : List Value} {ds : DS}, Yx3 ats vs ds -> ∃ xs : List AV, Yqo ats xs ds /\ ∀ φ, AV.concL φ xs = vs
 | [], _, _, ⟨rfl, rfl⟩ => ⟨[], ⟨rfl, rfl⟩, fun φ => rfl⟩
 | a :: ats, _, _, ⟨v, vs, d, ds, rfl, rfl, h1, h2⟩ => by
  obtain ⟨x, hx, hc⟩ := Y49 h1;obtain ⟨xs, hxs, hcs⟩ := Yn9 h2;exact ⟨x :: xs, ⟨_, _, _, _, rfl, rfl, hx, hxs⟩, fun φ => by simp [AV.concL, hc φ, hcs φ]⟩
theorem Yqi {t : Ty} {x : AV} {c : Cl} (h : Yu1 t x c) (i : Nat) : x.has i = false := by
 cases t <;> (obtain ⟨_, rfl, _⟩ := h; rfl)
theorem Yny : ∀ {ts : List Ty} {xs : List AV} {cs : List Cl}, Yof ts xs cs -> ∀ i, AV.hasL i xs = false
 | [], _, _, ⟨rfl, rfl⟩, i => rfl
 | _ :: _, _, _, ⟨x, xs, c, cs, rfl, rfl, h1, h2⟩, i => by simp [AV.hasL, Yqi h1 i, Yny h2 i]
theorem Ykv : ∀ {ats : List AT} {xs : List AV} (ds : DS), Yqo ats xs ds -> ∀ i, AV.hasL i xs = false
 | [], _, _, ⟨rfl, rfl⟩, i => rfl
 | a :: ats, _, _, ⟨x, xs, d, ds, rfl, rfl, h1, h2⟩, i => by
  have hx : x.has i = false := by
   cases a with
   | one t => obtain ⟨c, _, h⟩ := h1; exact Yqi h i
   | agg ts => obtain ⟨ys, rfl, h⟩ := h1; simpa [AV.has] using Yny h i
  simp [AV.hasL, hx, Ykv ds h2 i]
inductive RTy where
 | int (k : IntKind)
 | bool
 | str
 | row (T : Nat) (ts : List Ty)
 | nst (T : Nat) (ts : List Ty)
 | fro (ts : List Ty)
abbrev RTs := List (Bool × List RTy)
def RTy.av (d j : Nat) (t : RTy) (c : Cl) : AV := match t with | .int k => .si k c.int | .bool => .sb c.bool | .str => .ss c.str | .row _ _ => .rw (Yca d j) | .nst _ _ => .rw (Yca d j) | .fro _ => .opq (Yca d j)
def RTy.hp (d j : Nat) (t : RTy) (c : Cl) : Heap := match t with | .row T ts => [(Yca d j, .arr T ts c.lst)] | .nst T ts => [(Yca d j, .nst T ts c.lst)] | .fro ts => [(Yca d j, .fro ts c.lst)] | _ => []
def Ydl (d : Nat) : Nat -> List RTy -> List Cl -> List AV
 | _, [], _ => []
 | j, t :: ts, cs => t.av d j (cs.headD .z) :: Ydl d (j + 1) ts cs.tail
def Ybn (d : Nat) : Nat -> List RTy -> List Cl -> Heap
 | _, [], _ => []
 | j, t :: ts, cs => t.hp d j (cs.headD .z) ++ Ybn d (j + 1) ts cs.tail
def Y02 : List AV -> AV
 | [x] => x
 | _ => .junk
def Ymz (d : Nat) : Nat -> RTs -> DS -> List AV
 | _, [], _ => []
 | j, (g, ts) :: rs, ds => (match g with | true => .agg (Ydl d j ts (ds.headD [])) | false => Y02 (Ydl d j ts (ds.headD []))) :: Ymz d (j + ts.length) rs ds.tail
def Ydu (d : Nat) : Nat -> RTs -> DS -> Heap
 | _, [], _ => []
 | j, (_, ts) :: rs, ds => Ybn d j ts (ds.headD []) ++ Ydu d (j + ts.length) rs ds.tail
def Y0p (d : Nat) (rs : RTs) (ds : DS) : AV := outA (Ymz d 0 rs ds)
end Go.Proofs.YtladoaeefkpdiaaGreatDoor
namespace Go.Proofs.YtladoaeefkpdiaaGreatDoor
open Go.RowKit
attribute [local irreducible] Go.Oper.wp
inductive Pre (p : Prop) (A : Prop) : Prop where
 | mk (h : p) (a : A)
def PureOk (P : Program) (g : FuncId) (ats : List AT) (rs : RTs) (pre : DS -> Prop) (res : DS -> DS) : Prop :=
 ∀ (W : InW) (args : List (@AV W)) (ds : DS), @Yqo W ats args ds -> pre ds -> ∀ d, d < 1024 -> @ACall W P g args [] false (@Y0p W d rs (res ds)) [] (@Ydu W d 0 rs (res ds))
structure PC (P : Program) where
 g : FuncId
 ats : List AT
 rs : RTs
 pre : DS -> Prop
 res : DS -> DS
 ok : PureOk P g ats rs pre res
section
variable [W : InW]
end
end Go.Proofs.YtladoaeefkpdiaaGreatDoor
namespace Go.Proofs.YtladoaeefkpdiaaGreatDoor
open Go.RowKit
attribute [local irreducible] Go.Oper.wp
section
variable [W : InW]
theorem ArgRd.grow {w : World} {F F' : Nat -> Prop} {a : AT} {v : Value} {d : List Cl} (h : @ArgRd (atF w F) a v d) (hF : ∀ b, F b -> F' b) : @ArgRd (atF w F') a v d := by
 cases a with
 | one t =>
  obtain ⟨c, h1, h2, h3⟩ := h;exact ⟨c, h1, RdV.grow h2 (fun b h1 h2 => ⟨h1, hF b h2⟩) fun _ _ _ => rfl, h3⟩
 | agg ts =>
  obtain ⟨us, h1, h2, h3, h4⟩ := h;exact ⟨us, h1, h2, h3, fun k t u c a b e => ⟨RdV.grow (h4 k t u c a b e).1 (fun b h1 h2 => ⟨h1, hF b h2⟩) fun _ _ _ => rfl, (h4 k t u c a b e).2⟩⟩
def Yjq : List Ty -> List AV -> Heap -> Heap -> (Heap -> List Cl -> Prop) -> Prop
 | [], [], hp, hs, K => K hs []
 | t :: ts, x :: xs, hp, hs, K => Yuj 4 t x hp hs fun hs c => Yjq ts xs hp hs fun hs cs => K hs (c :: cs)
 | _, _, _, _, _ => Stuck 407
def Ywm (a : AT) (x : AV) (hp hs : Heap) (K : Heap -> List Cl -> Prop) : Prop :=
 match a with
 | .one t => Yuj 4 t x hp hs fun hs c => K hs [c]
 | .agg ts => (match x with | .agg xs => Yjq ts xs hp hs K | .v (.agg cs) => Yrj cs.toList fun xs => Yjq ts xs hp hs K | _ => Stuck 408)
def Yry : List AT -> List AV -> Heap -> Heap -> (Heap -> DS -> Prop) -> Prop
 | [], [], hp, hs, K => K hs []
 | a :: ats, x :: xs, hp, hs, K => Ywm a x hp hs fun hs d => Yry ats xs hp hs fun hs ds => K hs (d :: ds)
 | _, _, _, _, _ => Stuck 409
def At' (hs : Heap) (φ : Phi) (w0 : World) (M : List Nat) (L : RL) (w : World) : Prop := St w0 M L w /\ ∀ p ∈ hs, p.2.conc φ p.1 ∈ L
theorem At'.mono {hs hs' : Heap} {φ : Phi} {w0 w : World} {M : List Nat} {L : RL} (h : At' hs' φ w0 M L w) (hh : ∀ p ∈ hs, p ∈ hs') : At' hs φ w0 M L w := ⟨h.1, fun p hp => h.2 p (hh p hp)⟩
theorem Ye3 : ∀ {ts : List Ty} {xs : List AV} {hp hs : Heap} {K : Heap -> List Cl -> Prop}, Yjq ts xs hp hs K -> PartOf hs hp -> ∃ hs' cs, K hs' cs /\ PartOf hs' hp /\ (∀ p ∈ hs, p ∈ hs') /\ xs.length = ts.length /\ cs.length = ts.length /\
  ∀ (φ : Phi) (w0 : World) (M : List Nat) (L : RL) (w : World), At' hs' φ w0 M L w -> ∀ (k : Nat) (t : Ty) (u : Value) (c : Cl), ts[k]? = some t -> (AV.concL φ xs)[k]? = some u -> cs[k]? = some c -> @RdV (atF w (InB φ hs')) t u c /\ Yn0 t c
 | [], [], hp, hs, K, h, hpart => ⟨hs, [], h, hpart, fun p hp => hp, rfl, rfl, fun φ w0 M L w _ k t u c e => by simp at e⟩
 | t :: ts, x :: xs, hp, hs, K, h, hpart => by
  obtain ⟨hs1, c, h1, h2, h3, h4, h5⟩ := Yd9 4 _ _ _ _ _ h hpart;obtain ⟨hs2, cs, k1, k2, k3, k4, k5, k6⟩ := Ye3 h1 h2;refine ⟨hs2, c :: cs, k1, k2, fun p hp => k3 p (h3 p hp), by simp [k4], by simp [k5], fun φ w0 M L w hA k t' u c' e1 e2 e3 => ?_⟩;cases k with
  | zero =>
   simp only [List.getElem?_cons_zero, Option.some.injEq, AV.concL] at e1 e2 e3;subst e1; subst e2; subst e3;exact ⟨h5.mono k3 φ w0 M L w hA.1 fun p hp => hA.2 p hp, h4⟩
  | succ k => exact k6 φ w0 M L w hA k t' u c' (by simpa using e1) (by simpa [AV.concL] using e2) (by simpa using e3)
 | [], _ :: _, _, _, _, h, _ => h.elim
 | _ :: _, [], _, _, _, h, _ => h.elim
theorem Yuk {a : AT} {x : AV} {hp hs : Heap} {K : Heap -> List Cl -> Prop} (h : Ywm a x hp hs K) (hpart : PartOf hs hp) : ∃ hs' d, K hs' d /\ PartOf hs' hp /\ (∀ p ∈ hs, p ∈ hs') /\
  ∀ (φ : Phi) (w0 : World) (M : List Nat) (L : RL) (w : World), At' hs' φ w0 M L w -> @ArgRd (atF w (InB φ hs')) a (x.conc φ) d := by
 unfold Ywm at h
 split at h
 ·obtain ⟨hs1, c, h1, h2, h3, h4, h5⟩ := Yd9 4 _ _ _ _ _ h hpart;exact ⟨hs1, _, h1, h2, h3, fun φ w0 M L w hA => ⟨c, rfl, h5 φ w0 M L w hA.1 hA.2, h4⟩⟩
 ·split at h
  ·obtain ⟨hs2, cs, k1, k2, k3, k4, k5, k6⟩ := Ye3 h hpart;exact ⟨hs2, cs, k1, k2, k3, fun φ w0 M L w hA => ⟨_, rfl, by rw [Yg, k4], k5, k6 φ w0 M L w hA⟩⟩
  ·obtain ⟨hs2, cs, k1, k2, k3, k4, k5, k6⟩ := Ye3 (Yeg.1 h) hpart;refine ⟨hs2, cs, k1, k2, k3, fun φ w0 M L w hA => ⟨_, ?_, by rw [Yg, k4], k5, k6 φ w0 M L w hA⟩⟩;simp [AV.conc, Yw, Function.comp_def]
  ·exact h.elim
theorem Yjr : ∀ {ats : List AT} {xs : List AV} {hp hs : Heap} {K : Heap -> DS -> Prop}, Yry ats xs hp hs K -> PartOf hs hp -> ∃ hs' ds, K hs' ds /\ PartOf hs' hp /\ (∀ p ∈ hs, p ∈ hs') /\
  ∀ (φ : Phi) (w0 : World) (M : List Nat) (L : RL) (w : World), At' hs' φ w0 M L w -> @Yx3 (atF w (InB φ hs')) ats (AV.concL φ xs) ds
 | [], [], hp, hs, K, h, hpart => ⟨hs, [], h, hpart, fun p hp => hp, fun φ w0 M L w _ => ⟨rfl, rfl⟩⟩
 | a :: ats, x :: xs, hp, hs, K, h, hpart => by
  obtain ⟨hs1, d, h1, h2, h3, h4⟩ := Yuk h hpart;obtain ⟨hs2, ds, k1, k2, k3, k4⟩ := Yjr h1 h2;exact ⟨hs2, d :: ds, k1, k2, fun p hp => k3 p (h3 p hp), fun φ w0 M L w hA => ⟨_, _, _, _, rfl, rfl, (h4 φ w0 M L w (hA.mono k3)).grow (fun b hb => hb.mono k3), k4 φ w0 M L w hA⟩⟩
 | [], _ :: _, _, _, _, h, _ => h.elim
 | _ :: _, [], _, _, _, h, _ => h.elim
end
theorem Yvt (W1 W2 : InW) (φ : Phi) (d : Nat) : ∀ (rs : RTs) (j : Nat) (ds : DS), @AV.concL W1 φ (@Ymz W1 d j rs ds) = @AV.concL W2 φ (@Ymz W2 d j rs ds) := by
 have cells : ∀ (ts : List RTy) (j : Nat) (cs : List Cl), @AV.concL W1 φ (@Ydl W1 d j ts cs) = @AV.concL W2 φ (@Ydl W2 d j ts cs) := by
  intro ts
  induction ts with
  | nil => intro j cs; rfl
  | cons t ts ih =>
   intro j cs;simp only [Ydl, AV.concL, ih (j + 1) cs.tail];cases t <;> rfl
 have one : ∀ (ts : List RTy) (j : Nat) (cs : List Cl), @AV.conc W1 φ (@Y02 W1 (@Ydl W1 d j ts cs)) = @AV.conc W2 φ (@Y02 W2 (@Ydl W2 d j ts cs)) := by
  intro ts j cs;have := cells ts j cs
  match ts with
  | [] => rfl
  | [t] => cases t <;> rfl
  | _ :: _ :: _ => rfl
 intro rs
 induction rs with
 | nil => intro j ds; rfl
 | cons r rs ih =>
  intro j ds;obtain ⟨g, ts⟩ := r;simp only [Ymz, AV.concL, ih (j + ts.length) ds.tail, List.cons.injEq, and_true];cases g with
  | true => simp only [AV.conc, cells ts j (ds.headD [])]
  | false => exact one ts j (ds.headD [])
theorem Y0z (W1 W2 : InW) (φ : Phi) (xs : List (@AV W1)) (ys : List (@AV W2)) (h : @AV.concL W1 φ xs = @AV.concL W2 φ ys) : @AV.conc W1 φ (@outA W1 xs) = @AV.conc W2 φ (@outA W2 ys) := by
 match xs, ys with
 | [], [] => rfl
 | [x], [y] =>
  show @AV.conc W1 φ x = @AV.conc W2 φ y
  simpa [AV.concL] using h
 | _ :: _ :: _, _ :: _ :: _ => simp only [outA, AV.conc, h]
 | [], _ :: _ => simp [AV.concL] at h
 | _ :: _, [] => simp [AV.concL] at h
 | [_], _ :: _ :: _ => simp [AV.concL] at h
 | _ :: _ :: _, [_] => simp [AV.concL] at h
theorem Yyq (W1 W2 : InW) (φ : Phi) (d : Nat) : ∀ (rs : RTs) (j : Nat) (ds : DS), @Yb W1 φ (@Ydu W1 d j rs ds) = @Yb W2 φ (@Ydu W2 d j rs ds) := by
 have cells : ∀ (ts : List RTy) (j : Nat) (cs : List Cl), @Yb W1 φ (@Ybn W1 d j ts cs) = @Yb W2 φ (@Ybn W2 d j ts cs) := by
  intro ts
  induction ts with
  | nil => intro j cs; rfl
  | cons t ts ih =>
   intro j cs;simp only [Ybn, Yn, ih (j + 1) cs.tail];cases t <;> rfl
 intro rs
 induction rs with
 | nil => intro j ds; rfl
 | cons r rs ih =>
  intro j ds;obtain ⟨g, ts⟩ := r;simp only [Ydu, Yn, ih (j + ts.length) ds.tail, cells ts j (ds.headD [])]
theorem Yyp (W1 W2 : InW) (d : Nat) : ∀ (rs : RTs) (j : Nat) (ds : DS), @keys W1 (@Ydu W1 d j rs ds) = @keys W2 (@Ydu W2 d j rs ds) := by
 have cells : ∀ (ts : List RTy) (j : Nat) (cs : List Cl), @keys W1 (@Ybn W1 d j ts cs) = @keys W2 (@Ybn W2 d j ts cs) := by
  intro ts
  induction ts with
  | nil => intro j cs; rfl
  | cons t ts ih =>
   intro j cs;simp only [Ybn, Ybo, ih (j + 1) cs.tail];cases t <;> rfl
 intro rs
 induction rs with
 | nil => intro j ds; rfl
 | cons r rs ih =>
  intro j ds;obtain ⟨g, ts⟩ := r;simp only [Ydu, Ybo, ih (j + ts.length) ds.tail, cells ts j (ds.headD [])]
section
variable [W : InW]
def Y6f : List RTy -> Bool
 | [] => false
 | .nst _ _ :: _ => true
 | .fro _ :: _ => true
 | _ :: ts => Y6f ts
def Y1e : RTs -> Bool
 | [] => false
 | r :: rs => match Y6f r.2 with | true => true | false => Y1e rs
def Yxl (b : Bool) (hs : Heap) : Heap := match b with | true => Yeh hs | false => []
def Yvx {P : Program} (pc : PC P) (args : List AV) (hp : Heap) (d : Nat) (k : KE) : Prop :=
 Yc (Nat.blt d 1024) (Yry pc.ats args hp [] fun hs ds => Pre (pc.pre ds) (k (Y0p d pc.rs (pc.res ds)) hs (Yxl (Y1e pc.rs) hs) (Ydu d 0 pc.rs (pc.res ds))))
theorem Y1d {φ : Phi} {d : Nat} : ∀ {rs : RTs} {j : Nat} {ds : DS}, Y1e rs = false -> ∀ r ∈ Yb φ (Ydu d j rs ds), ∀ b, ¬ r.frz b := by
 have cells : ∀ {ts : List RTy} {j : Nat} {cs : List Cl}, Y6f ts = false -> ∀ r ∈ Yb φ (Ybn d j ts cs), ∀ b, ¬ r.frz b := by
  intro ts
  induction ts with
  | nil => intro j cs _ r hr; simp [Ybn, Yb] at hr
  | cons t ts ih =>
   intro j cs h r hr b;simp only [Ybn, Yn, List.mem_append] at hr;rcases hr with hr | hr
   ·cases t with
    | row T us =>
     simp only [RTy.hp, Yb, List.map_cons, List.map_nil, List.mem_singleton] at hr;subst hr;exact fun h => h
    | nst T us => cases h
    | fro us => cases h
    | _ => simp [RTy.hp, Yb] at hr
   ·exact ih (by cases t <;> first | exact h | cases h) r hr b
 intro rs
 induction rs with
 | nil => intro j ds _ r hr; simp [Ydu, Yb] at hr
 | cons q rs ih =>
  intro j ds h r hr b;obtain ⟨g, ts⟩ := q;unfold Y1e at h
  split at h
  ·cases h
  ·rename_i hq;simp only [Ydu, Yn, List.mem_append] at hr;rcases hr with hr | hr
   ·exact cells hq r hr b
   ·exact ih h r hr b
theorem Yv9 {hs : Heap} : ∀ i ∈ keys (Yeh hs), i ∈ keys hs := fun i hi => by
 obtain ⟨p, hp, rfl⟩ := List.mem_map.1 hi;exact (Ydi p hp).2
theorem Yyu {P : Program} {pc : PC P} {args : List AV} {hp : Heap} {d : Nat} {k : KE} (h : Yvx pc args hp d k) :
  ∃ val hs us nw, k val hs us nw /\ PartOf hs hp /\ (∀ i ∈ keys us, i ∈ keys hs) /\ ACall P pc.g args hs false val us nw := by
 obtain ⟨hd, h⟩ := Ya h;obtain ⟨hs, ds, h1, h2, _, h4⟩ := Yjr h (PartOf.nil hp);obtain ⟨hpre, hk⟩ := h1;have hsub : ∀ i ∈ keys (Yxl (Y1e pc.rs) hs), i ∈ keys hs := fun i hi => by
  unfold Yxl at hi
  split at hi
  ·exact Yv9 i hi
  ·simp [keys] at hi
 refine ⟨_, _, _, _, hk, h2, hsub, fun φ w0 M R w hnew hS => ?_⟩;have hA : At' hs φ w0 M (Yb φ hs ++ R) w := ⟨hS, fun p hp => List.mem_append_left _ (List.mem_map.2 ⟨p, hp, rfl⟩)⟩;obtain ⟨xs, hx, hxc⟩ := @Yn9 (atF w (InB φ hs)) _ _ _ (h4 φ w0 M _ w hA);have hc := pc.ok (atF w (InB φ hs)) xs ds hx hpre d (by simpa [Nat.blt_eq] using hd);have hkeys := Yyp W (atF w (InB φ hs)) d pc.rs 0 (pc.res ds);have hxs : ∀ i, @AV.hasL (atF w (InB φ hs)) i xs = false := fun i => @Ykv (atF w (InB φ hs)) _ _ ds hx i;have := hc φ w [] [] w (fun i hi => ⟨hxs i, rfl⟩) (by simpa [Yb] using hS.nowF (InB φ hs));rw [hxc φ] at this;refine this.mono fun e w' ⟨φ', hag, he, hS'⟩ => ⟨φ', by rw [hkeys]; exact hag, ?_, ?_⟩
 ·rw [he];unfold Y0p;rw [Y0z W (atF w (InB φ hs)) φ' _ _ (Yvt W (atF w (InB φ hs)) φ' d pc.rs 0 _)]
 ·have hagW : Agree (keys (Ydu d 0 pc.rs (pc.res ds))) φ φ' := by rw [hkeys]; exact hag
  have hfree : ∀ i ∈ keys (Ydu d 0 pc.rs (pc.res ds)), hasH i hs = false := fun i hi => (hnew i (by first | exact hi | (rw [hkeys]; exact hi) | (rw [<- hkeys]; exact hi))).2;have hres : @St (atF w (InB φ hs)) w [] (Yb φ' (Ydu d 0 pc.rs (pc.res ds))) w' := by
   have h5 : @St (atF w (InB φ hs)) w [] (@Yb (atF w (InB φ hs)) φ' (@Ydu (atF w (InB φ hs)) d 0 pc.rs (pc.res ds))) w' := by simpa [Yh] using hS'
   rw [<- Yyq W (atF w (InB φ hs))] at h5;exact h5
  unfold Yxl
  split
  ·have hdead : ∀ p ∈ Yeh hs, p.2 = .dead := fun p hp => (Ydi p hp).1;have hg := hS.give (X := [.abs [] (fun b => b < w.heap.size /\ SetF φ hs (keys (Yeh hs)) b) fun _ => True]) (us := Yeh hs) (A := []) h2.nd hdead
    (by intro x hx; rw [List.mem_singleton] at hx; subst hx; exact ⟨fun b hb => (hb.resolve_left (by simp)).1, by simp, fun _ _ => trivial⟩) (by simp)
    (by intro x hx b hb; rw [List.mem_singleton] at hx; subst hx; simp [Res.foot] at hb)
    (by intro x hx b hb; rw [List.mem_singleton] at hx; subst hx; exact hb.2)
   have h6 := St.back hg hres fun r hr b _ hb => .inr (.inl ⟨_, List.mem_singleton.2 rfl, .inr ⟨hb.1, hb.2.set⟩⟩);have e1 : Yb φ' (Yh hs (Yeh hs)) = Yb φ (Yh hs (Yeh hs)) := by
    rw [Yfs h2.nd hdead];exact Ytz hagW hfree
   rw [Yn, e1];refine h6.perm ?_;rw [<- List.append_assoc];exact List.perm_append_comm.append_right R
  ·rename_i hnb;have h6 := St.back (L1 := []) (L := Yb φ hs ++ R) (by simpa using hS) hres fun r hr b hz => absurd hz (Y1d hnb r hr b);have e1 : Yb φ hs = Yb φ' hs := (Ybm hagW hfree).symm;rw [e1] at h6;simp only [Yh];rw [Yn];refine h6.perm ?_;rw [<- List.append_assoc];exact List.perm_append_comm.append_right R
end
end Go.Proofs.YtladoaeefkpdiaaGreatDoor
namespace Go.Proofs.YtladoaeefkpdiaaGreatDoor
open Go.RowKit
attribute [local irreducible] Go.Oper.wp
section
variable [W : InW]
def delK : Heap -> Nat -> (Heap -> Prop) -> Prop
 | [], _, _ => Stuck 411
 | p :: h, i, K => match Nat.beq p.1 i with | true => K h | false => delK h i fun r => K (p :: r)
theorem Yhc {i : Nat} {x : It} : ∀ {h : Heap} {K : Heap -> Prop}, delK h i K -> look h i = some x -> ∃ h', K h' /\ h.Perm ((i, x) :: h')
 | [], _, h, _ => h.elim
 | p :: h, K, hk, hl => by
  unfold delK at hk;rw [Yt] at hl;cases hb : Nat.beq p.1 i with
  | true =>
   rw [hb] at hk;have e := Ye.1 hb;rw [if_pos e] at hl;cases hl;exact ⟨h, hk, by subst e; exact List.Perm.refl _⟩
  | false =>
   rw [hb] at hk;rw [if_neg (Y4.1 hb)] at hl;obtain ⟨h', h1, h2⟩ := Yhc hk hl;exact ⟨_, h1, (h2.cons p).trans (List.Perm.swap _ _ _)⟩
theorem Yks {i : Nat} {x : It} : ∀ {h : Heap} {K : Heap -> Prop}, delK h i K -> look h i = some x -> ∃ h', K h' /\ h.Perm ((i, x) :: h') /\ h'.Sublist h
 | [], _, h, _ => h.elim
 | p :: h, K, hk, hl => by
  unfold delK at hk;rw [Yt] at hl;cases hb : Nat.beq p.1 i with
  | true =>
   rw [hb] at hk;have e := Ye.1 hb;rw [if_pos e] at hl;cases hl;exact ⟨h, hk, by subst e; exact List.Perm.refl _, List.sublist_cons_self _ _⟩
  | false =>
   rw [hb] at hk;rw [if_neg (Y4.1 hb)] at hl;obtain ⟨h', h1, h2, h3⟩ := Yks hk hl;exact ⟨_, h1, (h2.cons p).trans (List.Perm.swap _ _ _), h3.cons_cons p⟩
theorem Yuh {i : Nat} {x : It} : ∀ {h : Heap} {K : Heap -> Prop}, delK h i K -> look h i = some x -> ∃ h', K h' /\ h.Perm ((i, x) :: h') /\ ∀ k, k ≠ i -> look h' k = look h k
 | [], _, h, _ => h.elim
 | p :: h, K, hk, hl => by
  unfold delK at hk;rw [Yt] at hl;cases hb : Nat.beq p.1 i with
  | true =>
   rw [hb] at hk;have e := Ye.1 hb;rw [if_pos e] at hl;cases hl;exact ⟨h, hk, by subst e; exact List.Perm.refl _, fun k hk => by rw [Yt, if_neg (fun e2 => hk (by rw [<- e2, e]))]⟩
  | false =>
   rw [hb] at hk;rw [if_neg (Y4.1 hb)] at hl;obtain ⟨h', h1, h2, h3⟩ := Yuh hk hl;exact ⟨_, h1, (h2.cons p).trans (List.Perm.swap _ _ _), fun k hk => by rw [Yt, Yt, h3 k hk]⟩
theorem Ypp {a h n r : RL} : (a ++ ((h ++ n) ++ r)).Perm (h ++ (a ++ (n ++ r))) := by
 simp only [<- List.append_assoc];exact (List.perm_append_comm.append_right n).append_right r
theorem Yrc {x : Res} {a r : RL} : ([x] ++ (a ++ r)).Perm (a ++ ([x] ++ r)) := by simpa using List.perm_middle.symm
def Y4o : Heap -> Heap -> (Heap -> Prop) -> Prop
 | nw, [], K => K nw
 | nw, p :: hs, K => delK nw p.1 fun nw => Y4o nw hs K
theorem Ykr : ∀ {hs nw : Heap} {K : Heap -> Prop}, PartOf hs nw -> Y4o nw hs K -> ∃ nw', K nw' /\ nw.Perm (hs ++ nw')
 | [], nw, K, _, h => ⟨nw, h, List.Perm.refl _⟩
 | p :: hs, nw, K, hp, h => by
  obtain ⟨nw1, h1, h2, h3⟩ := Yuh h (hp.all p List.mem_cons_self);have hnd := hp.nd;simp only [keys, List.map_cons, List.nodup_cons] at hnd;obtain ⟨nw2, h4, h5⟩ := Ykr ⟨hnd.2, fun q hq => by
   rw [h3 q.1 (fun e => hnd.1 (by rw [<- e]; exact List.mem_map_of_mem hq))];exact hp.all q (List.mem_cons_of_mem _ hq)⟩ h1
  exact ⟨nw2, h4, h2.trans (h5.cons p)⟩
def RTy.isRow : RTy -> Bool
 | .row _ _ => true
 | .nst _ _ => true
 | .fro _ => true
 | _ => false
def rcK (t : RTy) (x : AV) (nw : Heap) (K : Cl -> Heap -> Prop) : Prop :=
 match t with
 | .int k => clK (.int k) x fun c => K c nw
 | .bool => clK .bool x fun c => K c nw
 | .str => clK .str x fun c => K c nw
 | .row T ts => (match x with
  | .v (.slice none 0 0) => K (.l []) nw
  | .rw id => Yu nw id fun it => (match it with
   | .arr T' ts' xs => Yc (Nat.beq T' T && Ycc.sameTs ts' ts && Nat.ble 1 ts.length) (delK nw id fun nw => K (.l xs) nw)
   | _ => Stuck 412)
  | .rwp id sz l n => Yu nw id fun it => (match it with
   | .arr T' ts' xs => Yc (Nat.beq T' T && Ycc.sameTs ts' ts && Nat.ble 1 ts.length && Nat.beq l 0) (Need (decide (n <= xs.length)) (delK nw id fun nw => K (.l (xs.take n)) nw))
   | _ => Stuck 415)
  | .sl id 0 0 n => Yu nw id fun it => (match it with
   | .row T' sz n' cs => Yc (Nat.beq T' T && Nat.beq sz ts.length && Nat.beq n' n) (Ys5 ts n cs fun ys => delK nw id fun nw => K (.l ys) nw)
   | _ => Stuck 413)
  | _ => Stuck 414)
 | .fro ts => Yuj 4 (.sl ts) x nw [] fun hs c => Y4o nw hs fun nw => K c nw
 | .nst T ts => (match x with
  | .v (.slice none 0 0) => K (.l []) nw
  | .rw id => Yu nw id fun it => (match it with
   | .nst T' ts' xs => Yc (Nat.beq T' T && Yb1 9 (.sl ts') (.sl ts)) (delK nw id fun nw => K (.l xs) nw)
   | _ => Stuck 412)
  | .sl id 0 0 n => Yu nw id fun it => (match it with
   | .row T' sz n' cs => Yc (Nat.beq T' T && Nat.beq sz ts.length && Nat.beq n' n && Nat.ble 1 ts.length) (Y3s (Yuj 4) ts n cs nw [] fun hs ys => Yc (Yco.disjB hs [(id, .row T' sz n' cs)]) (Y4o nw ((id, .row T' sz n' cs) :: hs) fun nw => K (.l ys) nw))
   | _ => Stuck 413)
  | _ => Stuck 414)
theorem Yym {w : World} {T sz m n c : Nat} {A : Option Addr} {vs us : List Value} (h : w.ownsRow 0 T sz (.slice A m c) m vs) (hn : n <= m) (hu : us = vs.take (n * sz)) : w.ownsRow 0 T sz (.slice A n c) n us := by
 have hl := h.1;have hm : n * sz <= m * sz := Nat.mul_le_mul_right _ hn;refine ⟨by rw [hu, List.length_take, hl]; omega, ?_⟩;rcases h.2 with ⟨h0, h1⟩ | ⟨g, cap, cur, hv, h1, h2, h3, h4, h5, h6⟩
 ·injection h0 with h7 h8 h9
  exact .inl ⟨by rw [h7, h9, show n = 0 by omega], by omega⟩
 ·injection hv with h7 h8 h9
  refine .inr ⟨g, cap, cur, by rw [h7, h9], h1, h2, by omega, h4, h5, ?_⟩;rw [hu, <- h6, List.take_take, Nat.min_eq_left hm]
theorem Y3v {d j : Nat} {t : RTy} {x : AV} {nw : Heap} {K : Cl -> Heap -> Prop} (h : rcK t x nw K) : ∃ c nw', K c nw' /\
  ∀ (φ : Phi) (w0 : World) (M : List Nat) (A R : RL) (w : World), St w0 M (A ++ (Yb φ nw ++ R)) w -> ∃ hd : Hd, ∀ φ' : Phi, (t.isRow = true -> φ' (Yca d j) = hd) -> (t.av d j c).conc φ' = x.conc φ /\ St w0 M (A ++ (Yb φ' (t.hp d j c) ++ (Yb φ nw' ++ R))) w := by
 unfold rcK at h;have plain : ∀ (ty : Ty) (c : Cl), (∀ φ, x.conc φ = ty.val c) -> (∀ φ' : Phi, (t.av d j c).conc φ' = ty.val c) -> t.hp d j c = [] -> ∀ (φ : Phi) (w0 : World) (M : List Nat) (A R : RL) (w : World), St w0 M (A ++ (Yb φ nw ++ R)) w -> ∃ hd : Hd, ∀ φ' : Phi, (t.isRow = true -> φ' (Yca d j) = hd) -> (t.av d j c).conc φ' = x.conc φ /\ St w0 M (A ++ (Yb φ' (t.hp d j c) ++ (Yb φ nw ++ R))) w :=
  fun ty c h1 h2 h3 φ w0 M A R w hS => ⟨⟨0, true, 0, none, 0, undef, fun _ => False⟩, fun φ' _ => ⟨by rw [h1 φ, h2 φ'], by rw [h3]; exact hS⟩⟩
 have perm3 : ∀ {r : Res} {A L R : RL} {w0 w : World} {M : List Nat}, St w0 M (A ++ ((r :: L) ++ R)) w -> St w0 M (A ++ ([r] ++ (L ++ R))) w := fun h => by simpa using h
 split at h
 ·obtain ⟨c, h1, h2, _⟩ := Yju h;exact ⟨c, nw, h1, plain _ c h2 (fun φ' => rfl) rfl⟩
 ·obtain ⟨c, h1, h2, _⟩ := Yju h;exact ⟨c, nw, h1, plain _ c h2 (fun φ' => rfl) rfl⟩
 ·obtain ⟨c, h1, h2, _⟩ := Yju h;exact ⟨c, nw, h1, plain _ c h2 (fun φ' => rfl) rfl⟩
 ·rename_i T ts
  split at h
  ·refine ⟨_, nw, h, fun φ w0 M A R w hS => ⟨⟨0, true, 0, none, 0, undef, fun _ => False⟩, fun φ' he' => ?_⟩⟩;have he := he' rfl;refine ⟨by simp only [RTy.av, AV.conc, he]; rfl, ?_⟩;have h1 := hS.add (Ext.refl _) (r := .row (.slice none 0 0) T ts.length 0 []) ⟨by simp, .inl ⟨rfl, rfl⟩⟩ (by simp [Res.foot, Value.ownBlock]);simp only [RTy.hp, Yb, List.map_cons, List.map_nil, It.conc, he];exact h1.perm (by simp only [if_true, Cl.lst, Yl, List.cons_append, List.nil_append]; exact List.perm_middle.symm)
  ·rename_i id;obtain ⟨it, hl, h0⟩ := Yf h
   split at h0
   ·rename_i T' ts' xs;obtain ⟨h1, h2⟩ := Ya h0;simp only [Bool.and_eq_true, Ye, Nat.ble_eq] at h1;obtain ⟨⟨rfl, h12⟩, h13⟩ := h1;obtain ⟨rfl, _⟩ := Y9 h12;obtain ⟨nw', h3, h4⟩ := Yhc h2 hl;refine ⟨_, nw', h3, fun φ w0 M A R w hS => ⟨φ id, fun φ' he' => ?_⟩⟩;have he := he' rfl;refine ⟨by simp only [RTy.av, AV.conc, he], ?_⟩;have h5 : St w0 M (A ++ (Yb φ ((id, .arr T' ts' xs) :: nw') ++ R)) w := hS.perm ((((Yv h4).append_right R)).append_left A);simp only [RTy.hp, Yb, List.map_cons, List.map_nil, It.conc, he, Cl.lst];exact perm3 h5
   ·exact h0.elim
  ·rename_i id sz l n;obtain ⟨it, hl, h0⟩ := Yf h
   split at h0
   ·rename_i T' ts' xs;obtain ⟨h1, h2⟩ := Ya h0;simp only [Bool.and_eq_true, Ye, Nat.ble_eq] at h1;obtain ⟨⟨⟨rfl, h12⟩, h13⟩, rfl⟩ := h1;obtain ⟨rfl, _⟩ := Y9 h12;obtain ⟨h21, h22⟩ := h2;have h21 := of_decide_eq_true h21;obtain ⟨nw', h3, h4⟩ := Yhc h22 hl;refine ⟨_, nw', h3, fun φ w0 M A R w hS => ⟨{ φ id with fn := n }, fun φ' he' => ?_⟩⟩;have he := he' rfl;refine ⟨by rw [Ygk]; simp only [RTy.av, AV.conc, he], ?_⟩;have h5 : St w0 M (A ++ (Yb φ ((id, .arr T' ts' xs) :: nw') ++ R)) w := hS.perm ((((Yv h4).append_right R)).append_left A);have h6 : St w0 M ([(It.arr T' ts' xs).conc φ id] ++ (A ++ (Yb φ nw' ++ R))) w := h5.perm (by
     simp only [Yb, List.map_cons, List.cons_append, List.singleton_append];exact List.perm_middle)
    have h7 := h6.repack (L2 := [.row (.slice (if (φ id).nil then none else some ⟨(φ id).b, 0, none⟩) n (φ id).c) T' ts'.length n (Yl ts' (xs.take n))]) ?_ ?_ ?_ (by simp)
    ·simp only [RTy.hp, Yb, List.map_cons, List.map_nil, It.conc, he, Cl.lst];exact h7.perm Yrc
    ·intro r hr';rw [List.mem_singleton] at hr';subst hr';have hrow : w.ownsRow 0 T' ts'.length (.slice (if (φ id).nil then none else some ⟨(φ id).b, 0, none⟩) (φ id).fn (φ id).c) (φ id).fn (Yl ts' xs) := h6.row Look.head;have hfn := Y5v (by omega) h6;exact Yym hrow (by omega) (by rw [Yfi _ _ _ h21])
    ·intro r hr' b hb;rw [List.mem_singleton] at hr';subst hr';exact ⟨_, List.mem_singleton.2 rfl, by cases hnil : (φ id).nil <;> simp [It.conc, Res.foot, Value.ownBlock, hnil] at hb ⊢ <;> exact hb⟩
    ·intro r hr' b hb;rw [List.mem_singleton] at hr';subst hr';exact hb.elim
   ·exact h0.elim
  ·rename_i id n;obtain ⟨it, hl, h0⟩ := Yf h
   split at h0
   ·rename_i T' sz n' cs;obtain ⟨h1, h2⟩ := Ya h0;simp only [Bool.and_eq_true, Ye] at h1;obtain ⟨⟨rfl, rfl⟩, rfl⟩ := h1;obtain ⟨ys, h3, h4, h5, _⟩ := Ydc h2;obtain ⟨nw', h6, h7⟩ := Yhc h3 hl;refine ⟨_, nw', h6, fun φ w0 M A R w hS => ⟨{ φ id with fn := n' }, fun φ' he' => ?_⟩⟩;have he := he' rfl;refine ⟨by simp [RTy.av, AV.conc, he], ?_⟩;have h8 : St w0 M (A ++ (Yb φ ((id, .row T' ts.length n' cs) :: nw') ++ R)) w := hS.perm ((((Yv h7).append_right R)).append_left A);simp only [RTy.hp, Yb, List.map_cons, List.map_nil, It.conc, he, Cl.lst] at h8 ⊢;rw [<- h5 φ];exact perm3 h8
   ·exact h0.elim
  ·exact h.elim
 ·rename_i ts;obtain ⟨hs, c, h1, h2, _, hcan, h3⟩ := Yd9 4 _ _ _ _ _ h (.nil _);obtain ⟨ys, rfl⟩ := hcan;obtain ⟨nw', h4, h5⟩ := Ykr h2 h1;refine ⟨_, nw', h4, fun φ w0 M A R w hS => ⟨⟨0, false, 0, none, 0, x.conc φ, fun b => b < w.heap.size /\ InB φ hs b⟩, fun φ' he' => ?_⟩⟩;have he := he' rfl;refine ⟨by simp only [RTy.av, AV.conc, he], ?_⟩;have h6 : St w0 M (Yb φ hs ++ (A ++ (Yb φ nw' ++ R))) w := hS.perm (by
   refine (((Yv h5).append_right R).append_left A).trans ?_;rw [Yn];exact Ypp)
  have hr := h3 φ w0 M _ w h6 Ydp;have h7 := h6.repack (L2 := [Res.fro (x.conc φ) ts ys fun b => b < w.heap.size /\ InB φ hs b]) ?_ ?_ ?_ (by simp)
  ·have e : Yb φ' ((RTy.fro ts).hp d j (.l ys)) = [Res.fro (x.conc φ) ts ys fun b => b < w.heap.size /\ InB φ hs b] := by simp only [RTy.hp, Yb, List.map_cons, List.map_nil, It.conc, he, Cl.lst]
   rw [e];exact h7.perm Yrc
  ·intro r hr';rw [List.mem_singleton] at hr';subst hr';exact Yjm (fun b hb => hb.1) (RdV.grow hr (fun b h1 h2 => ⟨h1, h1, h2⟩) fun _ _ _ => rfl)
  ·intro r hr' b hb;rw [List.mem_singleton] at hr';subst hr';simp [Res.fro, Res.foot] at hb
  ·intro r hr' b hb;rw [List.mem_singleton] at hr';subst hr';rcases hb.2 with h8 | ⟨p, hp, h8⟩
   ·exact .inl h8
   ·exact .inr ⟨_, List.mem_map.2 ⟨p, hp, rfl⟩, h8⟩
 ·rename_i T ts
  split at h
  ·refine ⟨_, nw, h, fun φ w0 M A R w hS => ⟨⟨0, true, 0, none, 0, undef, fun _ => False⟩, fun φ' he' => ?_⟩⟩;have he := he' rfl;refine ⟨by simp only [RTy.av, AV.conc, he]; rfl, ?_⟩;have h1 := hS.add (Ext.refl _) (r := Res.nst (.slice none 0 0) T ts 0 [] fun _ => False) (Ygw (fun b hb => hb.elim) (fun b hb hz => hz) ⟨rfl, [], ⟨by simp, .inl ⟨rfl, rfl⟩⟩, fun i k t hi => by simp at hi⟩) (by simp [Res.nst, Res.foot, Value.ownBlock]) (fun b hb => hb.elim);simp only [RTy.hp, Yb, List.map_cons, List.map_nil, It.conc, he];exact h1.perm (by simp only [if_true, Cl.lst, List.cons_append, List.nil_append]; exact List.perm_middle.symm)
  ·rename_i id;obtain ⟨it, hl, h0⟩ := Yf h
   split at h0
   ·rename_i T' ts' xs;obtain ⟨h1, h2⟩ := Ya h0;simp only [Bool.and_eq_true, Ye] at h1;obtain ⟨rfl, h12⟩ := h1;have e := Y8 _ _ _ h12;simp only [Ty.sl.injEq] at e;subst e;obtain ⟨nw', h3, h4⟩ := Yhc h2 hl;refine ⟨_, nw', h3, fun φ w0 M A R w hS => ⟨φ id, fun φ' he' => ?_⟩⟩;have he := he' rfl;refine ⟨by simp only [RTy.av, AV.conc, he], ?_⟩;have h5 : St w0 M (A ++ (Yb φ ((id, .nst T' ts' xs) :: nw') ++ R)) w := hS.perm ((((Yv h4).append_right R)).append_left A);simp only [RTy.hp, Yb, List.map_cons, List.map_nil, It.conc, he, Cl.lst];exact perm3 h5
   ·exact h0.elim
  ·rename_i id n;obtain ⟨it, hl, h0⟩ := Yf h
   split at h0
   ·rename_i T' sz n' cs;obtain ⟨h1, h2⟩ := Ya h0;simp only [Bool.and_eq_true, Ye, Nat.ble_eq] at h1;obtain ⟨⟨⟨rfl, rfl⟩, rfl⟩, h14⟩ := h1;obtain ⟨hs, ys, h3, h4, _, h5, h6⟩ := Yj8 (Yd9 4) h2 (.nil _);obtain ⟨h7, h8⟩ := Ya h3;have hpart := h4.cons hl (Ycl h7);obtain ⟨nw', h9, h10⟩ := Ykr hpart h8;refine ⟨_, nw', h9, fun φ w0 M A R w hS => ⟨{ φ id with fn := n', F := fun b => b < w.heap.size /\ InB φ hs b }, fun φ' he' => ?_⟩⟩;have he := he' rfl;refine ⟨by simp [RTy.av, AV.conc, he], ?_⟩;have h11 : St w0 M (Yb φ ((id, It.row T' ts.length n' cs) :: hs) ++ (A ++ (Yb φ nw' ++ R))) w := hS.perm (by
     refine (((Yv h10).append_right R).append_left A).trans ?_;rw [Yn];exact Ypp)
    have hrow : w.ownsRow 0 T' ts.length (.slice (if (φ id).nil then none else some ⟨(φ id).b, 0, none⟩) n' (φ id).c) n' (AV.concL φ cs) := h11.look Look.head;have hin : ∀ p ∈ hs, p.2.conc φ p.1 ∈ Yb φ ((id, It.row T' ts.length n' cs) :: hs) ++ (A ++ (Yb φ nw' ++ R)) := fun p hp => Ydp p (List.mem_cons_of_mem _ hp);have hrd : RowsRd w (fun b => b < w.heap.size /\ InB φ hs b) ts (AV.concL φ cs) ys := fun i k t hi ht => by
     obtain ⟨y, y1, y2⟩ := h6 i k t (by omega) ht;exact ⟨_, by rw [Yck, y1]; rfl, RdV.grow (y2 φ w0 M _ w h11 hin) (fun b h1 h2 => ⟨h1, h1, h2⟩) fun _ _ _ => rfl⟩
    have h7' := h11.repack (L2 := [Res.nst (.slice (if (φ id).nil then none else some ⟨(φ id).b, 0, none⟩) n' (φ id).c) T' ts n' ys fun b => b < w.heap.size /\ InB φ hs b]) ?_ ?_ ?_ (by simp)
    ·have e : Yb φ' ((RTy.nst T' ts).hp d j (.l ys)) = [Res.nst (.slice (if (φ id).nil then none else some ⟨(φ id).b, 0, none⟩) n' (φ id).c) T' ts n' ys fun b => b < w.heap.size /\ InB φ hs b] := by simp only [RTy.hp, Yb, List.map_cons, List.map_nil, It.conc, he, Cl.lst]
     rw [e];exact h7'.perm Yrc
    ·intro r hr';rw [List.mem_singleton] at hr';subst hr';refine Ygw (fun b hb => hb.1) (fun b hb hz => ?_) ⟨h5, _, hrow, hrd⟩;have hsep := (List.pairwise_append.1 h11.sep).1;rcases hz.2 with h12 | ⟨p, hp, h12⟩
     ·exact h11.farF (x := (It.row T' ts.length n' cs).conc φ id) (Ydp (hs := (id, It.row T' ts.length n' cs) :: hs) _ List.mem_cons_self) hb h12
     ·exact ((List.pairwise_cons.1 (show ((It.row T' ts.length n' cs).conc φ id :: Yb φ hs).Pairwise apart from hsep)).1 _ (List.mem_map.2 ⟨p, hp, rfl⟩)).1 b hb h12
    ·intro r hr' b hb;rw [List.mem_singleton] at hr';subst hr';exact ⟨(It.row T' ts.length n' cs).conc φ id, List.mem_cons_self, hb⟩
    ·intro r hr' b hb;rw [List.mem_singleton] at hr';subst hr';rcases hb.2 with h8 | ⟨p, hp, h8⟩
     ·exact .inl h8
     ·exact .inr ⟨_, List.mem_cons_of_mem _ (List.mem_map.2 ⟨p, hp, rfl⟩), h8⟩
   ·exact h0.elim
  ·exact h.elim
def rcsK : List RTy -> List AV -> Heap -> (List Cl -> Heap -> Prop) -> Prop
 | [], [], nw, K => K [] nw
 | t :: ts, x :: xs, nw, K => rcK t x nw fun c nw => rcsK ts xs nw fun cs nw => K (c :: cs) nw
 | _, _, _, _ => Stuck 415
def Hds (φ' : Phi) (d : Nat) : Nat -> List RTy -> List Hd -> Prop
 | _, [], _ => True
 | j, t :: ts, hds => (t.isRow = true -> some (φ' (Yca d j)) = hds.head?) /\ Hds φ' d (j + 1) ts hds.tail
theorem Hds.app {φ' : Phi} {d : Nat} {b : List RTy} {hb : List Hd} : ∀ {j : Nat} {a : List RTy} {ha : List Hd}, ha.length = a.length -> Hds φ' d j (a ++ b) (ha ++ hb) -> Hds φ' d j a ha /\ Hds φ' d (j + a.length) b hb
 | j, [], [], _, h => ⟨trivial, h⟩
 | j, t :: a, hd :: ha, hl, h => by
  obtain ⟨h1, h2⟩ := h;obtain ⟨h3, h4⟩ := Hds.app (j := j + 1) (a := a) (ha := ha) (by simpa using hl) h2;exact ⟨⟨h1, h3⟩, by rw [List.length_cons, show j + (a.length + 1) = j + 1 + a.length by omega]; exact h4⟩
 | j, [], _ :: _, hl, _ => by simp at hl
 | j, _ :: _, [], hl, _ => by simp at hl
def Yff (φ : Phi) (d : Nat) : Nat -> List RTy -> List Hd -> Phi
 | _, [], _ => φ
 | j, t :: ts, hds => fun i => if t.isRow = true /\ i = Yca d j then (match hds.head? with | some hd => hd | none => φ i) else Yff φ d (j + 1) ts hds.tail i
theorem Y1b {d j k : Nat} (hd : d < 1024) (h : Yca d j = Yca d k) : j = k := by unfold Yca at h; omega
theorem Yjh {φ : Phi} {d : Nat} (hd : d < 1024) : ∀ {ts : List RTy} {j : Nat} {hds : List Hd}, hds.length = ts.length -> Hds (Yff φ d j ts hds) d j ts hds
 | [], _, _, _ => trivial
 | t :: ts, j, [], hl => by simp at hl
 | t :: ts, j, x :: hds, hl => by
  refine ⟨fun ht => by simp [Yff, ht], ?_⟩;have key : ∀ {φ1 φ2 : Phi} {us : List RTy} {m : Nat} {hs : List Hd}, (∀ k, m <= k -> φ1 (Yca d k) = φ2 (Yca d k)) -> Hds φ2 d m us hs -> Hds φ1 d m us hs := by
   intro φ1 φ2 us
   induction us with
   | nil => intro m hs _ _; trivial
   | cons u us ih => intro m hs he hh; exact ⟨fun hu => by rw [he m (Nat.le_refl _)]; exact hh.1 hu, ih (fun k hk => he k (by omega)) hh.2⟩
  refine key (fun k hk => ?_) (Yjh (φ := φ) hd (j := j + 1) (hds := hds) (by simpa using hl))
  show (if t.isRow = true /\ Yca d k = Yca d j then _ else _) = _
  rw [if_neg (fun hh => by have := Y1b hd hh.2; omega)];rfl
theorem Yi1 {d : Nat} : ∀ {ts : List RTy} {xs : List AV} {j : Nat} {nw : Heap} {K : List Cl -> Heap -> Prop}, rcsK ts xs nw K -> ∃ cs nw', K cs nw' /\
  ∀ (φ : Phi) (w0 : World) (M : List Nat) (A R : RL) (w : World), St w0 M (A ++ (Yb φ nw ++ R)) w -> ∃ hds : List Hd, hds.length = ts.length /\ ∀ φ' : Phi, Hds φ' d j ts hds -> AV.concL φ' (Ydl d j ts cs) = AV.concL φ xs /\ St w0 M (A ++ (Yb φ' (Ybn d j ts cs) ++ (Yb φ nw' ++ R))) w
 | [], [], j, nw, K, h => ⟨[], nw, h, fun φ w0 M A R w hS => ⟨[], rfl, fun φ' _ => ⟨rfl, by simpa [Ybn, Yb] using hS⟩⟩⟩
 | t :: ts, x :: xs, j, nw, K, h => by
  obtain ⟨c, nw1, h1, h2⟩ := Y3v (d := d) (j := j) h;obtain ⟨cs, nw2, h3, h4⟩ := Yi1 (d := d) (j := j + 1) h1;refine ⟨c :: cs, nw2, h3, fun φ w0 M A R w hS => ?_⟩;obtain ⟨hd, k1⟩ := h2 φ w0 M A R w hS;have k1' := (k1 (fun i => if i = Yca d j then hd else φ i) (by simp)).2;obtain ⟨hds, k2, k3⟩ := h4 φ w0 M (A ++ Yb (fun i => if i = Yca d j then hd else φ i) (t.hp d j c)) R w (by rw [List.append_assoc]; exact k1');refine ⟨hd :: hds, by simp [k2], fun φ' hφ => ?_⟩;obtain ⟨a1, a2⟩ := k3 φ' hφ.2;have hh : t.isRow = true -> φ' (Yca d j) = hd := fun ht => Option.some.inj (hφ.1 ht);obtain ⟨b1, _⟩ := k1 φ' hh;have e : Yb (fun i => if i = Yca d j then hd else φ i) (t.hp d j c) = Yb φ' (t.hp d j c) := by
   cases t with
   | nst T ts => have := hh rfl; simp [RTy.hp, Yb, It.conc, this]
   | fro ts => have := hh rfl; simp [RTy.hp, Yb, It.conc, this]
   | row T ts => have := hh rfl; simp [RTy.hp, Yb, It.conc, this]
   | _ => rfl
  rw [e, List.append_assoc] at a2;refine ⟨by simp only [Ydl, AV.concL, List.headD_cons, List.tail_cons, a1, b1], ?_⟩;simp only [Ybn, List.headD_cons, List.tail_cons, Yn, List.append_assoc] at a2 ⊢;exact a2
 | [], _ :: _, _, _, _, h => h.elim
 | _ :: _, [], _, _, _, h => h.elim
def Y3t (g : Bool) (ts : List RTy) (x : AV) (nw : Heap) (K : List Cl -> Heap -> Prop) : Prop :=
 match g with
 | false => rcsK ts [x] nw K
 | true => (match x with | .agg xs => rcsK ts xs nw K | .v (.agg cs) => Yrj cs.toList fun xs => rcsK ts xs nw K | _ => Stuck 416)
def Ys6 : RTs -> List AV -> Heap -> (DS -> Heap -> Prop) -> Prop
 | [], [], nw, K => K [] nw
 | (g, ts) :: rs, x :: xs, nw, K => Y3t g ts x nw fun d nw => Ys6 rs xs nw fun ds nw => K (d :: ds) nw
 | _, _, _, _ => Stuck 417
def Ykn : RTs -> List RTy
 | [] => []
 | (_, ts) :: rs => ts ++ Ykn rs
theorem Yyn {d j : Nat} {g : Bool} {ts : List RTy} {x : AV} {nw : Heap} {K : List Cl -> Heap -> Prop} (h : Y3t g ts x nw K) : ∃ cs nw', K cs nw' /\
  ∀ (φ : Phi) (w0 : World) (M : List Nat) (A R : RL) (w : World), St w0 M (A ++ (Yb φ nw ++ R)) w -> ∃ hds : List Hd, hds.length = ts.length /\ ∀ φ' : Phi, Hds φ' d j ts hds ->
   (match g with | true => AV.agg (Ydl d j ts cs) | false => Y02 (Ydl d j ts cs)).conc φ' = x.conc φ /\ St w0 M (A ++ (Yb φ' (Ybn d j ts cs) ++ (Yb φ nw' ++ R))) w := by
 unfold Y3t at h;cases g with
 | false =>
  obtain ⟨cs, nw', h1, h2⟩ := Yi1 (d := d) (j := j) h;refine ⟨cs, nw', h1, fun φ w0 M A R w hS => ?_⟩;obtain ⟨hds, h3, h4⟩ := h2 φ w0 M A R w hS;refine ⟨hds, h3, fun φ' hφ => ?_⟩;obtain ⟨a1, a2⟩ := h4 φ' hφ;refine ⟨?_, a2⟩
  match hc : Ydl d j ts cs with
  | [y] => rw [hc] at a1; simpa [AV.concL, Y02] using a1
  | [] => rw [hc] at a1; simp [AV.concL] at a1
  | _ :: _ :: _ => rw [hc] at a1; simp [AV.concL] at a1
 | true =>
  dsimp only at h
  split at h
  ·obtain ⟨cs, nw', h1, h2⟩ := Yi1 (d := d) (j := j) h;refine ⟨cs, nw', h1, fun φ w0 M A R w hS => ?_⟩;obtain ⟨hds, h3, h4⟩ := h2 φ w0 M A R w hS;exact ⟨hds, h3, fun φ' hφ => ⟨by simp only [AV.conc, (h4 φ' hφ).1], (h4 φ' hφ).2⟩⟩
  ·obtain ⟨cs, nw', h1, h2⟩ := Yi1 (d := d) (j := j) (Yeg.1 h);refine ⟨cs, nw', h1, fun φ w0 M A R w hS => ?_⟩;obtain ⟨hds, h3, h4⟩ := h2 φ w0 M A R w hS;exact ⟨hds, h3, fun φ' hφ => ⟨by simp [AV.conc, (h4 φ' hφ).1, Yw, Function.comp_def], (h4 φ' hφ).2⟩⟩
  ·exact h.elim
theorem Ymx {d : Nat} (hd1 : d < 1024) : ∀ {rs : RTs} {xs : List AV} {j : Nat} {nw : Heap} {K : DS -> Heap -> Prop}, Ys6 rs xs nw K -> ∃ ds nw', K ds nw' /\
  ∀ (φ : Phi) (w0 : World) (M : List Nat) (A R : RL) (w : World), St w0 M (A ++ (Yb φ nw ++ R)) w -> ∃ hds : List Hd, hds.length = (Ykn rs).length /\ ∀ φ' : Phi, Hds φ' d j (Ykn rs) hds -> AV.concL φ' (Ymz d j rs ds) = AV.concL φ xs /\ St w0 M (A ++ (Yb φ' (Ydu d j rs ds) ++ (Yb φ nw' ++ R))) w
 | [], [], j, nw, K, h => ⟨[], nw, h, fun φ w0 M A R w hS => ⟨[], rfl, fun φ' _ => ⟨rfl, by simpa [Ydu, Yb] using hS⟩⟩⟩
 | (g, ts) :: rs, x :: xs, j, nw, K, h => by
  obtain ⟨c, nw1, h1, h2⟩ := Yyn (d := d) (j := j) h;obtain ⟨cs, nw2, h3, h4⟩ := Ymx hd1 (j := j + ts.length) h1;refine ⟨c :: cs, nw2, h3, fun φ w0 M A R w hS => ?_⟩;obtain ⟨hds, k0, k1⟩ := h2 φ w0 M A R w hS;have k1' := (k1 (Yff φ d j ts hds) (Yjh hd1 k0)).2;obtain ⟨hds2, m0, m1⟩ := h4 φ w0 M (A ++ Yb (Yff φ d j ts hds) (Ybn d j ts c)) R w (by rw [List.append_assoc]; exact k1');refine ⟨hds ++ hds2, by simp [k0, m0, Ykn], fun φ' hφ => ?_⟩;obtain ⟨hl, hr⟩ := Hds.app (a := ts) (b := Ykn rs) k0 hφ;obtain ⟨a1, a2⟩ := m1 φ' hr;obtain ⟨b1, b2⟩ := k1 φ' hl;have e : Yb (Yff φ d j ts hds) (Ybn d j ts c) = Yb φ' (Ybn d j ts c) := by
   have key : ∀ (φ1 : Phi) (ts : List RTy) (j : Nat) (hds : List Hd) (c : List Cl), hds.length = ts.length -> Hds φ1 d j ts hds -> Hds φ' d j ts hds -> Yb φ1 (Ybn d j ts c) = Yb φ' (Ybn d j ts c) := by
    intro φ1 ts
    induction ts with
    | nil => intro j hds c _ _ _; rfl
    | cons t ts ih =>
     intro j hds c hl h1 h2;cases hds with
     | nil => simp at hl
     | cons hd hds =>
      simp only [Ybn, Yn, ih (j + 1) hds c.tail (by simpa using hl) h1.2 h2.2]
      congr 1
      cases t with
      | nst T ts =>
       have e1 : φ1 (Yca d j) = hd := Option.some.inj (h1.1 rfl);have e2 : φ' (Yca d j) = hd := Option.some.inj (h2.1 rfl);simp [RTy.hp, Yb, It.conc, e1, e2]
      | fro ts =>
       have e1 : φ1 (Yca d j) = hd := Option.some.inj (h1.1 rfl);have e2 : φ' (Yca d j) = hd := Option.some.inj (h2.1 rfl);simp [RTy.hp, Yb, It.conc, e1, e2]
      | row T ts =>
       have e1 : φ1 (Yca d j) = hd := Option.some.inj (h1.1 rfl);have e2 : φ' (Yca d j) = hd := Option.some.inj (h2.1 rfl);simp [RTy.hp, Yb, It.conc, e1, e2]
      | _ => rfl
   exact key _ ts j hds c k0 (Yjh hd1 k0) hl
  rw [e, List.append_assoc] at a2;refine ⟨?_, ?_⟩
  ·simp only [Ymz, AV.concL, List.headD_cons, List.tail_cons, a1];cases g <;> simp_all
  ·simp only [Ydu, List.headD_cons, List.tail_cons, Yn, List.append_assoc] at a2 ⊢;exact a2
 | [], _ :: _, _, _, _, h => h.elim
 | _ :: _, [], _, _, _, h => h.elim
theorem Yty {φ : Phi} {d : Nat} (hd1 : d < 1024) (rs : RTs) (ds : DS) : ∀ (hds : List Hd), Agree (keys (Ydu d 0 rs ds)) φ (Yff φ d 0 (Ykn rs) hds) := by
 have cells : ∀ (ts : List RTy) (j : Nat) (cs : List Cl) (us : List RTy) (hds : List Hd) (i : Nat), i ∉ keys (Ybn d j ts cs) -> Yff φ d (j + ts.length) us (hds.drop ts.length) i = φ i -> Yff φ d j (ts ++ us) hds i = φ i := by
  intro ts
  induction ts with
  | nil => intro j cs us hds i _ h; simpa using h
  | cons t ts ih =>
   intro j cs us hds i hi h;simp only [Ybn, Ybo, List.mem_append, not_or] at hi;simp only [List.cons_append, Yff];rw [if_neg]
   ·refine ih (j + 1) cs.tail us hds.tail i hi.2 ?_;rw [show j + 1 + ts.length = j + (t :: ts).length by simp; omega];simpa [List.drop_tail] using h
   ·rintro ⟨h1, h2⟩;cases t <;> simp [RTy.isRow] at h1
    all_goals exact hi.1 (by simp [RTy.hp, keys, h2])
 have all : ∀ (rs : RTs) (j : Nat) (ds : DS) (hds : List Hd) (i : Nat), i ∉ keys (Ydu d j rs ds) -> Yff φ d j (Ykn rs) hds i = φ i := by
  intro rs
  induction rs with
  | nil => intro j ds hds i _; rfl
  | cons r rs ih =>
   intro j ds hds i hi;obtain ⟨g, ts⟩ := r;simp only [Ydu, Ybo, List.mem_append, not_or] at hi;exact cells ts j _ _ hds i hi.1 (ih _ _ _ i hi.2)
 exact fun hds i hi => all rs 0 ds hds i hi
theorem Y0y {φ φ' : Phi} {xs ys : List AV} (h : AV.concL φ xs = AV.concL φ' ys) : (outA xs).conc φ = (outA ys).conc φ' := by
 match xs, ys with
 | [], [] => rfl
 | [x], [y] =>
  show x.conc φ = y.conc φ'
  simpa [AV.concL] using h
 | _ :: _ :: _, _ :: _ :: _ => simp only [outA, AV.conc, h]
 | [], _ :: _ => simp [AV.concL] at h
 | _ :: _, [] => simp [AV.concL] at h
 | [_], _ :: _ :: _ => simp [AV.concL] at h
 | _ :: _ :: _, [_] => simp [AV.concL] at h
def Y4g (rs : RTs) (Q : DS -> Prop) (val : AV) (_hs us nw : Heap) : Prop :=
 match us with
 | [] => (match rs with
  | [(g, ts)] => Y3t g ts val nw fun d _ => Q [d]
  | _ => (match val with | .tup vs => (match vs with | [_] => Stuck 420 | vs => Ys6 rs vs nw fun ds _ => Q ds) | _ => Stuck 418))
 | _ :: _ => Stuck 419
theorem Yza {d : Nat} (hd1 : d < 1024) {rs : RTs} {Q : DS -> Prop} {val : AV} {hs us nw : Heap} (h : Y4g rs Q val hs us nw) : us = [] /\ ∃ ds, Q ds /\
  ∀ (φ : Phi) (w0 : World) (M : List Nat) (R : RL) (w : World), St w0 M (Yb φ nw ++ R) w -> ∃ hds : List Hd, hds.length = (Ykn rs).length /\ ∀ φ' : Phi, Hds φ' d 0 (Ykn rs) hds -> (Y0p d rs ds).conc φ' = val.conc φ /\ St w0 M (Yb φ' (Ydu d 0 rs ds) ++ R) w := by
 have fin : ∀ {vs : List AV}, (∀ φ, (outA vs).conc φ = val.conc φ) -> (Ys6 rs vs nw fun ds _ => Q ds) -> ∃ ds, Q ds /\
  ∀ (φ : Phi) (w0 : World) (M : List Nat) (R : RL) (w : World), St w0 M (Yb φ nw ++ R) w -> ∃ hds : List Hd, hds.length = (Ykn rs).length /\ ∀ φ' : Phi, Hds φ' d 0 (Ykn rs) hds -> (Y0p d rs ds).conc φ' = val.conc φ /\ St w0 M (Yb φ' (Ydu d 0 rs ds) ++ R) w := by
  intro vs hv h;obtain ⟨ds, nw', h1, h2⟩ := Ymx hd1 (j := 0) h;refine ⟨ds, h1, fun φ w0 M R w hS => ?_⟩;obtain ⟨hds, h3, h4⟩ := h2 φ w0 M [] R w (by simpa using hS);refine ⟨hds, h3, fun φ' hφ => ?_⟩;obtain ⟨a1, a2⟩ := h4 φ' hφ;refine ⟨by rw [<- hv φ]; exact Y0y a1, ?_⟩;simp only [List.nil_append] at a2;refine a2.sub ?_;exact (List.Sublist.refl _).append (List.sublist_append_right _ _)
 unfold Y4g at h
 split at h
 ·refine ⟨rfl, ?_⟩
  split at h
  ·rename_i g ts;exact fin (vs := [val]) (fun φ => rfl) (by unfold Ys6; exact h)
  ·split at h
   ·split at h
    ·exact h.elim
    ·rename_i vs _ hne;refine fin (vs := vs) (fun φ => ?_) h
     match vs with
     | [] => rfl
     | [v] => exact (hne v rfl).elim
     | _ :: _ :: _ => rfl
   ·exact h.elim
 ·exact h.elim
end
end Go.Proofs.YtladoaeefkpdiaaGreatDoor
namespace Go.Proofs.YtladoaeefkpdiaaGreatDoor
open Go.RowKit
attribute [local irreducible] Go.Oper.wp
abbrev Y7b (W : InW) := List (@AV W) -> @Heap W -> (@AX W -> List (@AV W) -> @Heap W -> Prop) -> Prop
structure LE (P : Program) where
 g : FuncId
 key : Nat
 f : (W : InW) -> Y7b W
 ok : ∀ (W : InW) (body a : Code), (P.funcs[g]?).bind (·.body) = some body -> a ∈ Y1 body -> Yg1 a = key -> @Yod W P a (f W)
structure CE (P : Program) where
 g : FuncId
 test : (W : InW) -> List (@AV W) -> @Heap W -> Bool
 f : (W : InW) -> List (@AV W) -> @Heap W -> @KE W -> @KE W -> Prop
 ok : ∀ (W : InW) (args : List (@AV W)) (hp : @Heap W) (k kp : @KE W), f W args hp k kp ->
  (∃ val hs us nw, k val hs us nw /\ @PartOf W hs hp /\ (∀ i ∈ @keys W us, i ∈ @keys W hs) /\ @ACall W P g args hs false val us nw) \/
  (∃ val hs us nw, kp val hs us nw /\ @PartOf W hs hp /\ (∀ i ∈ @keys W us, i ∈ @keys W hs) /\ @ACall W P g args hs true val us nw)
structure Tab (P : Program) where
 pcs : List (PC P)
 les : List (LE P)
 ces : List (CE P)
def Yqc {P : Program} (W : InW) (g : FuncId) (args : List (@AV W)) (hp : @Heap W) : List (CE P) -> Option (CE P)
 | [] => none
 | e :: es => match Nat.beq e.g g with
  | false => Yqc W g args hp es
  | true => match e.test W args hp with | true => some e | false => Yqc W g args hp es
theorem Yrt {P : Program} {W : InW} {g : FuncId} {args : List (@AV W)} {hp : @Heap W} : ∀ {es : List (CE P)} {e : CE P}, Yqc W g args hp es = some e -> e.g = g
 | [], _, h => by cases h
 | q :: es, e, h => by
  unfold Yqc at h
  split at h
  ·exact Yrt h
  ·rename_i hb
   split at h
   ·cases h; exact Nat.eq_of_beq_eq_true hb
   ·exact Yrt h
def Yub {P : Program} : List (PC P) -> FuncId -> Option (PC P)
 | [], _ => none
 | p :: ps, g => match Nat.beq p.g g with | true => some p | false => Yub ps g
def Yuc {P : Program} (W : InW) : List (LE P) -> FuncId -> Nat -> Option (Y7b W)
 | [], _, _ => none
 | e :: es, g, k => match Nat.beq e.g g && Nat.beq e.key k with | true => some (e.f W) | false => Yuc W es g k
theorem Yxr {P : Program} : ∀ {ps : List (PC P)} {g : FuncId} {p : PC P}, Yub ps g = some p -> p.g = g
 | [], _, _, h => by cases h
 | q :: ps, g, p, h => by
  unfold Yub at h
  split at h
  ·rename_i hb; cases h; exact Nat.eq_of_beq_eq_true hb
  ·exact Yxr h
theorem Ynq {P : Program} [W : InW] : ∀ {es : List (LE P)} {g : FuncId} {k : Nat} {f : Y7b W}, @Yuc P W es g k = some f -> ∀ (body a : Code), (P.funcs[g]?).bind (·.body) = some body -> a ∈ Y1 body -> Yg1 a = k -> @Yod W P a f
 | [], _, _, _, h => by cases h
 | e :: es, g, k, f, h => by
  unfold Yuc at h
  split at h
  ·rename_i hb;rw [Bool.and_eq_true] at hb;cases h;intro body a h1 h2 h3;have e1 := Ye.1 hb.1;have e2 := Ye.1 hb.2;exact e.ok W body a (by rw [e1]; exact h1) h2 (by rw [e2]; exact h3)
  ·exact Ynq h
section
variable [W : InW]
def cxT (P : Program) (tt : Tr TI) (T : Tab P) (n m : Nat) : Cx :=
 Nat.rec (motive := fun _ => Cx) { P, tt, sy := false, callH := fun _ _ _ _ _ _ => Stuck 54, symH := fun _ _ _ _ => Stuck 55, roundH := fun _ _ _ _ _ _ => Stuck 54, loopsOf := Yuc W T.les }
  (fun _ c => { P, tt, sy := false, callH := fun g args hp d k kp => match Yub T.pcs g with | some p => Yvx p args hp d k | none => (match Yqc W g args hp T.ces with | some e => e.f W args hp k kp | none => Yzs c n g args hp d k kp), symH := fun _ _ _ _ => Stuck 55, roundH := Y0o c n, loopsOf := Yuc W T.les }) m
theorem Y2w (P : Program) (tt : Tr TI) (T : Tab P) (n : Nat) : ∀ m, (cxT P tt T n m).P = P
 | 0 => rfl
 | _ + 1 => rfl
theorem Yus {P : Program} {tt : Tr TI} {T : Tab P} (ht : TabOk P tt) (hm : P.follows .mixedOrders = true) (n : Nat) : ∀ m, HandOkL (cxT P tt T n m)
 | 0 => ⟨⟨⟨ht, fun _ _ _ _ _ _ h => h.elim, fun _ _ _ _ h => h.elim⟩, fun _ _ _ _ _ _ h => h.elim⟩, fun _ _ _ _ _ h => Ynq h _ _⟩
 | m + 1 => by
  have hP := Y2w P tt T n m;refine ⟨⟨⟨ht, fun g args hp d k kp h => ?_, fun _ _ _ _ h => h.elim⟩, fun L i args hp d k h => ?_⟩, fun _ _ _ _ _ h => Ynq h _ _⟩
  ·have h' : (match Yub T.pcs g with | some p => Yvx p args hp d k | none => (match Yqc W g args hp T.ces with | some e => e.f W args hp k kp | none => Yzs (cxT P tt T n m) n g args hp d k kp)) := h
   split at h'
   ·rename_i p hp';obtain ⟨val, hs, us, nw, h1, h2, h3, h4⟩ := Yyu h';rw [Yxr hp'] at h4;exact .inl ⟨val, hs, us, nw, h1, h2, h3, h4⟩
   ·split at h'
    ·rename_i e he;have := e.ok W args hp k kp h';rw [Yrt he] at this;exact this
    ·have := Yqj (Yus ht hm n m) (by rw [hP]; exact hm) h';unfold Ywy at this;rw [hP] at this;exact this
  ·have := Yvs (Yus ht hm n m).toHandOkR (by rw [hP]; exact hm) (show Y0o (cxT P tt T n m) n L i args hp d k from h);rw [hP] at this;exact this
end
theorem PureOk.of {P : Program} (tt : (W : InW) -> @Tr (@TI W)) (ht : ∀ W : InW, @TabOk W P (tt W)) (hm : P.follows .mixedOrders = true) (T : Tab P) (n m : Nat) {g : FuncId} {ats : List AT} {rs : RTs} {pre : DS -> Prop} {res : DS -> DS}
  (h : ∀ (W : InW) (args : List (@AV W)) (ds : DS), @Yqo W ats args ds -> pre ds -> @Yzs W (@cxT W P (tt W) T n m) n g args [] 0 (@Y4g W rs fun o => o = res ds) fun _ _ _ _ => Stuck 421) : PureOk P g ats rs pre res := by
 intro W args ds ha hpre d hd;have h0 := h W args ds ha hpre;have := Yqj (Yus (T := T) (ht W) hm n m) (by rw [Y2w]; exact hm) h0;rcases this with ⟨val, hs, us, nw, h1, h2, h3, h4⟩ | ⟨_, _, _, _, h1, _⟩
 ·rw [Y2w] at h4;obtain ⟨rfl, o, rfl, h5⟩ := Yza hd h1;have hs0 : hs = [] := by
   cases hs with
   | nil => rfl
   | cons p hs => have := h2.all p List.mem_cons_self; simp [look] at this
  subst hs0;intro φ w0 M R w hnew hS;refine (h4 φ w0 M R w (fun i _ => ⟨Ykv ds ha i, rfl⟩) hS).mono fun e w' ⟨φ1, hag, he, hS'⟩ => ?_;obtain ⟨hds, h6, h7⟩ := h5 φ1 w0 M R w' (by simpa [Yh] using hS');obtain ⟨a1, a2⟩ := h7 (Yff φ d 0 (Ykn rs) hds) (Yjh hd h6);exact ⟨Yff φ d 0 (Ykn rs) hds, Yty hd rs (res ds) hds, by rw [he, a1], by simpa [Yh] using a2⟩
 ·exact h1.elim
end Go.Proofs.YtladoaeefkpdiaaGreatDoor
namespace Go.Proofs.YtladoaeefkpdiaaGreatDoor
open Go.RowKit
variable [InW]
attribute [local irreducible] Go.Oper.wp
inductive Pt where
 | int (k : IntKind)
 | bool
 | str
 | lit (v : Value)
 | ptr (pid k : Nat)
 | row (pid : Nat)
 | rs (ts : List Ty)
 | mp (pid : Nat)
 | yl (pid : Nat)
 | opq (pid : Nat)
 | agg (ps : List Pt)
 | tup (ps : List Pt)
 | fn (f : Fn) (a b : List Pt)
 | ifc (t : TypeId) (p : Pt)
 | held (p : Pt)
 | sl (pid off lo n : Nat)
 | slc (pid off n c : Nat)
 | rwp (pid sz : Nat)
 | emp (pid : Nat)
inductive PreL (L' L : LI) (A : Prop) : Prop where
 | mk (h : L' = L) (a : A)
inductive Ed where
 | i (n : Int)
 | b (b : Bool)
 | s (s : ByteArray)
 | l (xs : Dt)
 | ro (ts : List Ty) (r : Ro ts)
 | m (es : List (Int × Int))
mutual
def Yow : Pt -> AV -> List Ed -> Prop
 | .int k, x, es => ∃ n, x = .si k n /\ es = [.i n]
 | .bool, x, es => ∃ b, x = .sb b /\ es = [.b b]
 | .str, x, es => ∃ s, x = .ss s /\ es = [.s s]
 | .lit v, x, es => x = .v v /\ es = []
 | .ptr pid k, x, es => x = .ptr pid k /\ es = []
 | .row pid, x, es => x = .rw pid /\ es = []
 | .rs ts, x, es => ∃ r : Ro ts, x = .rs ts r /\ es = [.ro ts r]
 | .mp pid, x, es => x = .mp pid /\ es = []
 | .yl pid, x, es => x = .yl pid /\ es = []
 | .opq pid, x, es => x = .opq pid /\ es = []
 | .agg ps, x, es => ∃ xs, x = .agg xs /\ Yle ps xs es
 | .tup ps, x, es => ∃ xs, x = .tup xs /\ Yle ps xs es
 | .fn f a b, x, es => ∃ xs ys e1 e2, x = .fn f xs ys /\ es = e1 ++ e2 /\ Yle a xs e1 /\ Yle b ys e2
 | .ifc t p, x, es => ∃ y, x = .ifc t y /\ Yow p y es
 | .held p, x, es => ∃ y, x = .held y /\ Yow p y es
 | .sl pid a b c, x, es => x = .sl pid a b c /\ es = []
 | .slc pid a b c, x, es => x = .slc pid a b c /\ es = []
 | .rwp pid sz, x, es => ∃ l n : Nat, x = .rwp pid sz l n /\ es = [.i l, .i n]
 | .emp pid, x, es => x = .emp pid /\ es = []
def Yle : List Pt -> List AV -> List Ed -> Prop
 | [], xs, es => xs = [] /\ es = []
 | p :: ps, xs, es => ∃ x xs' e1 e2, xs = x :: xs' /\ es = e1 ++ e2 /\ Yow p x e1 /\ Yle ps xs' e2
end
inductive Src' where
 | id (i : Nat)
 | nil
 | conv (i n : Nat)
 | val (x : AV)
abbrev Bd := List (Nat × Src')
def Ygz : Bd -> Nat -> Option Src'
 | [], _ => none
 | p :: b, i => match Nat.beq p.1 i with | true => some p.2 | false => Ygz b i
def hdOf (φ : Phi) : Src' -> Hd
 | .id i => φ i
 | .nil => ⟨0, true, 0, none, 0, undef, fun _ => False⟩
 | .conv i n => { φ i with fn := n, F := fun _ => False }
 | .val x => ⟨0, false, 0, none, 0, x.conc φ, InW.F⟩
def hB (φ : Phi) (B : Bd) : Phi := fun i => match Ygz B i with | some s => hdOf φ s | none => φ i
def ExtB (B B' : Bd) : Prop := ∀ i s, Ygz B i = some s -> Ygz B' i = some s
theorem ExtB.refl (B : Bd) : ExtB B B := fun _ _ h => h
theorem ExtB.trans {a b c : Bd} (h : ExtB a b) (k : ExtB b c) : ExtB a c := fun i s hi => k i s (h i s hi)
theorem Yc5 {φ : Phi} {B : Bd} {i : Nat} {s : Src'} (h : Ygz B i = some s) : hB φ B i = hdOf φ s := by simp [hB, h]
def Yin (B : Bd) (pid : Nat) (s : Src') (K : Bd -> Prop) : Prop :=
 match Ygz B pid with
 | none => K ((pid, s) :: B)
 | some s' => (match s', s with | .id i, .id j => Yc (Nat.beq i j) (K B) | _, _ => Stuck 430)
theorem Ybp {B : Bd} {pid : Nat} {s : Src'} {K : Bd -> Prop} (h : Yin B pid s K) : ∃ B', K B' /\ ExtB B B' /\ Ygz B' pid = some s := by
 unfold Yin at h
 split at h
 ·rename_i hn;refine ⟨_, h, fun i s' hi => ?_, by simp [Ygz, Nat.beq_refl]⟩;unfold Ygz;cases hb : Nat.beq pid i with
  | true => rw [<- Ye.1 hb, hn] at hi; cases hi
  | false => exact hi
 ·rename_i s' hs
  split at h
  ·obtain ⟨h1, h2⟩ := Ya h;obtain rfl := Ye.1 h1;exact ⟨B, h2, .refl _, hs⟩
  ·exact h.elim
def rsK (ts ts' : List Ty) (r : Ro ts') (K : Ro ts -> Prop) : Prop := if h : Yb1 9 (.sl ts') (.sl ts) = true then K (Ty.sl.inj (Y8 9 _ _ h) ▸ r) else Stuck 448
mutual
def Ybv : Pt -> AV -> Bd -> (AV -> Bd -> List Ed -> Prop) -> Prop
 | .int k, x, B, K => (match x with | .si k' n => Yc (decide (k' = k)) (K (.si k n) B [.i n]) | .v (.int k' n) => Yc (decide (k' = k)) (K (.si k n) B [.i n]) | _ => Stuck 431)
 | .bool, x, B, K => (match x with | .sb b => K (.sb b) B [.b b] | .v (.bool b) => K (.sb b) B [.b b] | _ => Stuck 432)
 | .str, x, B, K => (match x with | .ss s => K (.ss s) B [.s s] | .v (.string s) => K (.ss s) B [.s s] | _ => Stuck 433)
 | .lit v, x, B, K => (match x with | .v u => Yc (Ycz u v) (K (.v v) B []) | _ => Stuck 434)
 | .ptr pid k, x, B, K => (match x with | .ptr i k' => Yc (Nat.beq k' k) (Yin B pid (.id i) fun B => K (.ptr pid k) B []) | _ => Stuck 435)
 | .row pid, x, B, K => (match x with
  | .rw i => Yin B pid (.id i) fun B => K (.rw pid) B []
  | .v (.slice none 0 0) => Yin B pid .nil fun B => K (.rw pid) B []
  | .sl i 0 0 n => Yin B pid (.conv i n) fun B => K (.rw pid) B []
  | _ => Stuck 436)
 | .rs ts, x, B, K => (match x with
  | .rs ts' r => rsK ts ts' r fun r => K (.rs ts r) B [.ro ts r]
  | .v (.slice none 0 0) => K (.rs ts (Ro.nil ts)) B [.ro ts (Ro.nil ts)]
  | _ => Stuck 437)
 | .mp pid, x, B, K => (match x with | .mp i => Yin B pid (.id i) fun B => K (.mp pid) B [] | _ => Stuck 438)
 | .yl pid, x, B, K => (match x with | .yl i => Yin B pid (.id i) fun B => K (.yl pid) B [] | _ => Stuck 439)
 | .opq pid, x, B, K => (match x with
  | .opq i => Yin B pid (.id i) fun B => K (.opq pid) B []
  | .junk => Stuck 440
  | .held _ => Stuck 440
  | x => Yin B pid (.val x) fun B => K (.opq pid) B [])
 | .agg ps, x, B, K => (match x with | .agg xs => Yez ps xs B fun ys B es => K (.agg ys) B es | .v (.agg cs) => Yrj cs.toList fun xs => Yez ps xs B fun ys B es => K (.agg ys) B es | _ => Stuck 441)
 | .tup ps, x, B, K => (match x with | .tup xs => Yez ps xs B fun ys B es => K (.tup ys) B es | _ => Stuck 442)
 | .fn f a b, x, B, K => (match x with | .fn f' xs ys => Yc (decide (f' = f)) (Yez a xs B fun xs B e1 => Yez b ys B fun ys B e2 => K (.fn f xs ys) B (e1 ++ e2)) | _ => Stuck 443)
 | .ifc t p, x, B, K => (match x with | .ifc t' y => Yc (Nat.beq t' t) (Ybv p y B fun y B es => K (.ifc t y) B es) | .v (.iface t' y) => Yc (Nat.beq t' t) (Ybv p (.v y) B fun y B es => K (.ifc t y) B es) | _ => Stuck 444)
 | .held _, _, _, _ => Stuck 445
 | .sl pid a b c, x, B, K => (match x with | .sl i a' b' c' => Yc (Nat.beq a' a && Nat.beq b' b && Nat.beq c' c) (Yin B pid (.id i) fun B => K (.sl pid a b c) B []) | _ => Stuck 473)
 | .slc pid a b c, x, B, K => (match x with | .slc i a' b' c' => Yc (Nat.beq a' a && Nat.beq b' b && Nat.beq c' c) (Yin B pid (.id i) fun B => K (.slc pid a b c) B []) | _ => Stuck 474)
 | .rwp pid sz, x, B, K => (match x with | .rwp i sz' l n => Yc (Nat.beq sz' sz) (Yin B pid (.id i) fun B => K (.rwp pid sz l n) B [.i l, .i n]) | _ => Stuck 484)
 | .emp pid, x, B, K => (match x with | .emp i => Yin B pid (.id i) fun B => K (.emp pid) B [] | _ => Stuck 475)
def Yez : List Pt -> List AV -> Bd -> (List AV -> Bd -> List Ed -> Prop) -> Prop
 | [], xs, B, K => (match xs with | [] => K [] B [] | _ :: _ => Stuck 446)
 | p :: ps, xs, B, K => (match xs with | [] => Stuck 447 | x :: xs => Ybv p x B fun y B e1 => Yez ps xs B fun ys B e2 => K (y :: ys) B (e1 ++ e2))
end
theorem Y3r {ts ts' : List Ty} {r : Ro ts'} {K : Ro ts -> Prop} (h : rsK ts ts' r K) : ∃ q : Ro ts, K q /\ q.v = r.v := by
 unfold rsK at h
 split at h
 ·rename_i hs;have e := Ty.sl.inj (Y8 9 _ _ hs);subst e;exact ⟨_, h, rfl⟩
 ·exact h.elim
def Same (B : Bd) (x y : AV) : Prop := ∀ B', ExtB B B' -> ∀ φ, y.conc (hB φ B') = x.conc φ
theorem Same.ext {B B' : Bd} {x y : AV} (h : Same B x y) (hB : ExtB B B') : Same B' x y := fun B2 h2 => h B2 (hB.trans h2)
def SameL (B : Bd) (xs ys : List AV) : Prop := ∀ B', ExtB B B' -> ∀ φ, AV.concL (hB φ B') ys = AV.concL φ xs
mutual
theorem Ydh : ∀ (p : Pt) (x : AV) (B : Bd) (K : AV -> Bd -> List Ed -> Prop), Ybv p x B K -> ∃ y B' es, K y B' es /\ Yow p y es /\ ExtB B B' /\ Same B' x y /\ x.rd = true /\ y.rd = true
  | .int k, x, B, K, h => by
    unfold Ybv at h
    split at h
    · obtain ⟨h1, h2⟩ := Ya h;obtain rfl := of_decide_eq_true h1;exact ⟨_, _, _, h2, ⟨_, rfl, rfl⟩, .refl _, fun _ _ _ => rfl, rfl, rfl⟩
    · obtain ⟨h1, h2⟩ := Ya h;obtain rfl := of_decide_eq_true h1;exact ⟨_, _, _, h2, ⟨_, rfl, rfl⟩, .refl _, fun _ _ _ => rfl, rfl, rfl⟩
    · exact h.elim
  | .bool, x, B, K, h => by
    unfold Ybv at h
    split at h
    · exact ⟨_, _, _, h, ⟨_, rfl, rfl⟩, .refl _, fun _ _ _ => rfl, rfl, rfl⟩
    · exact ⟨_, _, _, h, ⟨_, rfl, rfl⟩, .refl _, fun _ _ _ => rfl, rfl, rfl⟩
    · exact h.elim
  | .str, x, B, K, h => by
    unfold Ybv at h
    split at h
    · exact ⟨_, _, _, h, ⟨_, rfl, rfl⟩, .refl _, fun _ _ _ => rfl, rfl, rfl⟩
    · exact ⟨_, _, _, h, ⟨_, rfl, rfl⟩, .refl _, fun _ _ _ => rfl, rfl, rfl⟩
    · exact h.elim
  | .lit v, x, B, K, h => by
    unfold Ybv at h
    split at h
    · obtain ⟨h1, h2⟩ := Ya h;rw [Yd4 _ _ h1];exact ⟨_, _, _, h2, ⟨rfl, rfl⟩, .refl _, fun _ _ _ => rfl, rfl, rfl⟩
    · exact h.elim
  | .ptr pid k, x, B, K, h => by
    unfold Ybv at h
    split at h
    · obtain ⟨h1, h2⟩ := Ya h;obtain rfl := Ye.1 h1;obtain ⟨B', h3, h4, h5⟩ := Ybp h2;exact ⟨_, _, _, h3, ⟨rfl, rfl⟩, h4, fun B2 hB2 φ => by simp only [AV.conc, Yc5 (hB2 _ _ h5), hdOf], rfl, rfl⟩
    · exact h.elim
  | .row pid, x, B, K, h => by
    unfold Ybv at h
    split at h
    · obtain ⟨B', h3, h4, h5⟩ := Ybp h;exact ⟨_, _, _, h3, ⟨rfl, rfl⟩, h4, fun B2 hB2 φ => by simp only [AV.conc, Yc5 (hB2 _ _ h5), hdOf], rfl, rfl⟩
    · obtain ⟨B', h3, h4, h5⟩ := Ybp h;exact ⟨_, _, _, h3, ⟨rfl, rfl⟩, h4, fun B2 hB2 φ => by simp only [AV.conc, Yc5 (hB2 _ _ h5), hdOf]; rfl, rfl, rfl⟩
    · obtain ⟨B', h3, h4, h5⟩ := Ybp h;exact ⟨_, _, _, h3, ⟨rfl, rfl⟩, h4, fun B2 hB2 φ => by simp only [AV.conc, Yc5 (hB2 _ _ h5), hdOf, Nat.sub_zero], rfl, rfl⟩
    · exact h.elim
  | .rs ts, x, B, K, h => by
    unfold Ybv at h
    split at h
    · obtain ⟨q, h1, h2⟩ := Y3r h;exact ⟨_, _, _, h1, ⟨_, rfl, rfl⟩, .refl _, fun _ _ _ => h2, rfl, rfl⟩
    · exact ⟨_, _, _, h, ⟨_, rfl, rfl⟩, .refl _, fun _ _ _ => rfl, rfl, rfl⟩
    · exact h.elim
  | .mp pid, x, B, K, h => by
    unfold Ybv at h
    split at h
    · obtain ⟨B', h3, h4, h5⟩ := Ybp h;exact ⟨_, _, _, h3, ⟨rfl, rfl⟩, h4, fun B2 hB2 φ => by simp only [AV.conc, Yc5 (hB2 _ _ h5), hdOf], rfl, rfl⟩
    · exact h.elim
  | .yl pid, x, B, K, h => by
    unfold Ybv at h
    split at h
    · obtain ⟨B', h3, h4, h5⟩ := Ybp h;exact ⟨_, _, _, h3, ⟨rfl, rfl⟩, h4, fun B2 hB2 φ => by simp only [AV.conc, Yc5 (hB2 _ _ h5), hdOf], rfl, rfl⟩
    · exact h.elim
  | .opq pid, x, B, K, h => by
    unfold Ybv at h;have fin : ∀ x : AV, x.rd = true -> (Yin B pid (.val x) fun B => K (.opq pid) B []) -> ∃ y B' es, K y B' es /\ Yow (.opq pid) y es /\ ExtB B B' /\ Same B' x y /\ x.rd = true /\ y.rd = true := fun x hx h => by
      obtain ⟨B', h3, h4, h5⟩ := Ybp h;exact ⟨_, _, _, h3, ⟨rfl, rfl⟩, h4, fun B2 hB2 φ => by simp only [AV.conc, Yc5 (hB2 _ _ h5), hdOf], hx, rfl⟩
    cases x <;> first
      | exact h.elim
      | exact fin _ rfl h
      | (obtain ⟨B', h3, h4, h5⟩ := Ybp h
         exact ⟨_, _, _, h3, ⟨rfl, rfl⟩, h4, fun B2 hB2 φ => by simp only [AV.conc, Yc5 (hB2 _ _ h5), hdOf], rfl, rfl⟩)
  | .agg ps, x, B, K, h => by
    unfold Ybv at h
    split at h
    · obtain ⟨ys, B', es, h1, h2, h3, h4⟩ := Ybl ps _ B _ h;exact ⟨_, _, _, h1, ⟨_, rfl, h2⟩, h3, fun B2 hB2 φ => by simp only [AV.conc, h4 B2 hB2 φ], rfl, rfl⟩
    · obtain ⟨ys, B', es, h1, h2, h3, h4⟩ := Ybl ps _ B _ (Yeg.1 h);exact ⟨_, _, _, h1, ⟨_, rfl, h2⟩, h3, fun B2 hB2 φ => by simp [AV.conc, h4 B2 hB2 φ, Yw, Function.comp_def], rfl, rfl⟩
    · exact h.elim
  | .tup ps, x, B, K, h => by
    unfold Ybv at h
    split at h
    · obtain ⟨ys, B', es, h1, h2, h3, h4⟩ := Ybl ps _ B _ h;exact ⟨_, _, _, h1, ⟨_, rfl, h2⟩, h3, fun B2 hB2 φ => by simp only [AV.conc, h4 B2 hB2 φ], rfl, rfl⟩
    · exact h.elim
  | .fn f a b, x, B, K, h => by
    unfold Ybv at h
    split at h
    · obtain ⟨h0, h⟩ := Ya h;obtain rfl := of_decide_eq_true h0;obtain ⟨ys, B', es, h1, h2, h3, h4⟩ := Ybl a _ B _ h;obtain ⟨zs, B2, es2, k1, k2, k3, k4⟩ := Ybl b _ B' _ h1;exact ⟨_, _, _, k1, ⟨_, _, _, _, rfl, rfl, h2, k2⟩, h3.trans k3, fun B3 hB3 φ => by simp only [AV.conc, h4 B3 (k3.trans hB3) φ, k4 B3 hB3 φ], rfl, rfl⟩
    · exact h.elim
  | .ifc t p, x, B, K, h => by
    unfold Ybv at h
    split at h
    · obtain ⟨h0, h⟩ := Ya h;obtain rfl := Ye.1 h0;obtain ⟨y, B', es, h1, h2, h3, h4, _, _⟩ := Ydh p _ B _ h;exact ⟨_, _, _, h1, ⟨_, rfl, h2⟩, h3, fun B3 hB3 φ => by simp only [AV.conc, h4 B3 hB3 φ], rfl, rfl⟩
    · obtain ⟨h0, h⟩ := Ya h;obtain rfl := Ye.1 h0;obtain ⟨y, B', es, h1, h2, h3, h4, _, _⟩ := Ydh p _ B _ h;exact ⟨_, _, _, h1, ⟨_, rfl, h2⟩, h3, fun B3 hB3 φ => by simp only [AV.conc, h4 B3 hB3 φ], rfl, rfl⟩
    · exact h.elim
  | .held _, _, _, _, h => by unfold Ybv at h; exact h.elim
  | .sl pid a b c, x, B, K, h => by
    unfold Ybv at h
    split at h
    · obtain ⟨h1, h2⟩ := Ya h;simp only [Bool.and_eq_true, Ye] at h1;obtain ⟨⟨rfl, rfl⟩, rfl⟩ := h1;obtain ⟨B', h3, h4, h5⟩ := Ybp h2;exact ⟨_, _, _, h3, ⟨rfl, rfl⟩, h4, fun B2 hB2 φ => by simp only [AV.conc, Yc5 (hB2 _ _ h5), hdOf], rfl, rfl⟩
    · exact h.elim
  | .slc pid a b c, x, B, K, h => by
    unfold Ybv at h
    split at h
    · obtain ⟨h1, h2⟩ := Ya h;simp only [Bool.and_eq_true, Ye] at h1;obtain ⟨⟨rfl, rfl⟩, rfl⟩ := h1;obtain ⟨B', h3, h4, h5⟩ := Ybp h2;exact ⟨_, _, _, h3, ⟨rfl, rfl⟩, h4, fun B2 hB2 φ => by simp only [AV.conc, Yc5 (hB2 _ _ h5), hdOf], rfl, rfl⟩
    · exact h.elim
  | .rwp pid sz, x, B, K, h => by
    unfold Ybv at h
    split at h
    · obtain ⟨h1, h2⟩ := Ya h;obtain rfl := Ye.1 h1;obtain ⟨B', h3, h4, h5⟩ := Ybp h2;exact ⟨_, _, _, h3, ⟨_, _, rfl, rfl⟩, h4, fun B2 hB2 φ => by simp only [AV.conc, Yc5 (hB2 _ _ h5), hdOf], rfl, rfl⟩
    · exact h.elim
  | .emp pid, x, B, K, h => by
    unfold Ybv at h
    split at h
    · obtain ⟨B', h3, h4, h5⟩ := Ybp h;exact ⟨_, _, _, h3, ⟨rfl, rfl⟩, h4, fun B2 hB2 φ => by simp only [AV.conc, Yc5 (hB2 _ _ h5), hdOf], rfl, rfl⟩
    · exact h.elim
theorem Ybl : ∀ (ps : List Pt) (xs : List AV) (B : Bd) (K : List AV -> Bd -> List Ed -> Prop), Yez ps xs B K -> ∃ ys B' es, K ys B' es /\ Yle ps ys es /\ ExtB B B' /\ SameL B' xs ys
 | [], xs, B, K, h => by
  unfold Yez at h
  split at h
  ·exact ⟨_, _, _, h, ⟨rfl, rfl⟩, .refl _, fun _ _ _ => rfl⟩
  ·exact h.elim
 | p :: ps, xs, B, K, h => by
  unfold Yez at h
  split at h
  ·exact h.elim
  ·obtain ⟨y, B', e1, h1, h2, h3, h4, _, _⟩ := Ydh p _ B _ h;obtain ⟨ys, B2, e2, k1, k2, k3, k4⟩ := Ybl ps _ B' _ h1;exact ⟨_, _, _, k1, ⟨_, _, _, _, rfl, rfl, h2, k2⟩, h3.trans k3, fun B3 hB3 φ => by simp only [AV.concL, h4 B3 (k3.trans hB3) φ, k4 B3 hB3 φ]⟩
end
end Go.Proofs.YtladoaeefkpdiaaGreatDoor
namespace Go.Proofs.YtladoaeefkpdiaaGreatDoor
open Go.RowKit
variable [InW]
attribute [local irreducible] Go.Oper.wp
inductive PI where
 | blk (T : TypeId) (ps : List Pt)
 | arr (T : Nat) (ts : List Ty)
 | row (T sz n : Nat) (ps : List Pt)
 | obj (x : OI)
 | mpI
 | mpP
 | lp (L : LI) (ps : List Pt)
 | dead
 | nst (T : Nat) (ts : List Ty)
 | fro (ts : List Ty)
def PI.isDead : PI -> Bool
 | .dead => true
 | _ => false
def Y5b (p : PI) (it : It) (es : List Ed) : Prop :=
 match p with
 | .blk T ps => ∃ xs, it = .blk T xs /\ Yle ps xs es
 | .arr T ts => ∃ xs, it = .arr T ts xs /\ es = [.l xs]
 | .row T sz n ps => ∃ xs, it = .row T sz n xs /\ Yle ps xs es
 | .obj x => it = .obj x /\ es = []
 | .mpI => ∃ xs, it = .obj (.mpI xs) /\ es = [.m xs]
 | .mpP => ∃ xs, it = .obj (.mpP xs) /\ es = [.l xs]
 | .lp L ps => ∃ xs, it = .lp L xs /\ Yle ps xs es
 | .dead => it = .dead /\ es = []
 | .nst T ts => ∃ xs, it = .nst T ts xs /\ es = [.l xs]
 | .fro ts => ∃ xs, it = .fro ts xs /\ es = [.l xs]
def Yir : List (Nat × PI) -> Heap -> List Ed -> Prop
 | [], h, es => h = [] /\ es = []
 | p :: ps, h, es => ∃ it h' e1 e2, h = (p.1, it) :: h' /\ es = e1 ++ e2 /\ Y5b p.2 it e1 /\ Yir ps h' e2
def Y1i (p : PI) (it : It) (B : Bd) (K : It -> Bd -> List Ed -> Prop) : Prop :=
 match p with
 | .blk T ps => (match it with | .blk T' xs => Yc (Nat.beq T' T) (Yez ps xs B fun ys B es => K (.blk T ys) B es) | _ => Stuck 450)
 | .arr T ts => (match it with | .arr T' ts' xs => Yc (Nat.beq T' T && Ycc.sameTs ts' ts) (K (.arr T ts xs) B [.l xs]) | _ => Stuck 451)
 | .row T sz n ps => (match it with | .row T' sz' n' xs => Yc (Nat.beq T' T && Nat.beq sz' sz && Nat.beq n' n) (Yez ps xs B fun ys B es => K (.row T sz n ys) B es) | _ => Stuck 452)
 | .obj x => Yc (Y0g it (.obj x)) (K (.obj x) B [])
 | .mpI => (match it with | .obj (.mpI xs) => K (.obj (.mpI xs)) B [.m xs] | .obj (.mpV [] 0) => K (.obj (.mpI [])) B [.m []] | _ => Stuck 476)
 | .mpP => (match it with | .obj (.mpP xs) => K (.obj (.mpP xs)) B [.l xs] | .obj (.mpV [] 0) => K (.obj (.mpP [])) B [.l []] | _ => Stuck 476)
 | .lp L ps => (match it with | .lp L' xs => PreL L' L (Yez ps xs B fun ys B es => K (.lp L ys) B es) | _ => Stuck 477)
 | .dead => Stuck 479
 | .nst T ts => (match it with | .nst T' ts' xs => Yc (Nat.beq T' T && Yb1 9 (.sl ts') (.sl ts)) (K (.nst T ts xs) B [.l xs]) | _ => Stuck 451)
 | .fro ts => (match it with | .fro ts' xs => Yc (Yb1 9 (.sl ts') (.sl ts)) (K (.fro ts xs) B [.l xs]) | _ => Stuck 451)
def Y8f (B : Bd) (it : It) (i : Nat) (y : It) (pid : Nat) : Prop := ∀ B', ExtB B B' -> ∀ φ : Phi, y.conc (hB φ B') pid = it.conc φ i
theorem Yv3 {p : PI} {it : It} {B : Bd} {K : It -> Bd -> List Ed -> Prop} (h : Y1i p it B K) {pid i : Nat} (hl : Ygz B pid = some (.id i)) : ∃ y B' es, K y B' es /\ Y5b p y es /\ ExtB B B' /\ Y8f B' it i y pid := by
 unfold Y1i at h
 split at h
 ·split at h
  ·obtain ⟨h1, h2⟩ := Ya h;obtain rfl := Ye.1 h1;obtain ⟨ys, B', es, h3, h4, h5, h6⟩ := Ybl _ _ _ _ h2;exact ⟨_, _, _, h3, ⟨_, rfl, h4⟩, h5, fun B2 hB2 φ => by simp only [It.conc, h6 B2 hB2 φ, Yc5 (hB2 _ _ (h5 _ _ hl)), hdOf]⟩
  ·exact h.elim
 ·split at h
  ·obtain ⟨h1, h2⟩ := Ya h;simp only [Bool.and_eq_true, Ye] at h1;obtain ⟨rfl, h12⟩ := h1;obtain ⟨e, _⟩ := Y9 h12;subst e;exact ⟨_, _, _, h2, ⟨_, rfl, rfl⟩, .refl _, fun B2 hB2 φ => by simp only [It.conc, Yc5 (hB2 _ _ hl), hdOf]⟩
  ·exact h.elim
 ·split at h
  ·obtain ⟨h1, h2⟩ := Ya h;simp only [Bool.and_eq_true, Ye] at h1;obtain ⟨⟨rfl, rfl⟩, rfl⟩ := h1;obtain ⟨ys, B', es, h3, h4, h5, h6⟩ := Ybl _ _ _ _ h2;exact ⟨_, _, _, h3, ⟨_, rfl, h4⟩, h5, fun B2 hB2 φ => by simp only [It.conc, h6 B2 hB2 φ, Yc5 (hB2 _ _ (h5 _ _ hl)), hdOf]⟩
  ·exact h.elim
 ·obtain ⟨h1, h2⟩ := Ya h;rw [Ypc h1];exact ⟨_, _, _, h2, ⟨rfl, rfl⟩, .refl _, fun B2 hB2 φ => by simp only [It.conc, Yc5 (hB2 _ _ hl), hdOf]⟩
 ·split at h
  ·exact ⟨_, _, _, h, ⟨_, rfl, rfl⟩, .refl _, fun B2 hB2 φ => by simp only [It.conc, Yc5 (hB2 _ _ hl), hdOf]⟩
  ·exact ⟨_, _, _, h, ⟨_, rfl, rfl⟩, .refl _, fun B2 hB2 φ => by simp only [It.conc, Yc5 (hB2 _ _ hl), hdOf, OI.obj, entI]; rfl⟩
  ·exact h.elim
 ·split at h
  ·exact ⟨_, _, _, h, ⟨_, rfl, rfl⟩, .refl _, fun B2 hB2 φ => by simp only [It.conc, Yc5 (hB2 _ _ hl), hdOf]⟩
  ·exact ⟨_, _, _, h, ⟨_, rfl, rfl⟩, .refl _, fun B2 hB2 φ => by simp only [It.conc, Yc5 (hB2 _ _ hl), hdOf, OI.obj, entP]; rfl⟩
  ·exact h.elim
 ·split at h
  ·obtain ⟨rfl, h2⟩ := h;obtain ⟨ys, B', es, h3, h4, h5, h6⟩ := Ybl _ _ _ _ h2;exact ⟨_, _, _, h3, ⟨_, rfl, h4⟩, h5, fun B2 hB2 φ => by simp only [It.conc, h6 B2 hB2 φ, Yc5 (hB2 _ _ (h5 _ _ hl)), hdOf]⟩
  ·exact h.elim
 ·exact h.elim
 ·split at h
  ·obtain ⟨h1, h2⟩ := Ya h;simp only [Bool.and_eq_true, Ye] at h1;obtain ⟨rfl, h12⟩ := h1;have e := Ty.sl.inj (Y8 _ _ _ h12);subst e;exact ⟨_, _, _, h2, ⟨_, rfl, rfl⟩, .refl _, fun B2 hB2 φ => by simp only [It.conc, Yc5 (hB2 _ _ hl), hdOf]⟩
  ·exact h.elim
 ·split at h
  ·obtain ⟨h1, h2⟩ := Ya h;have e := Ty.sl.inj (Y8 _ _ _ h1);subst e;exact ⟨_, _, _, h2, ⟨_, rfl, rfl⟩, .refl _, fun B2 hB2 φ => by simp only [It.conc, Yc5 (hB2 _ _ hl), hdOf]⟩
  ·exact h.elim
def Yzv (ts : List Ty) (x : AV) (K : Dt -> Prop) : Prop :=
 match x with
 | .rs ts' r => Yc (Yb1 9 (.sl ts') (.sl ts)) (K r.xs)
 | .v (.slice none 0 0) => K []
 | _ => Stuck 486
theorem Yu5 {ts : List Ty} {x : AV} {K : Dt -> Prop} (h : Yzv ts x K) : ∃ xs, K xs /\ ∀ (φ : Phi) (w0 : World) (M : List Nat) (L : RL) (w : World), St w0 M L w -> St w0 M (Res.fro (x.conc φ) ts xs InW.F :: L) w := by
 have key : ∀ (v : Value) (xs : Dt), RdV (.sl ts) v (.l xs) -> ∀ (w0 : World) (M : List Nat) (L : RL) (w : World), St w0 M L w -> St w0 M (Res.fro v ts xs InW.F :: L) w := fun v xs hr w0 M L w hS =>
  hS.add (Ext.refl _) (Yjm (fun b hb => Nat.lt_of_lt_of_le (InW.lt b hb) (Nat.le_trans hS.inw.base hS.kept.size)) (RdV.nowF hS (fun b hb => hb) hr)) (by simp [Res.fro, Res.foot]) (fun b hb => .inr hb)
 unfold Yzv at h
 split at h
 ·rename_i ts' r;obtain ⟨h1, h2⟩ := Ya h;have e := Ty.sl.inj (Y8 _ _ _ h1);subst e;exact ⟨_, h2, fun φ => key _ _ r.2⟩
 ·exact ⟨_, h, fun φ => key _ _ (RdV.nil rfl)⟩
 ·exact h.elim
def Yd0 : List (Nat × PI) -> Bd -> Heap -> (Heap -> Bd -> Heap -> List Ed -> Prop) -> Prop
 | [], B, hp, K => K [] B hp []
 | (pid, p) :: ps, B, hp, K => match p.isDead with
  | true => Yd0 ps B hp fun ys B hp e2 => K ((pid, .dead) :: ys) B hp e2
  | false => match Ygz B pid with
  | some (.id i) => Yu hp i fun it => delK hp i fun hp => Y1i p it B fun y B e1 => Yd0 ps B hp fun ys B hp e2 => K ((pid, y) :: ys) B hp (e1 ++ e2)
  | some (.conv i n) => (match p with
   | .arr T ts => Yu hp i fun it => delK hp i fun hp => (match it with
    | .row T' sz n' cs => Yc (Nat.beq T' T && Nat.beq sz ts.length && Nat.beq n' n) (Ys5 ts n cs fun xs => Yd0 ps B hp fun ys B hp e2 => K ((pid, .arr T ts xs) :: ys) B hp (.l xs :: e2))
    | _ => Stuck 453)
   | _ => Stuck 454)
  | some .nil => (match p with
   | .arr T ts => Yd0 ps B hp fun ys B hp e2 => K ((pid, .arr T ts []) :: ys) B hp (.l [] :: e2)
   | .nst T ts => Yd0 ps B hp fun ys B hp e2 => K ((pid, .nst T ts []) :: ys) B hp (.l [] :: e2)
   | _ => Stuck 455)
  | some (.val x) => (match p with
   | .fro ts => Yzv ts x fun xs => Yd0 ps B hp fun ys B hp e2 => K ((pid, .fro ts xs) :: ys) B hp (.l xs :: e2)
   | _ => Stuck 456)
  | _ => Stuck 456
theorem Ycf : ∀ (ps : List (Nat × PI)) (B : Bd) (hp : Heap) (K : Heap -> Bd -> Heap -> List Ed -> Prop), Yd0 ps B hp K -> ∃ ys B' rest es, K ys B' rest es /\ Yir ps ys es /\ ExtB B B' /\ rest.Sublist hp /\
  ∀ B2, ExtB B' B2 -> ∀ φ : Phi, (∀ (w0 : World) (M : List Nat) (A R : RL) (w : World), St w0 M (A ++ (Yb φ hp ++ R)) w -> St w0 M (A ++ (Yb (hB φ B2) ys ++ (Yb φ rest ++ R))) w) /\
   ∃ D, (Yb (hB φ B2) ys ++ Yb φ rest).Perm (D ++ Yb φ hp)
 | [], B, hp, K, h => ⟨[], B, hp, [], h, ⟨rfl, rfl⟩, .refl _, List.Sublist.refl _, fun B2 _ φ => ⟨fun w0 M A R w hS => by simpa [Yb] using hS, [], by simp [Yb]⟩⟩
 | (pid, p) :: ps, B, hp, K, h => by
  unfold Yd0 at h
  split at h
  ·rename_i hd;have e : p = .dead := by cases p <;> first | rfl | cases hd
   subst e;obtain ⟨ys, B2, rest, es, k1, k2, k3, k3s, k4⟩ := Ycf ps _ _ _ h;refine ⟨_, _, _, _, k1, ⟨_, _, [], es, rfl, rfl, ⟨rfl, rfl⟩, k2⟩, k3, k3s, fun B3 hB3 φ => ⟨fun w0 M A R w hS => ?_, ?_⟩⟩
   ·have h1 := (k4 B3 hB3 φ).1 w0 M _ R w hS;have h2 := h1.add (Ext.refl _) (r := .row (.slice none 0 0) 0 0 0 []) ⟨by simp, .inl ⟨rfl, rfl⟩⟩ (by simp [Res.foot, Value.ownBlock]);have e : Yb (hB φ B3) ((pid, .dead) :: ys) = Res.row (.slice none 0 0) 0 0 0 [] :: Yb (hB φ B3) ys := rfl;rw [e];exact h2.perm (by simpa using List.perm_middle.symm)
   ·obtain ⟨D, hD⟩ := (k4 B3 hB3 φ).2;exact ⟨It.dead.conc (hB φ B3) pid :: D, by simpa [Yb] using hD.cons (It.dead.conc (hB φ B3) pid)⟩
  rename_i hnd;clear hnd
  split at h
  ·rename_i i hl;obtain ⟨it, h1, h2⟩ := Yf h;obtain ⟨hp1, h3, h4, h4s⟩ := Yks h2 h1;obtain ⟨y, B1, e1, h5, h6, h7, h8⟩ := Yv3 h3 hl;obtain ⟨ys, B2, rest, es, k1, k2, k3, k3s, k4⟩ := Ycf ps _ _ _ h5;refine ⟨_, _, _, _, k1, ⟨_, _, _, _, rfl, rfl, h6, k2⟩, h7.trans k3, k3s.trans h4s, fun B3 hB3 φ => ?_⟩;have e : Yb (hB φ B3) ((pid, y) :: ys) = it.conc φ i :: Yb (hB φ B3) ys := by
    simp only [Yb, List.map_cons, h8 B3 (k3.trans hB3) φ]
   refine ⟨fun w0 M A R w hS => ?_, ?_⟩
   ·have h9 : St w0 M ((A ++ [it.conc φ i]) ++ (Yb φ hp1 ++ R)) w := hS.perm (by
     rw [List.append_assoc];exact ((Yv h4).append_right R).append_left A)
    have := (k4 B3 hB3 φ).1 w0 M _ R w h9;rw [e];simpa using this
   ·obtain ⟨D, hD⟩ := (k4 B3 hB3 φ).2;refine ⟨D, ?_⟩;rw [e, List.cons_append];refine (hD.cons _).trans ?_;refine List.perm_middle.symm.trans ?_;exact (Yv h4).symm.append_left D
  ·rename_i i n hl
   split at h
   ·obtain ⟨it, h1, h2⟩ := Yf h;obtain ⟨hp1, h3, h4, h4s⟩ := Yks h2 h1
    split at h3
    ·rename_i T ts _ T' sz n' cs;obtain ⟨h5, h6⟩ := Ya h3;simp only [Bool.and_eq_true, Ye] at h5;obtain ⟨⟨rfl, rfl⟩, rfl⟩ := h5;obtain ⟨xs, h7, h8, h9, _⟩ := Ydc h6;obtain ⟨ys, B2, rest, es, k1, k2, k3, k3s, k4⟩ := Ycf ps _ _ _ h7;refine ⟨_, _, _, _, k1, ⟨_, _, [.l xs], es, rfl, rfl, ⟨_, rfl, rfl⟩, k2⟩, k3, k3s.trans h4s, fun B3 hB3 φ => ?_⟩;have e : Yb (hB φ B3) ((pid, .arr T' ts xs) :: ys) = (It.row T' ts.length n' cs).conc φ i :: Yb (hB φ B3) ys := by
      simp only [Yb, List.map_cons, It.conc, Yc5 (hB3 _ _ (k3 _ _ hl)), hdOf, h9 φ]
     refine ⟨fun w0 M A R w hS => ?_, ?_⟩
     ·have h9' : St w0 M ((A ++ [(It.row T' ts.length n' cs).conc φ i]) ++ (Yb φ hp1 ++ R)) w := hS.perm (by
       rw [List.append_assoc];exact ((Yv h4).append_right R).append_left A)
      have := (k4 B3 hB3 φ).1 w0 M _ R w h9';rw [e];simpa using this
     ·obtain ⟨D, hD⟩ := (k4 B3 hB3 φ).2;refine ⟨D, ?_⟩;rw [e, List.cons_append];refine (hD.cons _).trans ?_;refine List.perm_middle.symm.trans ?_;exact (Yv h4).symm.append_left D
    ·exact h3.elim
   ·exact h.elim
  ·rename_i hl
   split at h
   ·rename_i T ts;obtain ⟨ys, B2, rest, es, k1, k2, k3, k3s, k4⟩ := Ycf ps _ _ _ h;refine ⟨_, _, _, _, k1, ⟨_, _, [.l []], es, rfl, rfl, ⟨_, rfl, rfl⟩, k2⟩, k3, k3s, fun B3 hB3 φ => ⟨fun w0 M A R w hS => ?_, ?_⟩⟩
    ·have h1 := (k4 B3 hB3 φ).1 w0 M _ R w hS;have h2 := h1.add (Ext.refl _) (r := .row (.slice none 0 0) T ts.length 0 []) ⟨by simp, .inl ⟨rfl, rfl⟩⟩ (by simp [Res.foot, Value.ownBlock]);have e : Yb (hB φ B3) ((pid, .arr T ts []) :: ys) = Res.row (.slice none 0 0) T ts.length 0 [] :: Yb (hB φ B3) ys := by
      simp only [Yb, List.map_cons, It.conc, Yc5 (hB3 _ _ (k3 _ _ hl)), hdOf, Yl]; rfl
     rw [e];exact h2.perm (by rw [List.cons_append]; exact List.perm_middle.symm)
    ·obtain ⟨D, hD⟩ := (k4 B3 hB3 φ).2;exact ⟨(It.arr T ts []).conc (hB φ B3) pid :: D, by simpa [Yb] using hD.cons ((It.arr T ts []).conc (hB φ B3) pid)⟩
   ·rename_i T ts;obtain ⟨ys, B2, rest, es, k1, k2, k3, k3s, k4⟩ := Ycf ps _ _ _ h;refine ⟨_, _, _, _, k1, ⟨_, _, [.l []], es, rfl, rfl, ⟨_, rfl, rfl⟩, k2⟩, k3, k3s, fun B3 hB3 φ => ⟨fun w0 M A R w hS => ?_, ?_⟩⟩
    ·have h1 := (k4 B3 hB3 φ).1 w0 M _ R w hS;have h2 := h1.add (Ext.refl _) (r := Res.nst (.slice none 0 0) T ts 0 [] fun _ => False) (Ygw (fun b hb => hb.elim) (fun b hb hz => hz) ⟨rfl, [], ⟨by simp, .inl ⟨rfl, rfl⟩⟩, fun i k t hi => by simp at hi⟩) (by simp [Res.nst, Res.foot, Value.ownBlock]) (fun b hb => hb.elim);have e : Yb (hB φ B3) ((pid, .nst T ts []) :: ys) = Res.nst (.slice none 0 0) T ts 0 [] (fun _ => False) :: Yb (hB φ B3) ys := by
      simp only [Yb, List.map_cons, It.conc, Yc5 (hB3 _ _ (k3 _ _ hl)), hdOf]; rfl
     rw [e];exact h2.perm (by rw [List.cons_append]; exact List.perm_middle.symm)
    ·obtain ⟨D, hD⟩ := (k4 B3 hB3 φ).2;exact ⟨(It.nst T ts []).conc (hB φ B3) pid :: D, by simpa [Yb] using hD.cons ((It.nst T ts []).conc (hB φ B3) pid)⟩
   ·exact h.elim
  ·rename_i x hl
   split at h
   ·rename_i ts;obtain ⟨xs, h, hv⟩ := Yu5 h;obtain ⟨ys, B2, rest, es, k1, k2, k3, k3s, k4⟩ := Ycf ps _ _ _ h;refine ⟨_, _, _, _, k1, ⟨_, _, [.l xs], es, rfl, rfl, ⟨_, rfl, rfl⟩, k2⟩, k3, k3s, fun B3 hB3 φ => ⟨fun w0 M A R w hS => ?_, ?_⟩⟩
    ·have h1 := (k4 B3 hB3 φ).1 w0 M _ R w hS;have h2 := hv φ _ _ _ _ h1;have e : Yb (hB φ B3) ((pid, .fro ts xs) :: ys) = Res.fro (x.conc φ) ts xs InW.F :: Yb (hB φ B3) ys := by
      simp only [Yb, List.map_cons, It.conc, Yc5 (hB3 _ _ (k3 _ _ hl)), hdOf]
     rw [e];exact h2.perm (by rw [List.cons_append]; exact List.perm_middle.symm)
    ·obtain ⟨D, hD⟩ := (k4 B3 hB3 φ).2;exact ⟨(It.fro ts xs).conc (hB φ B3) pid :: D, by simpa [Yb] using hD.cons ((It.fro ts xs).conc (hB φ B3) pid)⟩
   ·exact h.elim
  ·exact h.elim
theorem Yfx : ∀ (ps : List (Nat × PI)) (B : Bd) (hp : Heap) (K : Heap -> Bd -> Heap -> List Ed -> Prop), Yd0 ps B hp K -> ∃ ys B' rest es, K ys B' rest es /\ Yir ps ys es /\ ExtB B B' /\ rest.Sublist hp /\
  ∀ B2, ExtB B' B2 -> ∀ (φ : Phi) (w0 : World) (M : List Nat) (A R : RL) (w : World), St w0 M (A ++ (Yb φ hp ++ R)) w -> St w0 M (A ++ (Yb (hB φ B2) ys ++ (Yb φ rest ++ R))) w := fun ps B hp K h => by
 obtain ⟨ys, B', rest, es, a, b, c, d, e⟩ := Ycf ps B hp K h;exact ⟨ys, B', rest, es, a, b, c, d, fun B2 hB2 φ => (e B2 hB2 φ).1⟩
def oid (t : Nat) : Nat := 3 * (1000 + t) + 1
def Yc7 : List (Nat × AV) -> Nat -> Option AV
 | [], _ => none
 | p :: s, t => match Nat.beq p.1 t with | true => some p.2 | false => Yc7 s t
def Yky (s : List (Nat × AV)) : Nat -> Nat -> List AV
 | _, 0 => []
 | t, n + 1 => (match Yc7 s t with | some y => y | none => .opq (oid t)) :: Yky s (t + 1) n
def tmOf (len : Nat) (s : List (Nat × AV)) : List AV := Yky s 0 len
theorem Yhh (s : List (Nat × AV)) : ∀ (n t k : Nat), (Yky s t n)[k]? = if k < n then some (match Yc7 s (t + k) with | some y => y | none => .opq (oid (t + k))) else none
 | 0, t, k => by simp [Yky]
 | n + 1, t, 0 => by simp [Yky]
 | n + 1, t, k + 1 => by simp [Yky, Yhh s n (t + 1) k, show t + 1 + k = t + (k + 1) by omega]
theorem Yft (s : List (Nat × AV)) : ∀ (n t : Nat), (Yky s t n).length = n
 | 0, _ => rfl
 | n + 1, t => by simp [Yky, Yft s n]
def Yov : List (Nat × Pt) -> List (Nat × AV) -> List Ed -> Prop
 | [], s, es => s = [] /\ es = []
 | p :: ps, s, es => ∃ y s' e1 e2, s = (p.1, y) :: s' /\ es = e1 ++ e2 /\ Yow p.2 y e1 /\ Yov ps s' e2
def Y1h (p : Pt) (x : AV) (B : Bd) (K : AV -> Bd -> List Ed -> Prop) : Prop :=
 match p with
 | .held q => (match x with | .held z => Ybv q z B fun y B es => K (.held y) B es | _ => Stuck 457)
 | p => Ybv p x B K
def Yxf (tm : List AV) : List (Nat × Pt) -> Bd -> (List (Nat × AV) -> Bd -> List Ed -> Prop) -> Prop
 | [], B, K => K [] B []
 | (t, p) :: ps, B, K => getK tm t fun x => Y1h p x B fun y B e1 => Yxf tm ps B fun s B e2 => K ((t, y) :: s) B (e1 ++ e2)
def FitS (B : Bd) (x y : AV) : Prop := (x.rd = true /\ y.rd = true /\ Same B x y) \/ ∃ x' y', x = .held x' /\ y = .held y' /\ Same B x' y'
theorem FitS.ext {B B' : Bd} {x y : AV} (h : FitS B x y) (hB : ExtB B B') : FitS B' x y := by
 rcases h with ⟨h1, h2, h3⟩ | ⟨x', y', h1, h2, h3⟩
 ·exact .inl ⟨h1, h2, h3.ext hB⟩
 ·exact .inr ⟨x', y', h1, h2, h3.ext hB⟩
theorem Yv2 {p : Pt} {x : AV} {B : Bd} {K : AV -> Bd -> List Ed -> Prop} (h : Y1h p x B K) : ∃ y B' es, K y B' es /\ Yow p y es /\ ExtB B B' /\ FitS B' x y := by
 unfold Y1h at h
 split at h
 ·split at h
  ·obtain ⟨y, B', es, h1, h2, h3, h4, _⟩ := Ydh _ _ _ _ h;exact ⟨_, _, _, h1, ⟨_, rfl, h2⟩, h3, .inr ⟨_, _, rfl, rfl, h4⟩⟩
  ·exact h.elim
 ·obtain ⟨y, B', es, h1, h2, h3, h4, h5, h6⟩ := Ydh _ _ _ _ h;exact ⟨_, _, _, h1, h2, h3, .inl ⟨h5, h6, h4⟩⟩
theorem Yig {tm : List AV} : ∀ (ps : List (Nat × Pt)) (B : Bd) (K : List (Nat × AV) -> Bd -> List Ed -> Prop), Yxf tm ps B K -> ∃ s B' es, K s B' es /\ Yov ps s es /\ ExtB B B' /\ ∀ q ∈ s, ∃ x, tm[q.1]? = some x /\ FitS B' x q.2
 | [], B, K, h => ⟨[], B, [], h, ⟨rfl, rfl⟩, .refl _, fun q hq => by cases hq⟩
 | (t, p) :: ps, B, K, h => by
  obtain ⟨x, h1, h2⟩ := Ybh h;obtain ⟨y, B1, e1, h3, h4, h5, h6⟩ := Yv2 h2;obtain ⟨s, B2, e2, k1, k2, k3, k4⟩ := Yig ps B1 _ h3;refine ⟨_, _, _, k1, ⟨_, _, _, _, rfl, rfl, h4, k2⟩, h5.trans k3, fun q hq => ?_⟩;rcases List.mem_cons.1 hq with rfl | hq
  ·exact ⟨x, h1, h6.ext k3⟩
  ·exact k4 q hq
theorem Ynd {s : List (Nat × AV)} {t : Nat} {y : AV} : Yc7 s t = some y -> (t, y) ∈ s := by
 induction s with
 | nil => intro h; cases h
 | cons p s ih =>
  intro h;unfold Yc7 at h
  split at h
  ·rename_i hb;cases h;rw [<- Ye.1 hb];exact List.mem_cons_self
  ·exact List.mem_cons_of_mem _ (ih h)
end Go.Proofs.YtladoaeefkpdiaaGreatDoor
namespace Go.Proofs.YtladoaeefkpdiaaGreatDoor
open Go.RowKit
variable [InW]
attribute [local irreducible] Go.Oper.wp
def Yep (φ : Phi) (B : Bd) (a : Act) : Phi := fun i => if i % 3 = 1 /\ 3001 <= i then ⟨0, false, 0, none, 0, a.tmps.getD (i / 3 - 1000) undef, fun _ => False⟩ else hB φ B i
theorem Yta (φ : Phi) (B : Bd) (a : Act) (t : Nat) : (Yep φ B a (oid t)).v = a.tmps.getD t undef := by
 have h1 : oid t % 3 = 1 /\ 3001 <= oid t := by unfold oid; omega
 have h2 : oid t / 3 - 1000 = t := by unfold oid; omega
 simp [Yep, h1, h2]
def Ycv (i : Nat) : Bool := !(Nat.beq (i % 3) 1 && Nat.ble 3001 i)
theorem Y0 {φ : Phi} {B : Bd} {a : Act} {i : Nat} (h : Ycv i = true) : Yep φ B a i = hB φ B i := by
 unfold Yep;rw [if_neg];rintro ⟨h1, h2⟩;simp only [Ycv, Ye.2 h1, Nat.ble_eq_true_of_le h2, Bool.and_self, Bool.not_true, Bool.false_eq_true] at h
theorem Yyt {x : AV} (h : x.rd = true) : x.isHeld = false := by cases x <;> first | rfl | cases h
def Yk7 (s : List (Nat × AV)) : List AV -> Nat -> Bool
 | [], _ => true
 | x :: xs, t => match x with
  | .held _ => (match Yc7 s t with | some _ => Yk7 s xs (t + 1) | none => false)
  | _ => Yk7 s xs (t + 1)
theorem Yik {s : List (Nat × AV)} : ∀ {xs : List AV} {t : Nat}, Yk7 s xs t = true -> ∀ (k : Nat) (x : AV), xs[k]? = some x -> x.isHeld = true -> ∃ y, Yc7 s (t + k) = some y
 | [], _, _, k, x, h, _ => by simp at h
 | z :: xs, t, hh, k, x, hx, hd => by
  have rest : Yk7 s xs (t + 1) = true := by
   unfold Yk7 at hh
   split at hh
   ·split at hh
    ·exact hh
    ·cases hh
   ·exact hh
  cases k with
  | zero =>
   simp only [List.getElem?_cons_zero, Option.some.injEq] at hx;subst hx;cases z <;> simp [AV.isHeld] at hd;unfold Yk7 at hh;simp only at hh
   split at hh
   ·rename_i y hy; exact ⟨y, by simpa using hy⟩
   ·cases hh
  | succ k =>
   have := Yik rest k x (by simpa using hx) hd;rwa [show t + (k + 1) = t + 1 + k by omega]
theorem Yt5 {x : AV} {xs : List AV} (h : x.isHeld = false) : Ybf (x :: xs) = Ybf xs := by cases x <;> first | rfl | cases h
def Y3a (φ φ2 : Phi) (a : Act) (k : Nat) (x y : AV) : Prop :=
 (x.isHeld = false /\ y.isHeld = false /\ (y.rd = true -> a.tmps[k]? = some (y.conc φ2))) \/ ∃ x' y', x = .held x' /\ y = .held y' /\ y'.conc φ2 = x'.conc φ
theorem Yp8 {φ φ2 : Phi} {a : Act} : ∀ {xs ys : List AV} {t : Nat}, xs.length = ys.length -> (∀ k x y, xs[k]? = some x -> ys[k]? = some y -> Y3a φ φ2 a (t + k) x y) -> (Ybf ys).map (Ye4 φ2) = (Ybf xs).map (Ye4 φ)
 | [], [], _, _, _ => rfl
 | x :: xs, y :: ys, t, hl, h => by
  have ih := Yp8 (φ := φ) (φ2 := φ2) (a := a) (xs := xs) (ys := ys) (t := t + 1) (by simpa using hl) fun k u v hu hv => by
   rw [show t + 1 + k = t + (k + 1) by omega];exact h (k + 1) u v (by simpa using hu) (by simpa using hv)
  rcases h 0 x y rfl rfl with ⟨h1, h2, _⟩ | ⟨x', y', rfl, rfl, hf⟩
  ·rw [Yt5 h1, Yt5 h2];exact ih
  ·simp only [Ybf, List.map_cons, ih, Ye4, hf]
 | [], _ :: _, _, hl, _ => by simp at hl
 | _ :: _, [], _, hl, _ => by simp at hl
theorem RepT.as {φ φ2 : Phi} {tm tm2 : List AV} {a : Act} (h : RepT φ tm a) (hl : tm.length = tm2.length) (hs : ∀ k x y, tm[k]? = some x -> tm2[k]? = some y -> Y3a φ φ2 a k x y) : RepT φ2 tm2 a := by
 have get : ∀ k y, tm2[k]? = some y -> ∃ x, tm[k]? = some x /\ Y3a φ φ2 a k x y := fun k y hy => by
  have hk : k < tm.length := by rw [hl]; exact (List.getElem?_eq_some_iff.1 hy).1
  exact ⟨tm[k], List.getElem?_eq_getElem hk, hs k _ _ (List.getElem?_eq_getElem hk) hy⟩
 refine ⟨fun t v hv hh => ?_, fun t v hv hh => ?_, fun t v hv hr => ?_, ?_, by rw [<- hl]; exact h.len⟩
 ·obtain ⟨x, hx, h1⟩ := get t v hv;rcases h1 with ⟨h2, _, _⟩ | ⟨_, _, _, rfl, _⟩
  ·exact h.size t x hx h2
  ·cases hh
 ·obtain ⟨x, hx, h1⟩ := get t v hv;rcases h1 with ⟨_, h2, _⟩ | ⟨x', _, rfl, rfl, _⟩
  ·rw [h2] at hh; cases hh
  ·exact h.held t _ hx rfl
 ·obtain ⟨x, hx, h1⟩ := get t v hv;rcases h1 with ⟨_, _, h2⟩ | ⟨x', _, rfl, rfl, _⟩
  ·exact h2 hr
  ·cases hr
 ·rw [h.df]
  congr 1
  exact (Yp8 (t := 0) hl fun k x y hx hy => by rw [Nat.zero_add]; exact hs k x y hx hy).symm
mutual
theorem Yln {φ : Phi} {B : Bd} {a : Act} : ∀ y : AV, y.ids Ycv = true -> y.conc (Yep φ B a) = y.conc (hB φ B)
 | .v _, _ => rfl
 | .ptr id k, h => by simp only [AV.conc, Y0 (show Ycv id = true from h)]
 | .sl id _ _ _, h => by simp only [AV.conc, Y0 (show Ycv id = true from h)]
 | .slc id _ _ _, h => by simp only [AV.conc, Y0 (show Ycv id = true from h)]
 | .emp id, h => by simp only [AV.conc, Y0 (show Ycv id = true from h)]
 | .agg cs, h => by simp only [AV.conc, Ych cs h]
 | .tup cs, h => by simp only [AV.conc, Ych cs h]
 | .fn f x y, h => by
  unfold AV.ids at h
  split at h
  ·rename_i h1;simp only [AV.conc, Ych x h1, Ych y h]
  ·cases h
 | .ifc t x, h => by simp only [AV.conc, Yln x h]
 | .mp id, h => by simp only [AV.conc, Y0 (show Ycv id = true from h)]
 | .yl id, h => by simp only [AV.conc, Y0 (show Ycv id = true from h)]
 | .held _, _ => rfl
 | .junk, _ => rfl
 | .si _ _, _ => rfl
 | .sb _, _ => rfl
 | .ss _, _ => rfl
 | .rs _ _, _ => rfl
 | .rp _ _ _ _, _ => rfl
 | .rw id, h => by simp only [AV.conc, Y0 (show Ycv id = true from h)]
 | .ep id _ _ _, h => by simp only [AV.conc, Y0 (show Ycv id = true from h)]
 | .rwp id _ _ _, h => by simp only [AV.conc, Y0 (show Ycv id = true from h)]
 | .opq id, h => by simp only [AV.conc, Y0 (show Ycv id = true from h)]
 | .fp id _ _ _, h => by simp only [AV.conc, Y0 (show Ycv id = true from h)]
theorem Ych {φ : Phi} {B : Bd} {a : Act} : ∀ ys : List AV, AV.idsL Ycv ys = true -> AV.concL (Yep φ B a) ys = AV.concL (hB φ B) ys
 | [], _ => rfl
 | y :: ys, h => by
  unfold AV.idsL at h
  split at h
  ·rename_i h1;simp only [AV.concL, Yln y h1, Ych ys h]
  ·cases h
end
theorem Y7y {φ : Phi} {B : Bd} {a : Act} {pid : Nat} (hp : Ycv pid = true) : ∀ it : It, it.ids Ycv = true -> it.conc (Yep φ B a) pid = it.conc (hB φ B) pid
 | .blk _ cs, h => by simp only [It.conc, Y0 hp, Ych cs h]
 | .row _ _ _ cs, h => by simp only [It.conc, Y0 hp, Ych cs h]
 | .rowV .., _ => by simp only [It.conc, Y0 hp]
 | .obj _, _ => by simp only [It.conc, Y0 hp]
 | .lp _ cs, h => by simp only [It.conc, Y0 hp, Ych cs h]
 | .dead, _ => rfl
 | .arr .., _ => by simp only [It.conc, Y0 hp]
 | .bk _ _ _ j, h => by simp only [It.conc, Y0 hp, Y0 (show Ycv j = true from h)]
 | .nst .., _ => by simp only [It.conc, Y0 hp]
 | .fro .., _ => by simp only [It.conc, Y0 hp]
 | .bkv _ _ _ cs j, h => by
  have h' : (match Ycv j with | true => AV.idsL Ycv cs | false => false) = true := h
  split at h'
  ·rename_i h1;simp only [It.conc, Y0 hp, Y0 h1, Ych cs h']
  ·cases h'
def lowH : Heap -> Bool
 | [] => true
 | p :: h => Ycv p.1 && p.2.ids Ycv && lowH h
theorem Y1j {φ : Phi} {B : Bd} {a : Act} : ∀ h : Heap, lowH h = true -> Yb (Yep φ B a) h = Yb (hB φ B) h
 | [], _ => rfl
 | p :: h, hh => by
  simp only [lowH, Bool.and_eq_true] at hh;have := Y1j (φ := φ) (B := B) (a := a) h hh.2;simp only [Yb, List.map_cons, Y7y hh.1.1 p.2 hh.1.2] at this ⊢;rw [this]
def lowS : List (Nat × AV) -> Bool
 | [] => true
 | p :: s => p.2.ids Ycv && lowS s
theorem Yxi : ∀ {s : List (Nat × AV)}, lowS s = true -> ∀ q ∈ s, q.2.ids Ycv = true
 | [], _, q, hq => by cases hq
 | p :: s, h, q, hq => by
  simp only [lowS, Bool.and_eq_true] at h;rcases List.mem_cons.1 hq with rfl | hq
  ·exact h.1
  ·exact Yxi h.2 q hq
def nthA : List AV -> Nat -> AV
 | [], _ => .junk
 | x :: xs, n => match n with | 0 => x | n + 1 => nthA xs n
def Y69 (id : Nat) (hp : Heap) (K : Heap -> Prop) : Prop :=
 match look hp id with
 | some (.bk T ts xs j) => (match look hp j with
  | some (.arr T' ts' zs) => Yc (Nat.beq T' T && Ycc.sameTs ts' ts && !(Nat.beq j id)) (Pre (zs.take xs.length = xs) (updK hp id (.arr T ts xs) fun hp => updK hp j .dead K))
  | _ => K hp)
 | _ => K hp
def Yn8 : List (Nat × Pt) -> List AV -> Heap -> (Heap -> Prop) -> Prop
 | [], _, hp, K => K hp
 | p :: ps, tm, hp, K => match p.2 with
  | .row _ => (match nthA tm p.1 with | .rw id => Y69 id hp fun hp => Yn8 ps tm hp K | _ => Yn8 ps tm hp K)
  | _ => Yn8 ps tm hp K
theorem Y3y {hp : Heap} (hn : (keys hp).Nodup) {i j : Nat} {x y : It} (hi : look hp i = some x) (hj : look hp j = some y) (hne : i ≠ j) : ∃ r, hp.Perm ((i, x) :: (j, y) :: r) /\ ∀ x' y', (upd (upd hp i x') j y').Perm ((i, x') :: (j, y') :: r) := by
 induction hp with
 | nil => simp [look] at hi
 | cons p h ih =>
  simp only [keys, List.map_cons, List.nodup_cons] at hn;have one : ∀ (h : Heap), (keys h).Nodup -> ∀ (k : Nat) (z : It), look h k = some z -> ∃ r, h.Perm ((k, z) :: r) /\ ∀ z', (upd h k z').Perm ((k, z') :: r) := by
   intro h
   induction h with
   | nil => intro _ k z hk; simp [look] at hk
   | cons q h ih2 =>
    intro hn k z hk;simp only [keys, List.map_cons, List.nodup_cons] at hn;rw [Yt] at hk
    split at hk
    ·rename_i e;cases hk;refine ⟨h, by rw [<- e], fun z' => ?_⟩;unfold upd;rw [Ye.2 e, <- e]
    ·rename_i e;obtain ⟨r, h1, h2⟩ := ih2 hn.2 k z hk;refine ⟨q :: r, (h1.cons q).trans (List.Perm.swap _ _ _), fun z' => ?_⟩;unfold upd;rw [Y4.2 e];exact ((h2 z').cons q).trans (List.Perm.swap _ _ _)
  rw [Yt] at hi hj
  by_cases e1 : p.1 = i
  ·rw [if_pos e1] at hi;cases hi;have e2 : p.1 ≠ j := fun e => hne (e1.symm.trans e);rw [if_neg e2] at hj;obtain ⟨r, h1, h2⟩ := one h hn.2 j y hj;refine ⟨r, by rw [<- e1]; exact h1.cons p, fun x' y' => ?_⟩;have e3 : upd (p :: h) i x' = (p.1, x') :: h := by unfold upd; rw [Ye.2 e1]
   rw [e3];unfold upd;rw [Y4.2 e2, <- e1];exact (h2 y').cons _
  ·rw [if_neg e1] at hi
   by_cases e2 : p.1 = j
   ·rw [if_pos e2] at hj;cases hj;obtain ⟨r, h1, h2⟩ := one h hn.2 i x hi;refine ⟨r, ?_, fun x' y' => ?_⟩
    ·rw [<- e2]; exact (h1.cons p).trans (List.Perm.swap _ _ _)
    ·have e3 : upd (p :: h) i x' = p :: upd h i x' := by conv => lhs; unfold upd; rw [Y4.2 e1]
     rw [e3]
     conv => lhs; unfold upd; rw [Ye.2 e2]
     rw [<- e2];exact ((h2 x').cons _).trans (List.Perm.swap _ _ _)
   ·rw [if_neg e2] at hj;obtain ⟨r, h1, h2⟩ := ih hn.2 hi hj;refine ⟨p :: r, (h1.cons p).trans ?_, fun x' y' => ?_⟩
    ·exact (List.Perm.swap _ _ _).trans ((List.Perm.swap _ _ _).cons _)
    ·have e3 : upd (upd (p :: h) i x') j y' = p :: upd (upd h i x') j y' := by
      have e4 : upd (p :: h) i x' = p :: upd h i x' := by conv => lhs; unfold upd; rw [Y4.2 e1]
      rw [e4]
      conv => lhs; unfold upd; rw [Y4.2 e2]
     rw [e3];exact ((h2 x' y').cons p).trans ((List.Perm.swap _ _ _).trans ((List.Perm.swap _ _ _).cons _))
theorem Yzt {id : Nat} {hp : Heap} {K : Heap -> Prop} (h : Y69 id hp K) : ∃ hp', K hp' /\ ∀ (φ0 φ : Phi) (w0 : World) (M : List Nat) (R : RL) (tm : List AV) (a : Act) (w : World), RepS φ0 φ w0 M R tm hp a w -> RepS φ0 φ w0 M R tm hp' a w := by
 unfold Y69 at h
 split at h
 ·rename_i T ts xs j hl
  split at h
  ·rename_i T' ts' zs hl2;obtain ⟨h1, h2⟩ := Ya h;simp only [Bool.and_eq_true, Ye, Bool.not_eq_true'] at h1;obtain ⟨⟨rfl, h12⟩, h13⟩ := h1;obtain ⟨e, _⟩ := Y9 h12;subst e;obtain ⟨h3, h4⟩ := h2;have h5 := Yeu.1 (Yeu.1 h4);refine ⟨_, h5, fun φ0 φ w0 M R tm a w hr => ⟨hr.tmps, ?_, by rw [Ylq, Ylq]; exact hr.nd, hr.base⟩⟩;have hne : id ≠ j := fun e => Y4.1 h13 e.symm;obtain ⟨r, p1, p2⟩ := Y3y hr.nd hl hl2 hne;have hS := hr.st.perm ((Yv p1).append_right R);have hS2 := St.lentBack (R := Yb φ r ++ R) h3 (by simpa [Yb] using hS);refine (show St w0 M (Yb φ ((id, .arr T' ts' xs) :: (j, .dead) :: r) ++ R) w by simpa [Yb] using hS2).perm ?_;exact ((Yv (p2 _ _)).append_right R).symm
  ·exact ⟨_, h, fun _ _ _ _ _ _ _ _ hr => hr⟩
 ·exact ⟨_, h, fun _ _ _ _ _ _ _ _ hr => hr⟩
theorem Yem : ∀ {ps : List (Nat × Pt)} {tm : List AV} {hp : Heap} {K : Heap -> Prop}, Yn8 ps tm hp K -> ∃ hp', K hp' /\ ∀ (φ0 φ : Phi) (w0 : World) (M : List Nat) (R : RL) (tm : List AV) (a : Act) (w : World), RepS φ0 φ w0 M R tm hp a w -> RepS φ0 φ w0 M R tm hp' a w
 | [], _, _, _, h => ⟨_, h, fun _ _ _ _ _ _ _ _ hr => hr⟩
 | p :: ps, tm, hp, K, h => by
  unfold Yn8 at h
  split at h
  ·split at h
   ·obtain ⟨hp1, h1, h2⟩ := Yzt h;obtain ⟨hp2, h3, h4⟩ := Yem h1;exact ⟨hp2, h3, fun φ0 φ w0 M R tm a w hr => h4 φ0 φ w0 M R tm a w (h2 φ0 φ w0 M R tm a w hr)⟩
   ·exact Yem h
  ·exact Yem h
def Y5o (T : List (Nat × Pt)) (H : List (Nat × PI)) (tm : List AV) (hp : Heap) (K : List (Nat × AV) -> Heap -> Bd -> Heap -> List Ed -> Prop) : Prop :=
 Yxf tm T [] fun s B e1 => Yd0 H B hp fun ys B rest e2 => Yc (Yk7 s tm 0 && lowS s && lowH ys && Yfc (ys.map (·.1))) (K s ys B rest (e1 ++ e2))
def Yx2 (φ : Phi) : Phi := fun x => φ (3 * x + 1)
theorem Ywk {T : List (Nat × Pt)} {H : List (Nat × PI)} {tm : List AV} {hp : Heap} {K : List (Nat × AV) -> Heap -> Bd -> Heap -> List Ed -> Prop} (h : Y5o T H tm hp K) :
  ∃ s ys B rest e1 e2, K s ys B rest (e1 ++ e2) /\ Yov T s e1 /\ Yir H ys e2 /\ rest.Sublist hp /\ (∀ (k : Nat) (x : AV), tm[k]? = some x -> x.isHeld = true -> ∃ y, Yc7 s k = some y) /\ (∀ q ∈ s, ∃ x, tm[q.1]? = some x /\ FitS B x q.2) /\ (keys ys).Nodup /\
   ∀ (φ0 φ : Phi) (w0 : World) (M : List Nat) (R : RL) (a : Act) (w : World), RepS φ0 φ w0 M R tm hp a w -> RepS (Yx2 (Yep φ B a)) (Yep φ B a) w0 M (Yb φ rest ++ R) (tmOf tm.length s) ys a w := by
 obtain ⟨s, B1, e1, h1, h2, h3, h4⟩ := Yig T [] _ h;obtain ⟨ys, B2, rest, e2, k1, k2, k3, k3s, k4⟩ := Yfx H B1 hp _ h1;obtain ⟨hb, hk⟩ := Ya k1;simp only [Bool.and_eq_true] at hb;obtain ⟨⟨⟨b1, b2⟩, b3⟩, b4⟩ := hb;have hheld : ∀ (k : Nat) (x : AV), tm[k]? = some x -> x.isHeld = true -> ∃ y, Yc7 s k = some y := fun k x hx hd => by
  have := Yik b1 k x hx hd;simpa using this
 have hfit : ∀ q ∈ s, ∃ x, tm[q.1]? = some x /\ FitS B2 x q.2 := fun q hq => by
  obtain ⟨x, hx, hf⟩ := h4 q hq;exact ⟨x, hx, hf.ext k3⟩
 refine ⟨s, ys, B2, rest, e1, e2, hk, h2, k2, k3s, hheld, hfit, Ybk b4, fun φ0 φ w0 M R a w hr => ⟨?_, ?_, Ybk b4, fun x => rfl⟩⟩
 ·refine hr.tmps.as (by rw [tmOf, Yft]) fun k x y hx hy => ?_;rw [tmOf, Yhh, Nat.zero_add] at hy
  split at hy
  ·simp only [Option.some.injEq] at hy
   split at hy
   ·rename_i y' hl;subst hy;obtain ⟨x', hx', hf⟩ := hfit _ (Ynd hl);rw [hx] at hx';cases hx';have hlow := Yxi b2 _ (Ynd hl);rcases hf with ⟨f1, f2, f3⟩ | ⟨x1, y1, f1, f2, f3⟩
    ·refine .inl ⟨Yyt f1, Yyt f2, fun _ => ?_⟩;rw [Yln _ hlow, f3 B2 (.refl _) φ];exact hr.tmps.slot k x hx f1
    ·dsimp only at f2;subst f1; subst f2;refine .inr ⟨_, _, rfl, rfl, ?_⟩;rw [Yln _ (show y1.ids Ycv = true from hlow), f3 B2 (.refl _) φ]
   ·rename_i hl;subst hy;have hnh : x.isHeld = false := by
     cases hd : x.isHeld with
     | false => rfl
     | true => obtain ⟨y, hy⟩ := hheld k x hx hd; rw [hl] at hy; cases hy
    refine .inl ⟨hnh, rfl, fun _ => ?_⟩;have hk2 := hr.tmps.size k x hx hnh
    show a.tmps[k]? = some (Yep φ B2 a (oid k)).v
    rw [Yta];simp [Array.getD_eq_getD_getElem?, hk2]
  ·cases hy
 ·have := k4 B2 (.refl _) φ w0 M [] R w (by simpa using hr.st);rw [Y1j ys b3];simpa using this
end Go.Proofs.YtladoaeefkpdiaaGreatDoor
